/- Made by a program of ours out of the print of the loaded functions: for each of some functions a plain function, and the walk that shows that a call comes to what it says. No condition but those of each theorem. -/
import Derived.Test.YtgkeapbeogmfjaaQ0
import Derived.Test.YtgkeapbeogmfjaaQ25
import Derived.Test.YtgkeapbeogmfjaaQ26
import Derived.Test.YtgkeapbeogmfjaaQ28
import Derived.Test.YtgkeapbeogmfjaaQ47
import Derived.Test.YtgkeapbeogmfjaaQ48
namespace Go.Proofs.Ytgkeapbeogmfjaa.Q
open Go.RowKit Go.Proofs.YtgkeapbeogmfjaaW.PrintWords Go.Proofs.YtgkeapbeogmfjaaW.PrintLast Go.Proofs.YtgkeapbeogmfjaaW.PrintMore
attribute [local go_sem] max2_int min2_int max_two min_two max_three min_three max_four min_four   -- for this text's walks alone
set_option linter.unusedVariables false
set_option linter.unusedSimpArgs false

/-! ### laws_FnExactRowOk: function 8 -/
mutual
def laws_FnExactRowOk.j0 : Nat → Int → Int → List (S_LItem) → Option (Bool)
  | 0, _, _, _ => none
  | k + 1, x980000, x980001, x980002 => (laws_toRow.f k x980000 x980001 x980002).bind fun bt981 => ((spec_RowOk.f k bt981.1 bt981.2.1 bt981.2.2).bind fun t986 => ((laws_toRow.f k x980000 x980001 x980002).bind fun bt987 => ((impl_RowOk.f k bt987.1 bt987.2.1 bt987.2.2).bind fun t993 => (if (t993 != t986) = true then (some false) else (laws_FnExactRowOk.j1 k x980000 x980001 x980002 bt987.1 bt987.2.1 bt987.2.2)))))
def laws_FnExactRowOk.j1 : Nat → Int → Int → List (S_LItem) → Int → Int → List (S_Item) → Option (Bool)
  | 0, _, _, _, _, _, _ => none
  | k + 1, x980000, x980001, x980002, x993000, x993001, x993002 => (laws_toRow.f k x980000 x980001 x980002).bind fun bt994 => ((laws_eqRow.f k x993000 x993001 x993002 bt994.1 bt994.2.1 bt994.2.2).bind fun t999 => (if t999 = true then (some true) else (some false)))
end
def laws_FnExactRowOk.f (k : Nat) (a0_0 : Int) (a0_1 : Int) (l0_2 : List (S_LItem)) : Option (Bool) := (laws_szRow.f k a0_0 a0_1 l0_2 1048576).bind fun t980 => (if t980 < 0 then (some true) else (laws_FnExactRowOk.j0 k a0_0 a0_1 l0_2))
theorem laws_FnExactRowOk.mono_l : ∀ k, (∀ y0 y1 y2, LeO (laws_FnExactRowOk.j0 k y0 y1 y2) (laws_FnExactRowOk.j0 (k + 1) y0 y1 y2)) ∧ (∀ y0 y1 y2 y3 y4 y5, LeO (laws_FnExactRowOk.j1 k y0 y1 y2 y3 y4 y5) (laws_FnExactRowOk.j1 (k + 1) y0 y1 y2 y3 y4 y5))
  | 0 => ⟨fun _ _ _ r h => by simp [laws_FnExactRowOk.j0] at h, fun _ _ _ _ _ _ r h => by simp [laws_FnExactRowOk.j1] at h⟩
  | k + 1 => by
    obtain ⟨ih0, ih1⟩ := laws_FnExactRowOk.mono_l k
    refine ⟨?_, ?_⟩
    · intro y0 y1 y2
      unfold laws_FnExactRowOk.j0
      repeat' first
      | (with_reducible exact ih0 _ _ _)
      | (with_reducible exact ih1 _ _ _ _ _ _)
      | (with_reducible exact impl_RowOk.mono _ _ _ _)
      | (with_reducible exact laws_eqRow.mono _ _ _ _ _ _ _)
      | (with_reducible exact laws_szRow.mono _ _ _ _ _)
      | (with_reducible exact laws_toRow.mono _ _ _ _)
      | (with_reducible exact spec_RowOk.mono _ _ _ _)
      | (with_reducible exact LeO.refl _)
      | (with_reducible exact LeO.none _)
      | (with_reducible refine LeO.ite ?_ ?_)
      | (with_reducible refine LeO.bind ?_ (fun _ => ?_))
      | exact ih0 _ _ _
      | exact ih1 _ _ _ _ _ _
      | exact impl_RowOk.mono _ _ _ _
      | exact laws_eqRow.mono _ _ _ _ _ _ _
      | exact laws_szRow.mono _ _ _ _ _
      | exact laws_toRow.mono _ _ _ _
      | exact spec_RowOk.mono _ _ _ _
      | exact LeO.none _
      | refine LeO.ite ?_ ?_
      | refine LeO.bind ?_ (fun _ => ?_)
    · intro y0 y1 y2 y3 y4 y5
      unfold laws_FnExactRowOk.j1
      repeat' first
      | (with_reducible exact ih0 _ _ _)
      | (with_reducible exact ih1 _ _ _ _ _ _)
      | (with_reducible exact impl_RowOk.mono _ _ _ _)
      | (with_reducible exact laws_eqRow.mono _ _ _ _ _ _ _)
      | (with_reducible exact laws_szRow.mono _ _ _ _ _)
      | (with_reducible exact laws_toRow.mono _ _ _ _)
      | (with_reducible exact spec_RowOk.mono _ _ _ _)
      | (with_reducible exact LeO.refl _)
      | (with_reducible exact LeO.none _)
      | (with_reducible refine LeO.ite ?_ ?_)
      | (with_reducible refine LeO.bind ?_ (fun _ => ?_))
      | exact ih0 _ _ _
      | exact ih1 _ _ _ _ _ _
      | exact impl_RowOk.mono _ _ _ _
      | exact laws_eqRow.mono _ _ _ _ _ _ _
      | exact laws_szRow.mono _ _ _ _ _
      | exact laws_toRow.mono _ _ _ _
      | exact spec_RowOk.mono _ _ _ _
      | exact LeO.none _
      | refine LeO.ite ?_ ?_
      | refine LeO.bind ?_ (fun _ => ?_)
theorem laws_FnExactRowOk.mono : ∀ a0 a1 a2 k, LeO (laws_FnExactRowOk.f k a0 a1 a2) (laws_FnExactRowOk.f (k + 1) a0 a1 a2) := by
  intro a0 a1 a2 k
  obtain ⟨ih0, ih1⟩ := laws_FnExactRowOk.mono_l k
  unfold laws_FnExactRowOk.f
  repeat' first
      | (with_reducible exact ih0 _ _ _)
      | (with_reducible exact ih1 _ _ _ _ _ _)
      | (with_reducible exact impl_RowOk.mono _ _ _ _)
      | (with_reducible exact laws_eqRow.mono _ _ _ _ _ _ _)
      | (with_reducible exact laws_szRow.mono _ _ _ _ _)
      | (with_reducible exact laws_toRow.mono _ _ _ _)
      | (with_reducible exact spec_RowOk.mono _ _ _ _)
      | (with_reducible exact LeO.refl _)
      | (with_reducible exact LeO.none _)
      | (with_reducible refine LeO.ite ?_ ?_)
      | (with_reducible refine LeO.bind ?_ (fun _ => ?_))
      | exact ih0 _ _ _
      | exact ih1 _ _ _ _ _ _
      | exact impl_RowOk.mono _ _ _ _
      | exact laws_eqRow.mono _ _ _ _ _ _ _
      | exact laws_szRow.mono _ _ _ _ _
      | exact laws_toRow.mono _ _ _ _
      | exact spec_RowOk.mono _ _ _ _
      | exact LeO.none _
      | refine LeO.ite ?_ ?_
      | refine LeO.bind ?_ (fun _ => ?_)
set_option maxHeartbeats 8000000 in
set_option maxRecDepth 100000 in
theorem laws_FnExactRowOk.calls (k : Nat) (a0_0 : Int) (a0_1 : Int) (A0_2 : Option Addr) (c0_2 : Nat) (l0_2 : List (S_LItem)) (r : Bool) (w : World) (hr0_2 : Kd.C k_LItem w A0_2 l0_2.length l0_2) (hc0_2 : l0_2.length ≤ c0_2) (h : laws_FnExactRowOk.f k a0_0 a0_1 l0_2 = some r) :
    Calls Try.prog 8 #[.agg #[.int .i64 a0_0, .int .i64 a0_1, .slice A0_2 l0_2.length c0_2]] w fun e w' => e = .returned (.bool r) ∧ Below w.heap.size w w' := by
  have hu33 := Try.underlying33
  have hu41 := Try.underlying41
  have HR0_2 := Aside0.mk hr0_2
  have HC0_2 := Aside0.mk hc0_2
  clear hr0_2 hc0_2
  have HB := Aside0.mk (Below.refl w.heap.size w)
  have H : ((laws_szRow.f k a0_0 a0_1 l0_2 1048576).bind fun t980 => (if t980 < 0 then (some true) else (laws_FnExactRowOk.j0 k a0_0 a0_1 l0_2))) = some r := h
  clear h
  replace H := Option.bind_eq_some_iff.mp H
  obtain ⟨t980, A20, H⟩ := H
  replace H : (if t980 < 0 then (some true) else (laws_FnExactRowOk.j0 k a0_0 a0_1 l0_2)) = some r := H
  have A2 := Aside0.mk A20
  clear A20
  have HC3 := Aside0.mk H
  clear H
  go_enter Try.func8, Try.ntmps8
  go_upto_if 11 with (first | ((with_reducible refine gate_dst (N := 1) rfl ?_); refine box_event ?hg (N := 1) ?hd (cs := #[.int .i64 a0_0, .int .i64 a0_1, .slice A0_2 l0_2.length c0_2]) (t := 33) ?hr ?_; (case hd => rfl); (case hg => rfl); (case hr => first | (go_simp; done) | (go_simp; rfl)); intro gb979 hg w4 hbox hb; have n0_ := Aside0.mk (below_step (by repeat (first | (with_reducible first | exact HB.out | apply below_alloc | apply pw_below_drewN | apply below_drew1) | exact HB.out)) hb); have n1_ := Aside0.mk (hbox); have n2_ := Aside0.mk ((by rw [hg]; exact (below_size (by repeat (first | (with_reducible first | exact HB.out | apply below_alloc | apply pw_below_drewN | apply below_drew1) | exact HB.out))) : w.heap.size ≤ gb979)); have n3_ := Aside0.mk ((by rw [hg]; exact (below_size (by repeat (first | (with_reducible first | exact HB.out | apply below_alloc | apply pw_below_drewN | apply below_drew1) | exact HB.out))) : w.heap.size ≤ gb979)); clear HB; have HB := n0_; have BK979 := n1_; have GW979 := n2_; have GE979 := n3_; clear n0_ n1_ n2_ n3_; clear hb hbox hg; have hcz5_0 : w4.cell? ⟨gb979, 0, none⟩ = some (.int .i64 a0_0) := (blk_cell BK979.out 0).trans rfl; have hcz5_1 : w4.cell? ⟨gb979, 1, none⟩ = some (.int .i64 a0_1) := (blk_cell BK979.out 1).trans rfl; have hcz5_2 : w4.cell? ⟨gb979, 2, none⟩ = some (.slice A0_2 l0_2.length c0_2) := (blk_cell BK979.out 2).trans rfl; have hfz5_0 := blk_frozen BK979.out 0; have hfz5_1 := blk_frozen BK979.out 1; have hfz5_2 := blk_frozen BK979.out 2) | ((with_reducible refine gate_callee (f := 20) rfl ?_); refine goesL_ (some 9) rfl rfl Try.func20 (by kernel_rfl) rfl #[.agg #[.int .i64 a0_0, .int .i64 a0_1, .slice A0_2 l0_2.length c0_2], .int .i64 1048576] rfl (by (try simp only [List.map_toArray, List.map_cons, List.map_nil]); first | done | rfl | (simp only [List.length_drop, List.length_take]; rfl)) ?_; (with_reducible refine (laws_szRow.calls k a0_0 a0_1 _ _ l0_2 1048576 t980 _ ?side1 ?side2 A2.out).mono ?_); (case side1 => repeat (first | exact (Kd.C_below HR0_2.out HB.out) | (with_reducible refine Kd.C_alloc ?_ _) | (with_reducible refine Kd.C_drewN ?_ _) | (with_reducible refine Kd.C_drew ?_))); (case side2 => exact HC0_2.out); rintro e w6 ⟨rfl, hb⟩; refine ⟨_, rfl, ?_⟩; have n0_ := Aside0.mk (blk_below (g := gb979) (o := .cells #[.int .i64 a0_0, .int .i64 a0_1, .slice A0_2 l0_2.length c0_2] 33 (0, 0)) (by (with_reducible repeat (first | refine blk_drewN ?_ _ | refine blk_drew ?_ | refine blk_alloc ?_ _)); exact BK979.out) hb); have n1_ := Aside0.mk (below_step (by repeat (first | (with_reducible first | exact HB.out | apply below_alloc | apply pw_below_drewN | apply below_drew1 | refine below_set ?_ GE979.out) | exact HB.out)) hb); clear BK979; clear HB; have BK979 := n0_; have HB := n1_; clear n0_ n1_; (try clear hb); (try clear hb2); (try clear hk); (try clear hi)))
  (try simp only [Act.put, List.setIfInBounds_toArray, List.set_cons_zero, List.set_cons_succ])
  go_cut [] (fun wc => ∃ (kq : Nat), Aside0 (laws_FnExactRowOk.j0 kq a0_0 a0_1 l0_2 = some r) ∧ Aside0 (kq ≤ k) ∧ Aside0 (wc.heap[gb979]? = some (.cells #[.int .i64 a0_0, .int .i64 a0_1, (.slice A0_2 l0_2.length c0_2)] 33 (0, 0))) ∧ Aside0 (Below w.heap.size w wc))
  case first =>
    have H := HC3.out
    clear HC3
    by_cases c7 : t980 < 0
    · rw [if_pos c7] at H
      have c7b0 : decide (t980 < 0) = true := decide_eq_true c7
      clear c7
      (first | rw [c7b0] | (simp only [i64_w, i32_w]; rw [c7b0]) | rw [c7b4] | rw [c7b3] | skip)
      obtain rfl := Option.some.inj H
      go_wp2
      go_ret
      exact ⟨by first | rfl | (simp [errW_none, errW_some] <;> rfl) | (simp [*, errW_none, errW_some] <;> rfl), by repeat (first | (with_reducible first | exact HB.out | apply below_alloc | apply pw_below_drewN | apply below_drew1 | refine below_set ?_ GE979.out) | exact HB.out)⟩
    · rw [if_neg c7] at H
      have c7b0 : decide (t980 < 0) = false := decide_eq_false c7
      clear c7
      (first | rw [c7b0] | (simp only [i64_w, i32_w]; rw [c7b0]) | rw [c7b4] | rw [c7b3] | skip)
      have H' := Aside0.mk H
      clear H
      go_wp2
      go_meet
      case rel => exact ⟨_, H', ⟨by first | omega | exact Nat.le_refl _⟩, ⟨by (with_reducible repeat (first | refine blk_drewN ?_ _ | refine blk_drew ?_ | refine blk_alloc ?_ _)); exact BK979.out⟩, ⟨by repeat (first | (with_reducible first | exact HB.out | apply below_alloc | apply pw_below_drewN | apply below_drew1 | refine below_set ?_ GE979.out) | exact HB.out)⟩⟩
  case rest =>
    clear HC3
    try clear c2
    try clear p2
    try clear c7
    try clear c7b0
    try clear hcz5_0
    try clear hcz5_1
    try clear hcz5_2
    try clear hfz5_0
    try clear hfz5_1
    try clear hfz5_2
    obtain ⟨kq, HA, HJ2, BK979, HB⟩ := hcut
    cases kq with
    | zero => exact absurd HA.out (by simp [laws_FnExactRowOk.j0])
    | succ kj2 =>
      have H := HA.out
      clear HA
      simp only [laws_FnExactRowOk.j0] at H
      replace H := Option.bind_eq_some_iff.mp H
      obtain ⟨⟨t981, t982, t983⟩, A80, H⟩ := H
      replace H : ((spec_RowOk.f kj2 t981 t982 t983).bind fun t986 => ((laws_toRow.f kj2 a0_0 a0_1 l0_2).bind fun bt987 => ((impl_RowOk.f kj2 bt987.1 bt987.2.1 bt987.2.2).bind fun t993 => (if (t993 != t986) = true then (some false) else (laws_FnExactRowOk.j1 kj2 a0_0 a0_1 l0_2 bt987.1 bt987.2.1 bt987.2.2))))) = some r := H
      have A8 := Aside0.mk A80
      clear A80
      replace H := Option.bind_eq_some_iff.mp H
      obtain ⟨t986, A90, H⟩ := H
      replace H : ((laws_toRow.f kj2 a0_0 a0_1 l0_2).bind fun bt987 => ((impl_RowOk.f kj2 bt987.1 bt987.2.1 bt987.2.2).bind fun t993 => (if (t993 != t986) = true then (some false) else (laws_FnExactRowOk.j1 kj2 a0_0 a0_1 l0_2 bt987.1 bt987.2.1 bt987.2.2)))) = some r := H
      have A9 := Aside0.mk A90
      clear A90
      replace H := Option.bind_eq_some_iff.mp H
      obtain ⟨⟨t987, t988, t989⟩, A100, H⟩ := H
      replace H : ((impl_RowOk.f kj2 t987 t988 t989).bind fun t993 => (if (t993 != t986) = true then (some false) else (laws_FnExactRowOk.j1 kj2 a0_0 a0_1 l0_2 t987 t988 t989))) = some r := H
      have A10 := Aside0.mk A100
      clear A100
      replace H := Option.bind_eq_some_iff.mp H
      obtain ⟨t993, A110, H⟩ := H
      replace H : (if (t993 != t986) = true then (some false) else (laws_FnExactRowOk.j1 kj2 a0_0 a0_1 l0_2 t987 t988 t989)) = some r := H
      have A11 := Aside0.mk A110
      clear A110
      have HC12 := Aside0.mk H
      clear H
      have hcz13_0 : wc.cell? ⟨gb979, 0, none⟩ = some (.int .i64 a0_0) := (blk_cell BK979.out 0).trans rfl
      have hcz13_1 : wc.cell? ⟨gb979, 1, none⟩ = some (.int .i64 a0_1) := (blk_cell BK979.out 1).trans rfl
      have hcz13_2 : wc.cell? ⟨gb979, 2, none⟩ = some (.slice A0_2 l0_2.length c0_2) := (blk_cell BK979.out 2).trans rfl
      have hfz13_0 := blk_frozen BK979.out 0
      have hfz13_1 := blk_frozen BK979.out 1
      have hfz13_2 := blk_frozen BK979.out 2
      go_upto_if 21 with (first | ((with_reducible refine gate_callee (f := 22) rfl ?_); refine goesL_ (some 13) rfl rfl Try.func22 (by kernel_rfl) rfl #[.agg #[.int .i64 a0_0, .int .i64 a0_1, .slice A0_2 l0_2.length c0_2]] rfl (by (try simp only [List.map_toArray, List.map_cons, List.map_nil]); first | done | rfl | (simp only [List.length_drop, List.length_take]; rfl)) ?_; (with_reducible refine (laws_toRow.calls kj2 a0_0 a0_1 _ _ l0_2 t981 t982 t983 _ ?side1 ?side2 A8.out).mono ?_); (case side1 => repeat (first | exact (Kd.C_below HR0_2.out HB.out) | (with_reducible refine Kd.C_alloc ?_ _) | (with_reducible refine Kd.C_drewN ?_ _) | (with_reducible refine Kd.C_drew ?_))); (case side2 => exact HC0_2.out); rintro e w14 ⟨v984, rfl, ho0, hb⟩; refine ⟨_, rfl, ?_⟩; have n0_ := Aside0.mk (Kd.R_lower ho0 (below_size (by repeat (first | (with_reducible first | exact HB.out | apply below_alloc | apply pw_below_drewN | apply below_drew1 | refine below_set ?_ GE979.out) | exact HB.out)))); have n1_ := Aside0.mk (blk_below (g := gb979) (o := .cells #[.int .i64 a0_0, .int .i64 a0_1, .slice A0_2 l0_2.length c0_2] 33 (0, 0)) (by (with_reducible repeat (first | refine blk_drewN ?_ _ | refine blk_drew ?_ | refine blk_alloc ?_ _)); exact BK979.out) hb); have n2_ := Aside0.mk (below_step (by repeat (first | (with_reducible first | exact HB.out | apply below_alloc | apply pw_below_drewN | apply below_drew1 | refine below_set ?_ GE979.out) | exact HB.out)) hb); clear BK979; clear HB; have HO985 := n0_; have BK979 := n1_; have HB := n2_; clear n0_ n1_ n2_; (try clear hb); (try clear hb2); (try clear hk); (try clear hi); (try clear ho0); obtain ⟨Ao15, co15, eo15⟩ := Kd.R_slice HO985.out; subst eo15) | ((with_reducible refine gate_callee (f := 46) rfl ?_); refine goesL_ (some 14) rfl rfl Try.func46 (by kernel_rfl) rfl #[.agg #[.int .i64 t981, .int .i64 t982, .slice Ao15 t983.length co15]] rfl (by (try simp only [List.map_toArray, List.map_cons, List.map_nil]); first | done | rfl | (simp only [List.length_drop, List.length_take]; rfl)) ?_; (with_reducible refine (spec_RowOk.calls kj2 t981 t982 _ _ t983 t986 _ ?side1 ?side2 A9.out).mono ?_); (case side1 => repeat (first | exact (Kd.R_reads' HO985.out).2.2 | (with_reducible refine Kd.C_alloc ?_ _) | (with_reducible refine Kd.C_drewN ?_ _) | (with_reducible refine Kd.C_drew ?_))); (case side2 => exact (Kd.R_reads' HO985.out).2.1); rintro e w16 ⟨rfl, hb⟩; refine ⟨_, rfl, ?_⟩; have n0_ := Aside0.mk (Kd.R_below (by (with_reducible repeat (first | apply Kd.R_alloc | apply Kd.R_drewN | apply Kd.R_drew)); exact HO985.out) hb); have n1_ := Aside0.mk (blk_below (g := gb979) (o := .cells #[.int .i64 a0_0, .int .i64 a0_1, .slice A0_2 l0_2.length c0_2] 33 (0, 0)) (by (with_reducible repeat (first | refine blk_drewN ?_ _ | refine blk_drew ?_ | refine blk_alloc ?_ _)); exact BK979.out) hb); have n2_ := Aside0.mk (below_step (by repeat (first | (with_reducible first | exact HB.out | apply below_alloc | apply pw_below_drewN | apply below_drew1 | refine below_set ?_ GE979.out) | exact HB.out)) hb); clear HO985; clear BK979; clear HB; have HO985 := n0_; have BK979 := n1_; have HB := n2_; clear n0_ n1_ n2_; (try clear hb); (try clear hb2); (try clear hk); (try clear hi); have hcz17_0 : w16.cell? ⟨gb979, 0, none⟩ = some (.int .i64 a0_0) := (blk_cell BK979.out 0).trans rfl; have hcz17_1 : w16.cell? ⟨gb979, 1, none⟩ = some (.int .i64 a0_1) := (blk_cell BK979.out 1).trans rfl; have hcz17_2 : w16.cell? ⟨gb979, 2, none⟩ = some (.slice A0_2 l0_2.length c0_2) := (blk_cell BK979.out 2).trans rfl; have hfz17_0 := blk_frozen BK979.out 0; have hfz17_1 := blk_frozen BK979.out 1; have hfz17_2 := blk_frozen BK979.out 2) | ((with_reducible refine gate_callee (f := 22) rfl ?_); refine goesL_ (some 16) rfl rfl Try.func22 (by kernel_rfl) rfl #[.agg #[.int .i64 a0_0, .int .i64 a0_1, .slice A0_2 l0_2.length c0_2]] rfl (by (try simp only [List.map_toArray, List.map_cons, List.map_nil]); first | done | rfl | (simp only [List.length_drop, List.length_take]; rfl)) ?_; (with_reducible refine (laws_toRow.calls kj2 a0_0 a0_1 _ _ l0_2 t987 t988 t989 _ ?side1 ?side2 A10.out).mono ?_); (case side1 => repeat (first | exact (Kd.C_below HR0_2.out HB.out) | (with_reducible refine Kd.C_alloc ?_ _) | (with_reducible refine Kd.C_drewN ?_ _) | (with_reducible refine Kd.C_drew ?_))); (case side2 => exact HC0_2.out); rintro e w18 ⟨v990, rfl, ho0, hb⟩; refine ⟨_, rfl, ?_⟩; have n0_ := Aside0.mk (Kd.R_elder' (by (with_reducible repeat (first | apply Kd.R_alloc | apply Kd.R_drewN | apply Kd.R_drew)); exact HO985.out) (Kd.R_base ho0) hb); have n1_ := Aside0.mk (Kd.R_lower (Kd.R_new' ho0 (Kd.R_lt (by (with_reducible repeat (first | apply Kd.R_alloc | apply Kd.R_drewN | apply Kd.R_drew)); exact HO985.out))) (below_size (by repeat (first | (with_reducible first | exact HB.out | apply below_alloc | apply pw_below_drewN | apply below_drew1 | refine below_set ?_ GE979.out) | exact HB.out)))); have n2_ := Aside0.mk (blk_below (g := gb979) (o := .cells #[.int .i64 a0_0, .int .i64 a0_1, .slice A0_2 l0_2.length c0_2] 33 (0, 0)) (by (with_reducible repeat (first | refine blk_drewN ?_ _ | refine blk_drew ?_ | refine blk_alloc ?_ _)); exact BK979.out) hb); have n3_ := Aside0.mk (below_step (by repeat (first | (with_reducible first | exact HB.out | apply below_alloc | apply pw_below_drewN | apply below_drew1 | refine below_set ?_ GE979.out) | exact HB.out)) hb); clear HO985; clear BK979; clear HB; have HO985 := n0_; have HO991 := n1_; have BK979 := n2_; have HB := n3_; clear n0_ n1_ n2_ n3_; (try clear hb); (try clear hb2); (try clear hk); (try clear hi); (try clear ho0)) | ((with_reducible refine gate_dst (N := 5) rfl ?_); refine box_event ?hg (N := 5) ?hd (cs := #[.int .i64 0, .int .i64 0, .slice none 0 0]) (t := 41) ?hr ?_; (case hd => rfl); (case hg => rfl); (case hr => first | (go_simp; done) | (go_simp; rfl)); intro gb992 hg w19 hbox hb; have n0_ := Aside0.mk (Kd.R_below (by (with_reducible repeat (first | apply Kd.R_alloc | apply Kd.R_drewN | apply Kd.R_drew)); exact HO985.out) hb); have n1_ := Aside0.mk (Kd.R_below (by (with_reducible repeat (first | apply Kd.R_alloc | apply Kd.R_drewN | apply Kd.R_drew)); exact HO991.out) hb); have n2_ := Aside0.mk (blk_below (g := gb979) (o := .cells #[.int .i64 a0_0, .int .i64 a0_1, .slice A0_2 l0_2.length c0_2] 33 (0, 0)) (by (with_reducible repeat (first | refine blk_drewN ?_ _ | refine blk_drew ?_ | refine blk_alloc ?_ _)); exact BK979.out) hb); have n3_ := Aside0.mk (below_step (by repeat (first | (with_reducible first | exact HB.out | apply below_alloc | apply pw_below_drewN | apply below_drew1 | refine below_set ?_ GE979.out) | exact HB.out)) hb); have n4_ := Aside0.mk (hbox); have n5_ := Aside0.mk ((by rw [hg]; exact (below_size (by repeat (first | (with_reducible first | exact HB.out | apply below_alloc | apply pw_below_drewN | apply below_drew1 | refine below_set ?_ GE979.out) | exact HB.out))) : w.heap.size ≤ gb992)); have n6_ := Aside0.mk ((by rw [hg]; exact (below_size (by repeat (first | (with_reducible first | exact HB.out | apply below_alloc | apply pw_below_drewN | apply below_drew1 | refine below_set ?_ GE979.out) | exact HB.out))) : w.heap.size ≤ gb992)); have n7_ := Aside0.mk ((by rw [hg]; exact Nat.ne_of_lt (blk_lt (g := gb979) (o := .cells #[.int .i64 a0_0, .int .i64 a0_1, .slice A0_2 l0_2.length c0_2] 33 (0, 0)) (by (with_reducible repeat (first | refine blk_drewN ?_ _ | refine blk_drew ?_ | refine blk_alloc ?_ _)); exact BK979.out)) : gb979 ≠ gb992)); have n8_ := Aside0.mk ((by rw [hg]; exact Nat.ne_of_gt (blk_lt (g := gb979) (o := .cells #[.int .i64 a0_0, .int .i64 a0_1, .slice A0_2 l0_2.length c0_2] 33 (0, 0)) (by (with_reducible repeat (first | refine blk_drewN ?_ _ | refine blk_drew ?_ | refine blk_alloc ?_ _)); exact BK979.out)) : gb992 ≠ gb979)); clear HO985; clear HO991; clear BK979; clear HB; have HO985 := n0_; have HO991 := n1_; have BK979 := n2_; have HB := n3_; have BK992 := n4_; have GW992 := n5_; have GE992 := n6_; have NB979_992 := n7_; have NB992_979 := n8_; clear n0_ n1_ n2_ n3_ n4_ n5_ n6_ n7_ n8_; clear hb hbox hg; have hnb20 := NB992_979.out; have hnc20 := NB979_992.out; have hcz21_0 : w19.cell? ⟨gb992, 0, none⟩ = some (.int .i64 0) := (blk_cell BK992.out 0).trans rfl; have hcz21_1 : w19.cell? ⟨gb992, 1, none⟩ = some (.int .i64 0) := (blk_cell BK992.out 1).trans rfl; have hcz21_2 : w19.cell? ⟨gb992, 2, none⟩ = some (.slice none 0 0) := (blk_cell BK992.out 2).trans rfl; have hfz21_0 := blk_frozen BK992.out 0; have hfz21_1 := blk_frozen BK992.out 1; have hfz21_2 := blk_frozen BK992.out 2; obtain ⟨Ao22, co22, eo22⟩ := Kd.R_slice HO991.out; subst eo22) | ((with_reducible refine gate_callee (f := 47) rfl ?_); refine goesL_ (some 18) rfl rfl Try.func47 (by kernel_rfl) rfl #[.agg #[.int .i64 t987, .int .i64 t988, .slice Ao22 t989.length co22]] rfl (by (try simp only [List.map_toArray, List.map_cons, List.map_nil]); first | done | rfl | (simp only [List.length_drop, List.length_take]; rfl)) ?_; (with_reducible refine (impl_RowOk.calls kj2 t987 t988 _ _ t989 t993 _ ?side1 ?side2 A11.out).mono ?_); (case side1 => refine (Kd.R_reads' (e := 36) (base := w.heap.size) (ok := fun k_ => (True ∧ some k_ ≠ (.slice Ao15 t983.length co15 : Value).ownBlock)) (n := t989.length) (c := co22) ?_).2.2; exact (by (with_reducible repeat (first | apply Kd.R_alloc | apply Kd.R_drewN | apply Kd.R_drew)); exact (Kd.R_mono (Kd.R_far (p := ⟨gb992, 2, none⟩) (Kd.R_far (p := ⟨gb992, 1, none⟩) (Kd.R_far (p := ⟨gb992, 0, none⟩) (Kd.R_types HO991.out BK992.out (by decide)) (fun _ hk => hk.2) (.int .i64 t987)) (fun _ hk => hk.2) (.int .i64 t988)) (fun _ hk => hk.2) (.slice Ao22 t989.length co22)) (fun _ h_ => h_.1)))); (case side2 => exact (Kd.R_reads' HO991.out).2.1); rintro e w23 ⟨rfl, hb⟩; refine ⟨_, rfl, ?_⟩; have n0_ := Aside0.mk (Kd.R_below (by (with_reducible repeat (first | apply Kd.R_alloc | apply Kd.R_drewN | apply Kd.R_drew)); exact (Kd.R_mono (Kd.R_far (p := ⟨gb992, 2, none⟩) (Kd.R_far (p := ⟨gb992, 1, none⟩) (Kd.R_far (p := ⟨gb992, 0, none⟩) (Kd.R_types HO985.out BK992.out (by decide)) (fun _ hk => hk.2) (.int .i64 t987)) (fun _ hk => hk.2) (.int .i64 t988)) (fun _ hk => hk.2) (.slice Ao22 t989.length co22)) (fun _ h_ => h_.1))) hb); have n1_ := Aside0.mk (Kd.R_below (by (with_reducible repeat (first | apply Kd.R_alloc | apply Kd.R_drewN | apply Kd.R_drew)); exact (Kd.R_mono (Kd.R_far (p := ⟨gb992, 2, none⟩) (Kd.R_far (p := ⟨gb992, 1, none⟩) (Kd.R_far (p := ⟨gb992, 0, none⟩) (Kd.R_types HO991.out BK992.out (by decide)) (fun _ hk => hk.2) (.int .i64 t987)) (fun _ hk => hk.2) (.int .i64 t988)) (fun _ hk => hk.2) (.slice Ao22 t989.length co22)) (fun _ h_ => h_.1))) hb); have n2_ := Aside0.mk (blk_below (g := gb979) (o := .cells #[.int .i64 a0_0, .int .i64 a0_1, .slice A0_2 l0_2.length c0_2] 33 (0, 0)) (by (with_reducible repeat (first | refine blk_drewN ?_ _ | refine blk_drew ?_ | refine blk_alloc ?_ _)); refine blk_far ?_ NB979_992.out _; (with_reducible repeat (first | refine blk_drewN ?_ _ | refine blk_drew ?_ | refine blk_alloc ?_ _)); refine blk_far ?_ NB979_992.out _; (with_reducible repeat (first | refine blk_drewN ?_ _ | refine blk_drew ?_ | refine blk_alloc ?_ _)); refine blk_far ?_ NB979_992.out _; (with_reducible repeat (first | refine blk_drewN ?_ _ | refine blk_drew ?_ | refine blk_alloc ?_ _)); exact BK979.out) hb); have n3_ := Aside0.mk (blk_below (g := gb992) (o := .cells #[.int .i64 t987, .int .i64 t988, .slice Ao22 t989.length co22] 41 (0, 0)) (by (with_reducible repeat (first | refine blk_drewN ?_ _ | refine blk_drew ?_ | refine blk_alloc ?_ _)); refine blk_put (cs := #[.int .i64 t987, .int .i64 t988, .slice none 0 0]) ?_ 2 _ rfl; (with_reducible repeat (first | refine blk_drewN ?_ _ | refine blk_drew ?_ | refine blk_alloc ?_ _)); refine blk_put (cs := #[.int .i64 t987, .int .i64 0, .slice none 0 0]) ?_ 1 _ rfl; (with_reducible repeat (first | refine blk_drewN ?_ _ | refine blk_drew ?_ | refine blk_alloc ?_ _)); refine blk_put (cs := #[.int .i64 0, .int .i64 0, .slice none 0 0]) ?_ 0 _ rfl; (with_reducible repeat (first | refine blk_drewN ?_ _ | refine blk_drew ?_ | refine blk_alloc ?_ _)); exact BK992.out) hb); have n4_ := Aside0.mk (below_step (by repeat (first | (with_reducible first | exact HB.out | apply below_alloc | apply pw_below_drewN | apply below_drew1 | refine below_set ?_ GE979.out | refine below_set ?_ GE992.out) | exact HB.out)) hb); clear HO985; clear HO991; clear BK979; clear BK992; clear HB; have HO985 := n0_; have HO991 := n1_; have BK979 := n2_; have BK992 := n3_; have HB := n4_; clear n0_ n1_ n2_ n3_ n4_; (try clear hb); (try clear hb2); (try clear hk); (try clear hi)))
      (try simp only [Act.put, List.setIfInBounds_toArray, List.set_cons_zero, List.set_cons_succ])
      go_cut [] (fun wc => ∃ (kq : Nat), Aside0 (laws_FnExactRowOk.j1 kq a0_0 a0_1 l0_2 t987 t988 t989 = some r) ∧ Aside0 (kq ≤ kj2) ∧ Aside0 (Kd.R k_Item 36 wc w.heap.size (fun _ => True) (.slice Ao22 t989.length co22) t989) ∧ Aside0 (wc.heap[gb979]? = some (.cells #[.int .i64 a0_0, .int .i64 a0_1, (.slice A0_2 l0_2.length c0_2)] 33 (0, 0))) ∧ Aside0 (wc.heap[gb992]? = some (.cells #[.int .i64 t987, .int .i64 t988, (.slice Ao22 t989.length co22)] 41 (0, 0))) ∧ Aside0 (Below w.heap.size w wc))
      case first =>
        have H := HC12.out
        clear HC12
        by_cases c24 : (t993 != t986) = true
        · rw [if_pos c24] at H
          have c24b0 : (t993 != t986) = true := c24
          (try (have c24b1 : decide (t993 = t986) = false := by simpa using c24))
          (try (have c24b2 : (t993 == t986) = false := by simpa using c24))
          (try (have c24b3 : ¬ (t993 = t986) := by simpa using c24))
          (try (have c24b4 : (!(t993 == t986)) = true := (show ∀ a b : Bool, (a != b) = true → (!(a == b)) = true by decide) _ _ c24))
          clear c24
          (first | rw [c24b0] | (simp only [i64_w, i32_w]; rw [c24b0]) | rw [c24b4] | rw [c24b3] | skip)
          obtain rfl := Option.some.inj H
          go_wp2
          go_ret
          exact ⟨by first | rfl | (simp [errW_none, errW_some] <;> rfl) | (simp [*, errW_none, errW_some] <;> rfl), by repeat (first | (with_reducible first | exact HB.out | apply below_alloc | apply pw_below_drewN | apply below_drew1 | refine below_set ?_ GE979.out | refine below_set ?_ GE992.out) | exact HB.out)⟩
        · rw [if_neg c24] at H
          have c24b0 : (t993 != t986) = false := by simpa using c24
          (try (have c24b1 : decide (t993 = t986) = true := by simpa using c24))
          (try (have c24b2 : (t993 == t986) = true := by simpa using c24))
          (try (have c24b3 : (!(t993 == t986)) = false := (show ∀ a b : Bool, ¬ (a != b) = true → (!(a == b)) = false by decide) _ _ c24))
          clear c24
          (first | rw [c24b0] | (simp only [i64_w, i32_w]; rw [c24b0]) | rw [c24b4] | rw [c24b3] | skip)
          have H' := Aside0.mk H
          clear H
          go_wp2
          go_meet
          case rel => exact ⟨_, H', ⟨by have := HJ2.out; first | omega | exact Nat.le_refl _⟩, ⟨by (with_reducible repeat (first | apply Kd.R_alloc | apply Kd.R_drewN | apply Kd.R_drew)); exact Kd.R_mono HO991.out (fun _ hk => trivial)⟩, ⟨by (with_reducible repeat (first | refine blk_drewN ?_ _ | refine blk_drew ?_ | refine blk_alloc ?_ _)); exact BK979.out⟩, ⟨by (with_reducible repeat (first | refine blk_drewN ?_ _ | refine blk_drew ?_ | refine blk_alloc ?_ _)); exact BK992.out⟩, ⟨by repeat (first | (with_reducible first | exact HB.out | apply below_alloc | apply pw_below_drewN | apply below_drew1 | refine below_set ?_ GE979.out | refine below_set ?_ GE992.out) | exact HB.out)⟩⟩
      case rest =>
        clear HC12
        try clear c2
        try clear p2
        try clear c4
        try clear c7
        try clear c7b0
        try clear c8
        try clear c20
        try clear c22
        try clear c24
        try clear c24b0
        try clear c24b1
        try clear c24b2
        try clear hcz13_0
        try clear hcz13_1
        try clear hcz13_2
        try clear hcz17_0
        try clear hcz17_1
        try clear hcz17_2
        try clear hcz21_0
        try clear hcz21_1
        try clear hcz21_2
        try clear hcz5_0
        try clear hcz5_1
        try clear hcz5_2
        try clear hfz13_0
        try clear hfz13_1
        try clear hfz13_2
        try clear hfz17_0
        try clear hfz17_1
        try clear hfz17_2
        try clear hfz21_0
        try clear hfz21_1
        try clear hfz21_2
        try clear hfz5_0
        try clear hfz5_1
        try clear hfz5_2
        try clear p2
        obtain ⟨kq, HA, HJ11, HO_993002, BK979, BK992, HB⟩ := hcut
        cases kq with
        | zero => exact absurd HA.out (by simp [laws_FnExactRowOk.j1])
        | succ kj11 =>
          have H := HA.out
          clear HA
          simp only [laws_FnExactRowOk.j1] at H
          replace H := Option.bind_eq_some_iff.mp H
          obtain ⟨⟨t994, t995, t996⟩, A250, H⟩ := H
          replace H : ((laws_eqRow.f kj11 t987 t988 t989 t994 t995 t996).bind fun t999 => (if t999 = true then (some true) else (some false))) = some r := H
          have A25 := Aside0.mk A250
          clear A250
          replace H := Option.bind_eq_some_iff.mp H
          obtain ⟨t999, A260, H⟩ := H
          replace H : (if t999 = true then (some true) else (some false)) = some r := H
          have A26 := Aside0.mk A260
          clear A260
          by_cases c27 : t999 = true
          · subst c27
            have H1 : (some true) = some r := by rw [if_pos rfl] at H; exact H
            clear H
            have H := H1
            clear H1
            obtain rfl := Option.some.inj H
            try go_wp2
            have n0_ := Aside0.mk (Kd.R_drew HO_993002.out)
            have n1_ := Aside0.mk (blk_drew BK979.out)
            have n2_ := Aside0.mk (blk_drew BK992.out)
            have n3_ := Aside0.mk (below_drew1 HB.out)
            clear HO_993002
            clear BK979
            clear BK992
            clear HB
            have HO_993002 := n0_
            have BK979 := n1_
            have BK992 := n2_
            have HB := n3_
            clear n0_ n1_ n2_ n3_
            refine start_ (n := 5) (S := fun w' => w'.cell? ⟨gb992, 0, none⟩ = some (.int .i64 t987) ∧ w'.cell? ⟨gb992, 1, none⟩ = some (.int .i64 t988) ∧ w'.cell? ⟨gb992, 2, none⟩ = some (.slice Ao22 t989.length co22) ∧ w'.cell? ⟨gb979, 0, none⟩ = some (.int .i64 a0_0) ∧ w'.cell? ⟨gb979, 1, none⟩ = some (.int .i64 a0_1) ∧ w'.cell? ⟨gb979, 2, none⟩ = some (.slice A0_2 l0_2.length c0_2)) (ds := []) #[false, false, false, false, false] (by kernel_rfl) rfl rfl ⟨(blk_cell BK992.out 0).trans rfl, (blk_cell BK992.out 1).trans rfl, (blk_cell BK992.out 2).trans rfl, (blk_cell BK979.out 0).trans rfl, (blk_cell BK979.out 1).trans rfl, (blk_cell BK979.out 2).trans rfl⟩ (fun hHeld => ?_)
            generalize wc.drew = w28 at HO_993002 BK979 BK992 HB hHeld ⊢
            refine take_ (i := 0) (N := some 22) (v := ?_) (a' := ?_) #[true, false, false, false, false] rfl rfl (by kernel_rfl) (fun _ _ _ h => h) (Or.inl ⟨by rfl, ?_⟩) hHeld ?_ ?_
            rotate_left
            · rintro w' ⟨s0, s1, s2, s3, s4, s5⟩
              go_simp
              with_reducible rfl
            rotate_left
            · simp only [Act.put, List.setIfInBounds_toArray, List.set_cons_zero, List.set_cons_succ, i64_w, i32_w]
              rfl
            refine take_ (i := 1) (N := some 23) (v := ?_) (a' := ?_) #[true, true, false, false, false] rfl rfl (by kernel_rfl) (fun _ _ _ h => h) (Or.inl ⟨by rfl, ?_⟩) hHeld ?_ ?_
            rotate_left
            · rintro w' ⟨s0, s1, s2, s3, s4, s5⟩
              go_simp
              with_reducible rfl
            rotate_left
            · simp only [Act.put, List.setIfInBounds_toArray, List.set_cons_zero, List.set_cons_succ, i64_w, i32_w]
              rfl
            refine one_ (i := 2) (N := some 24) #[true, true, true, false, false] rfl rfl (by kernel_rfl) (by decide) (fun K hK => ?_)
            refine goes_ Try.func22 (by kernel_rfl) rfl #[.agg #[.int .i64 a0_0, .int .i64 a0_1, .slice A0_2 l0_2.length c0_2]] (by rfl) rfl rfl (by (try simp only [List.map_toArray, List.map_cons, List.map_nil]); first | done | rfl | (simp only [List.length_drop, List.length_take]; rfl)) ?_
            with_reducible refine (laws_toRow.calls kj11 a0_0 a0_1 _ _ l0_2 t994 t995 t996 _ ?side1 ?side2 A25.out).mono ?_
            (case side1 => repeat (first | exact (Kd.C_below HR0_2.out HB.out) | (with_reducible refine Kd.C_alloc ?_ _) | (with_reducible refine Kd.C_drewN ?_ _) | (with_reducible refine Kd.C_drew ?_)))
            (case side2 => exact HC0_2.out)
            rintro e w29 ⟨v997, rfl, ho0, hb⟩
            refine ⟨_, rfl, ?_⟩
            have n0_ := Aside0.mk (Kd.R_elder' (by (with_reducible repeat (first | apply Kd.R_alloc | apply Kd.R_drewN | apply Kd.R_drew)); exact HO_993002.out) (Kd.R_base ho0) hb)
            have n1_ := Aside0.mk (Kd.R_lower (Kd.R_new' ho0 (Kd.R_lt (by (with_reducible repeat (first | apply Kd.R_alloc | apply Kd.R_drewN | apply Kd.R_drew)); exact HO_993002.out))) (below_size (by repeat (first | (with_reducible first | exact HB.out | apply below_alloc | apply pw_below_drewN | apply below_drew1 | refine below_set ?_ GE979.out | refine below_set ?_ GE992.out) | exact HB.out))))
            have n2_ := Aside0.mk (blk_below (g := gb979) (o := .cells #[.int .i64 a0_0, .int .i64 a0_1, .slice A0_2 l0_2.length c0_2] 33 (0, 0)) (by (with_reducible repeat (first | refine blk_drewN ?_ _ | refine blk_drew ?_ | refine blk_alloc ?_ _)); exact BK979.out) hb)
            have n3_ := Aside0.mk (blk_below (g := gb992) (o := .cells #[.int .i64 t987, .int .i64 t988, .slice Ao22 t989.length co22] 41 (0, 0)) (by (with_reducible repeat (first | refine blk_drewN ?_ _ | refine blk_drew ?_ | refine blk_alloc ?_ _)); exact BK992.out) hb)
            have n4_ := Aside0.mk (below_step (by repeat (first | (with_reducible first | exact HB.out | apply below_alloc | apply pw_below_drewN | apply below_drew1 | refine below_set ?_ GE979.out | refine below_set ?_ GE992.out) | exact HB.out)) hb)
            clear HO_993002
            clear BK979
            clear BK992
            clear HB
            have HO_993002 := n0_
            have HO998 := n1_
            have BK979 := n2_
            have BK992 := n3_
            have HB := n4_
            clear n0_ n1_ n2_ n3_ n4_
            (try clear hb)
            (try clear hb2)
            (try clear hk)
            (try clear hi)
            (try clear ho0)
            obtain ⟨Ao30, co30, eo30⟩ := Kd.R_slice HO998.out
            (first | subst eo30 | (injection eo30 with f1_ f2_ f3_; have f4_ := f1_.symm; have f5_ := f3_.symm; clear f1_ f2_ f3_; subst f4_; subst f5_))
            refine hK.out _ _ ⟨(blk_cell BK992.out 0).trans rfl, (blk_cell BK992.out 1).trans rfl, (blk_cell BK992.out 2).trans rfl, (blk_cell BK979.out 0).trans rfl, (blk_cell BK979.out 1).trans rfl, (blk_cell BK979.out 2).trans rfl⟩ (fun hHeld => ?_)
            clear hK K
            refine norm_ (a' := ?_) ?_ ?_
            rotate_left
            · show Act.put _ (some 24) _ = _
              simp only [Act.put, List.setIfInBounds_toArray, List.set_cons_zero, List.set_cons_succ, i64_w, i32_w]
              rfl
            refine one_ (i := 3) (N := some 25) #[true, true, true, true, false] rfl rfl (by kernel_rfl) (by decide) (fun K hK => ?_)
            refine goes_ Try.func25 (by kernel_rfl) rfl #[.agg #[.int .i64 t987, .int .i64 t988, .slice Ao22 t989.length co22], .agg #[.int .i64 t994, .int .i64 t995, .slice Ao30 t996.length co30]] (by rfl) rfl rfl (by (try simp only [List.map_toArray, List.map_cons, List.map_nil]); first | done | rfl | (simp only [List.length_drop, List.length_take]; rfl)) ?_
            with_reducible refine (laws_eqRow.calls kj11 t987 t988 _ _ t989 t994 t995 _ _ t996 true _ ?side1 ?side2 ?side3 ?side4 A26.out).mono ?_
            (case side1 => repeat (first | exact (Kd.R_reads' HO_993002.out).2.2 | (with_reducible refine Kd.C_alloc ?_ _) | (with_reducible refine Kd.C_drewN ?_ _) | (with_reducible refine Kd.C_drew ?_)))
            (case side2 => exact (Kd.R_reads' HO_993002.out).2.1)
            (case side3 => repeat (first | exact (Kd.R_reads' HO998.out).2.2 | (with_reducible refine Kd.C_alloc ?_ _) | (with_reducible refine Kd.C_drewN ?_ _) | (with_reducible refine Kd.C_drew ?_)))
            (case side4 => exact (Kd.R_reads' HO998.out).2.1)
            rintro e w31 ⟨rfl, hb⟩
            refine ⟨_, rfl, ?_⟩
            have n0_ := Aside0.mk (Kd.R_below (by (with_reducible repeat (first | apply Kd.R_alloc | apply Kd.R_drewN | apply Kd.R_drew)); exact HO_993002.out) hb)
            have n1_ := Aside0.mk (Kd.R_below (by (with_reducible repeat (first | apply Kd.R_alloc | apply Kd.R_drewN | apply Kd.R_drew)); exact HO998.out) hb)
            have n2_ := Aside0.mk (blk_below (g := gb979) (o := .cells #[.int .i64 a0_0, .int .i64 a0_1, .slice A0_2 l0_2.length c0_2] 33 (0, 0)) (by (with_reducible repeat (first | refine blk_drewN ?_ _ | refine blk_drew ?_ | refine blk_alloc ?_ _)); exact BK979.out) hb)
            have n3_ := Aside0.mk (blk_below (g := gb992) (o := .cells #[.int .i64 t987, .int .i64 t988, .slice Ao22 t989.length co22] 41 (0, 0)) (by (with_reducible repeat (first | refine blk_drewN ?_ _ | refine blk_drew ?_ | refine blk_alloc ?_ _)); exact BK992.out) hb)
            have n4_ := Aside0.mk (below_step (by repeat (first | (with_reducible first | exact HB.out | apply below_alloc | apply pw_below_drewN | apply below_drew1 | refine below_set ?_ GE979.out | refine below_set ?_ GE992.out) | exact HB.out)) hb)
            clear HO_993002
            clear HO998
            clear BK979
            clear BK992
            clear HB
            have HO_993002 := n0_
            have HO998 := n1_
            have BK979 := n2_
            have BK992 := n3_
            have HB := n4_
            clear n0_ n1_ n2_ n3_ n4_
            (try clear hb)
            (try clear hb2)
            (try clear hk)
            (try clear hi)
            refine hK.out _ _ ⟨(blk_cell BK992.out 0).trans rfl, (blk_cell BK992.out 1).trans rfl, (blk_cell BK992.out 2).trans rfl, (blk_cell BK979.out 0).trans rfl, (blk_cell BK979.out 1).trans rfl, (blk_cell BK979.out 2).trans rfl⟩ (fun hHeld => ?_)
            clear hK K
            refine norm_ (a' := ?_) ?_ ?_
            rotate_left
            · show Act.put _ (some 25) _ = _
              simp only [Act.put, List.setIfInBounds_toArray, List.set_cons_zero, List.set_cons_succ, i64_w, i32_w]
              rfl
            refine pure_ (i := 4) (N := some 26) (v := ?_) (a' := ?_) #[true, true, true, true, true] rfl rfl (by kernel_rfl) (fun _ _ _ h => h) (Or.inl ⟨by rfl, ?_⟩) ?_ ?_
            rotate_left
            · intro w'
              go_simp
              with_reducible rfl
            rotate_left
            · simp only [Act.put, List.setIfInBounds_toArray, List.set_cons_zero, List.set_cons_succ, i64_w, i32_w]
              rfl
            refine done_ (by kernel_rfl) ?_
            try go_wp2
            go_ret
            exact ⟨by first | rfl | (simp [errW_none, errW_some] <;> rfl) | (simp [*, errW_none, errW_some] <;> rfl), by repeat (first | (with_reducible first | exact HB.out | apply below_alloc | apply pw_below_drewN | apply below_drew1 | refine below_set ?_ GE979.out | refine below_set ?_ GE992.out) | exact HB.out)⟩
          · replace c27 := Bool.eq_false_iff.mpr c27
            subst c27
            have H1 : (some false) = some r := by rw [if_neg (show ¬ (false = true) by decide)] at H; exact H
            clear H
            have H := H1
            clear H1
            obtain rfl := Option.some.inj H
            try go_wp2
            have n0_ := Aside0.mk (Kd.R_drew HO_993002.out)
            have n1_ := Aside0.mk (blk_drew BK979.out)
            have n2_ := Aside0.mk (blk_drew BK992.out)
            have n3_ := Aside0.mk (below_drew1 HB.out)
            clear HO_993002
            clear BK979
            clear BK992
            clear HB
            have HO_993002 := n0_
            have BK979 := n1_
            have BK992 := n2_
            have HB := n3_
            clear n0_ n1_ n2_ n3_
            refine start_ (n := 5) (S := fun w' => w'.cell? ⟨gb992, 0, none⟩ = some (.int .i64 t987) ∧ w'.cell? ⟨gb992, 1, none⟩ = some (.int .i64 t988) ∧ w'.cell? ⟨gb992, 2, none⟩ = some (.slice Ao22 t989.length co22) ∧ w'.cell? ⟨gb979, 0, none⟩ = some (.int .i64 a0_0) ∧ w'.cell? ⟨gb979, 1, none⟩ = some (.int .i64 a0_1) ∧ w'.cell? ⟨gb979, 2, none⟩ = some (.slice A0_2 l0_2.length c0_2)) (ds := []) #[false, false, false, false, false] (by kernel_rfl) rfl rfl ⟨(blk_cell BK992.out 0).trans rfl, (blk_cell BK992.out 1).trans rfl, (blk_cell BK992.out 2).trans rfl, (blk_cell BK979.out 0).trans rfl, (blk_cell BK979.out 1).trans rfl, (blk_cell BK979.out 2).trans rfl⟩ (fun hHeld => ?_)
            generalize wc.drew = w32 at HO_993002 BK979 BK992 HB hHeld ⊢
            refine take_ (i := 0) (N := some 22) (v := ?_) (a' := ?_) #[true, false, false, false, false] rfl rfl (by kernel_rfl) (fun _ _ _ h => h) (Or.inl ⟨by rfl, ?_⟩) hHeld ?_ ?_
            rotate_left
            · rintro w' ⟨s0, s1, s2, s3, s4, s5⟩
              go_simp
              with_reducible rfl
            rotate_left
            · simp only [Act.put, List.setIfInBounds_toArray, List.set_cons_zero, List.set_cons_succ, i64_w, i32_w]
              rfl
            refine take_ (i := 1) (N := some 23) (v := ?_) (a' := ?_) #[true, true, false, false, false] rfl rfl (by kernel_rfl) (fun _ _ _ h => h) (Or.inl ⟨by rfl, ?_⟩) hHeld ?_ ?_
            rotate_left
            · rintro w' ⟨s0, s1, s2, s3, s4, s5⟩
              go_simp
              with_reducible rfl
            rotate_left
            · simp only [Act.put, List.setIfInBounds_toArray, List.set_cons_zero, List.set_cons_succ, i64_w, i32_w]
              rfl
            refine one_ (i := 2) (N := some 24) #[true, true, true, false, false] rfl rfl (by kernel_rfl) (by decide) (fun K hK => ?_)
            refine goes_ Try.func22 (by kernel_rfl) rfl #[.agg #[.int .i64 a0_0, .int .i64 a0_1, .slice A0_2 l0_2.length c0_2]] (by rfl) rfl rfl (by (try simp only [List.map_toArray, List.map_cons, List.map_nil]); first | done | rfl | (simp only [List.length_drop, List.length_take]; rfl)) ?_
            with_reducible refine (laws_toRow.calls kj11 a0_0 a0_1 _ _ l0_2 t994 t995 t996 _ ?side1 ?side2 A25.out).mono ?_
            (case side1 => repeat (first | exact (Kd.C_below HR0_2.out HB.out) | (with_reducible refine Kd.C_alloc ?_ _) | (with_reducible refine Kd.C_drewN ?_ _) | (with_reducible refine Kd.C_drew ?_)))
            (case side2 => exact HC0_2.out)
            rintro e w33 ⟨v997, rfl, ho0, hb⟩
            refine ⟨_, rfl, ?_⟩
            have n0_ := Aside0.mk (Kd.R_elder' (by (with_reducible repeat (first | apply Kd.R_alloc | apply Kd.R_drewN | apply Kd.R_drew)); exact HO_993002.out) (Kd.R_base ho0) hb)
            have n1_ := Aside0.mk (Kd.R_lower (Kd.R_new' ho0 (Kd.R_lt (by (with_reducible repeat (first | apply Kd.R_alloc | apply Kd.R_drewN | apply Kd.R_drew)); exact HO_993002.out))) (below_size (by repeat (first | (with_reducible first | exact HB.out | apply below_alloc | apply pw_below_drewN | apply below_drew1 | refine below_set ?_ GE979.out | refine below_set ?_ GE992.out) | exact HB.out))))
            have n2_ := Aside0.mk (blk_below (g := gb979) (o := .cells #[.int .i64 a0_0, .int .i64 a0_1, .slice A0_2 l0_2.length c0_2] 33 (0, 0)) (by (with_reducible repeat (first | refine blk_drewN ?_ _ | refine blk_drew ?_ | refine blk_alloc ?_ _)); exact BK979.out) hb)
            have n3_ := Aside0.mk (blk_below (g := gb992) (o := .cells #[.int .i64 t987, .int .i64 t988, .slice Ao22 t989.length co22] 41 (0, 0)) (by (with_reducible repeat (first | refine blk_drewN ?_ _ | refine blk_drew ?_ | refine blk_alloc ?_ _)); exact BK992.out) hb)
            have n4_ := Aside0.mk (below_step (by repeat (first | (with_reducible first | exact HB.out | apply below_alloc | apply pw_below_drewN | apply below_drew1 | refine below_set ?_ GE979.out | refine below_set ?_ GE992.out) | exact HB.out)) hb)
            clear HO_993002
            clear BK979
            clear BK992
            clear HB
            have HO_993002 := n0_
            have HO998 := n1_
            have BK979 := n2_
            have BK992 := n3_
            have HB := n4_
            clear n0_ n1_ n2_ n3_ n4_
            (try clear hb)
            (try clear hb2)
            (try clear hk)
            (try clear hi)
            (try clear ho0)
            obtain ⟨Ao34, co34, eo34⟩ := Kd.R_slice HO998.out
            (first | subst eo34 | (injection eo34 with f1_ f2_ f3_; have f4_ := f1_.symm; have f5_ := f3_.symm; clear f1_ f2_ f3_; subst f4_; subst f5_))
            refine hK.out _ _ ⟨(blk_cell BK992.out 0).trans rfl, (blk_cell BK992.out 1).trans rfl, (blk_cell BK992.out 2).trans rfl, (blk_cell BK979.out 0).trans rfl, (blk_cell BK979.out 1).trans rfl, (blk_cell BK979.out 2).trans rfl⟩ (fun hHeld => ?_)
            clear hK K
            refine norm_ (a' := ?_) ?_ ?_
            rotate_left
            · show Act.put _ (some 24) _ = _
              simp only [Act.put, List.setIfInBounds_toArray, List.set_cons_zero, List.set_cons_succ, i64_w, i32_w]
              rfl
            refine one_ (i := 3) (N := some 25) #[true, true, true, true, false] rfl rfl (by kernel_rfl) (by decide) (fun K hK => ?_)
            refine goes_ Try.func25 (by kernel_rfl) rfl #[.agg #[.int .i64 t987, .int .i64 t988, .slice Ao22 t989.length co22], .agg #[.int .i64 t994, .int .i64 t995, .slice Ao34 t996.length co34]] (by rfl) rfl rfl (by (try simp only [List.map_toArray, List.map_cons, List.map_nil]); first | done | rfl | (simp only [List.length_drop, List.length_take]; rfl)) ?_
            with_reducible refine (laws_eqRow.calls kj11 t987 t988 _ _ t989 t994 t995 _ _ t996 false _ ?side1 ?side2 ?side3 ?side4 A26.out).mono ?_
            (case side1 => repeat (first | exact (Kd.R_reads' HO_993002.out).2.2 | (with_reducible refine Kd.C_alloc ?_ _) | (with_reducible refine Kd.C_drewN ?_ _) | (with_reducible refine Kd.C_drew ?_)))
            (case side2 => exact (Kd.R_reads' HO_993002.out).2.1)
            (case side3 => repeat (first | exact (Kd.R_reads' HO998.out).2.2 | (with_reducible refine Kd.C_alloc ?_ _) | (with_reducible refine Kd.C_drewN ?_ _) | (with_reducible refine Kd.C_drew ?_)))
            (case side4 => exact (Kd.R_reads' HO998.out).2.1)
            rintro e w35 ⟨rfl, hb⟩
            refine ⟨_, rfl, ?_⟩
            have n0_ := Aside0.mk (Kd.R_below (by (with_reducible repeat (first | apply Kd.R_alloc | apply Kd.R_drewN | apply Kd.R_drew)); exact HO_993002.out) hb)
            have n1_ := Aside0.mk (Kd.R_below (by (with_reducible repeat (first | apply Kd.R_alloc | apply Kd.R_drewN | apply Kd.R_drew)); exact HO998.out) hb)
            have n2_ := Aside0.mk (blk_below (g := gb979) (o := .cells #[.int .i64 a0_0, .int .i64 a0_1, .slice A0_2 l0_2.length c0_2] 33 (0, 0)) (by (with_reducible repeat (first | refine blk_drewN ?_ _ | refine blk_drew ?_ | refine blk_alloc ?_ _)); exact BK979.out) hb)
            have n3_ := Aside0.mk (blk_below (g := gb992) (o := .cells #[.int .i64 t987, .int .i64 t988, .slice Ao22 t989.length co22] 41 (0, 0)) (by (with_reducible repeat (first | refine blk_drewN ?_ _ | refine blk_drew ?_ | refine blk_alloc ?_ _)); exact BK992.out) hb)
            have n4_ := Aside0.mk (below_step (by repeat (first | (with_reducible first | exact HB.out | apply below_alloc | apply pw_below_drewN | apply below_drew1 | refine below_set ?_ GE979.out | refine below_set ?_ GE992.out) | exact HB.out)) hb)
            clear HO_993002
            clear HO998
            clear BK979
            clear BK992
            clear HB
            have HO_993002 := n0_
            have HO998 := n1_
            have BK979 := n2_
            have BK992 := n3_
            have HB := n4_
            clear n0_ n1_ n2_ n3_ n4_
            (try clear hb)
            (try clear hb2)
            (try clear hk)
            (try clear hi)
            refine hK.out _ _ ⟨(blk_cell BK992.out 0).trans rfl, (blk_cell BK992.out 1).trans rfl, (blk_cell BK992.out 2).trans rfl, (blk_cell BK979.out 0).trans rfl, (blk_cell BK979.out 1).trans rfl, (blk_cell BK979.out 2).trans rfl⟩ (fun hHeld => ?_)
            clear hK K
            refine norm_ (a' := ?_) ?_ ?_
            rotate_left
            · show Act.put _ (some 25) _ = _
              simp only [Act.put, List.setIfInBounds_toArray, List.set_cons_zero, List.set_cons_succ, i64_w, i32_w]
              rfl
            refine pure_ (i := 4) (N := some 26) (v := ?_) (a' := ?_) #[true, true, true, true, true] rfl rfl (by kernel_rfl) (fun _ _ _ h => h) (Or.inl ⟨by rfl, ?_⟩) ?_ ?_
            rotate_left
            · intro w'
              go_simp
              with_reducible rfl
            rotate_left
            · simp only [Act.put, List.setIfInBounds_toArray, List.set_cons_zero, List.set_cons_succ, i64_w, i32_w]
              rfl
            refine done_ (by kernel_rfl) ?_
            try go_wp2
            go_ret
            exact ⟨by first | rfl | (simp [errW_none, errW_some] <;> rfl) | (simp [*, errW_none, errW_some] <;> rfl), by repeat (first | (with_reducible first | exact HB.out | apply below_alloc | apply pw_below_drewN | apply below_drew1 | refine below_set ?_ GE979.out | refine below_set ?_ GE992.out) | exact HB.out)⟩

end Go.Proofs.Ytgkeapbeogmfjaa.Q
