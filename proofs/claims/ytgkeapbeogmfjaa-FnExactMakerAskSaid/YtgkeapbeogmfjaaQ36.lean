/- Made by a program of ours out of the print of the loaded functions: for each of some functions a plain function, and the walk that shows that a call comes to what it says. No condition but those of each theorem. -/
import Derived.Test.YtgkeapbeogmfjaaQ0
import Derived.Test.YtgkeapbeogmfjaaQ30
import Derived.Test.YtgkeapbeogmfjaaQ31
import Derived.Test.YtgkeapbeogmfjaaQ32
import Derived.Test.YtgkeapbeogmfjaaQ33
import Derived.Test.YtgkeapbeogmfjaaQ35
namespace Go.Proofs.Ytgkeapbeogmfjaa.Q
open Go.RowKit Go.Proofs.YtgkeapbeogmfjaaW.PrintWords Go.Proofs.YtgkeapbeogmfjaaW.PrintLast Go.Proofs.YtgkeapbeogmfjaaW.PrintMore
attribute [local go_sem] max2_int min2_int max_two min_two max_three min_three max_four min_four   -- for this text's walks alone
set_option linter.unusedVariables false
set_option linter.unusedSimpArgs false

/-! ### laws_FnExactMakerAsk: function 5 -/
def laws_FnExactMakerAsk.j0 : Nat → Bool → Int → Int → Int → Int → List (S_LMark) → Int → Int → Int → Int → List (S_Mark) → Option (Bool)
  | 0, _, _, _, _, _, _, _, _, _, _, _ => none
  | k + 1, x42, x726000, x726001, x726002, x726003, x726004, x744000, x744001, x744002, x744003, x744004 => if x42 = true then (some false) else ((laws_toMaker.f k x726000 x726001 x726002 x726003 x726004).bind fun bt746 => ((laws_eqMaker.f k x744000 x744001 x744002 x744003 x744004 bt746.1 bt746.2.1 bt746.2.2.1 bt746.2.2.2.1 bt746.2.2.2.2).bind fun t753 => (if t753 = true then (some true) else (some false))))
def laws_FnExactMakerAsk.f (k : Nat) (a0_0 : Int) (a0_1 : Int) (a0_2 : Int) (a0_3 : Int) (l0_4 : List (S_LMark)) (a1 : Int) (a2 : Int) : Option (Bool) := (laws_szMaker.f a0_0 a0_1 a0_2 a0_3 l0_4 1048576).bind fun t726 => (if t726 < 0 then (some true) else ((laws_toMaker.f k a0_0 a0_1 a0_2 a0_3 l0_4).bind fun bt727 => ((spec_MakerAsk.f k bt727.1 bt727.2.1 bt727.2.2.1 bt727.2.2.2.1 bt727.2.2.2.2 a1 a2).bind fun bt734 => ((laws_toMaker.f k a0_0 a0_1 a0_2 a0_3 l0_4).bind fun bt736 => ((impl_MakerAsk.f k bt736.1 bt736.2.1 bt736.2.2.1 bt736.2.2.2.1 bt736.2.2.2.2 a1 a2).bind fun bt744 => (if bt744.1 = bt734.1 then (laws_FnExactMakerAsk.j0 k (bt744.2 != bt734.2) a0_0 a0_1 a0_2 a0_3 l0_4 bt736.1 bt736.2.1 bt736.2.2.1 bt736.2.2.2.1 bt736.2.2.2.2) else (laws_FnExactMakerAsk.j0 k true a0_0 a0_1 a0_2 a0_3 l0_4 bt736.1 bt736.2.1 bt736.2.2.1 bt736.2.2.2.1 bt736.2.2.2.2)))))))
theorem laws_FnExactMakerAsk.mono_l : ∀ k, (∀ y0 y1 y2 y3 y4 y5 y6 y7 y8 y9 y10, LeO (laws_FnExactMakerAsk.j0 k y0 y1 y2 y3 y4 y5 y6 y7 y8 y9 y10) (laws_FnExactMakerAsk.j0 (k + 1) y0 y1 y2 y3 y4 y5 y6 y7 y8 y9 y10))
  | 0 => fun _ _ _ _ _ _ _ _ _ _ _ r h => by simp [laws_FnExactMakerAsk.j0] at h
  | k + 1 => by
    have ih0 := laws_FnExactMakerAsk.mono_l k
    · intro y0 y1 y2 y3 y4 y5 y6 y7 y8 y9 y10
      unfold laws_FnExactMakerAsk.j0
      repeat' first
      | (with_reducible exact ih0 _ _ _ _ _ _ _ _ _ _ _)
      | (with_reducible exact impl_MakerAsk.mono _ _ _ _ _ _ _ _)
      | (with_reducible exact laws_eqMaker.mono _ _ _ _ _ _ _ _ _ _ _)
      | (with_reducible exact laws_toMaker.mono _ _ _ _ _ _)
      | (with_reducible exact spec_MakerAsk.mono _ _ _ _ _ _ _ _)
      | (with_reducible exact LeO.refl _)
      | (with_reducible exact LeO.none _)
      | (with_reducible refine LeO.ite ?_ ?_)
      | (with_reducible refine LeO.bind ?_ (fun _ => ?_))
      | exact ih0 _ _ _ _ _ _ _ _ _ _ _
      | exact impl_MakerAsk.mono _ _ _ _ _ _ _ _
      | exact laws_eqMaker.mono _ _ _ _ _ _ _ _ _ _ _
      | exact laws_toMaker.mono _ _ _ _ _ _
      | exact spec_MakerAsk.mono _ _ _ _ _ _ _ _
      | exact LeO.none _
      | refine LeO.ite ?_ ?_
      | refine LeO.bind ?_ (fun _ => ?_)
theorem laws_FnExactMakerAsk.mono : ∀ a0 a1 a2 a3 a4 a5 a6 k, LeO (laws_FnExactMakerAsk.f k a0 a1 a2 a3 a4 a5 a6) (laws_FnExactMakerAsk.f (k + 1) a0 a1 a2 a3 a4 a5 a6) := by
  intro a0 a1 a2 a3 a4 a5 a6 k
  have ih0 := laws_FnExactMakerAsk.mono_l k
  unfold laws_FnExactMakerAsk.f
  repeat' first
      | (with_reducible exact ih0 _ _ _ _ _ _ _ _ _ _ _)
      | (with_reducible exact impl_MakerAsk.mono _ _ _ _ _ _ _ _)
      | (with_reducible exact laws_eqMaker.mono _ _ _ _ _ _ _ _ _ _ _)
      | (with_reducible exact laws_toMaker.mono _ _ _ _ _ _)
      | (with_reducible exact spec_MakerAsk.mono _ _ _ _ _ _ _ _)
      | (with_reducible exact LeO.refl _)
      | (with_reducible exact LeO.none _)
      | (with_reducible refine LeO.ite ?_ ?_)
      | (with_reducible refine LeO.bind ?_ (fun _ => ?_))
      | exact ih0 _ _ _ _ _ _ _ _ _ _ _
      | exact impl_MakerAsk.mono _ _ _ _ _ _ _ _
      | exact laws_eqMaker.mono _ _ _ _ _ _ _ _ _ _ _
      | exact laws_toMaker.mono _ _ _ _ _ _
      | exact spec_MakerAsk.mono _ _ _ _ _ _ _ _
      | exact LeO.none _
      | refine LeO.ite ?_ ?_
      | refine LeO.bind ?_ (fun _ => ?_)
set_option maxHeartbeats 8000000 in
set_option maxRecDepth 100000 in
theorem laws_FnExactMakerAsk.calls (k : Nat) (a0_0 : Int) (a0_1 : Int) (a0_2 : Int) (a0_3 : Int) (A0_4 : Option Addr) (c0_4 : Nat) (l0_4 : List (S_LMark)) (a1 : Int) (a2 : Int) (r : Bool) (w : World) (hr0_4 : Kd.C k_LMark w A0_4 l0_4.length l0_4) (hc0_4 : l0_4.length ≤ c0_4) (h : laws_FnExactMakerAsk.f k a0_0 a0_1 a0_2 a0_3 l0_4 a1 a2 = some r) :
    Calls Try.prog 5 #[.agg #[.int .i64 a0_0, .int .i64 a0_1, .int .i64 a0_2, .int .i64 a0_3, .slice A0_4 l0_4.length c0_4], .int .i64 a1, .int .i64 a2] w fun e w' => e = .returned (.bool r) ∧ Below w.heap.size w w' := by
  have hu48 := Try.underlying48
  have hu54 := Try.underlying54
  have HR0_4 := Aside0.mk hr0_4
  have HC0_4 := Aside0.mk hc0_4
  clear hr0_4 hc0_4
  have HB := Aside0.mk (Below.refl w.heap.size w)
  have H : ((laws_szMaker.f a0_0 a0_1 a0_2 a0_3 l0_4 1048576).bind fun t726 => (if t726 < 0 then (some true) else ((laws_toMaker.f k a0_0 a0_1 a0_2 a0_3 l0_4).bind fun bt727 => ((spec_MakerAsk.f k bt727.1 bt727.2.1 bt727.2.2.1 bt727.2.2.2.1 bt727.2.2.2.2 a1 a2).bind fun bt734 => ((laws_toMaker.f k a0_0 a0_1 a0_2 a0_3 l0_4).bind fun bt736 => ((impl_MakerAsk.f k bt736.1 bt736.2.1 bt736.2.2.1 bt736.2.2.2.1 bt736.2.2.2.2 a1 a2).bind fun bt744 => (if bt744.1 = bt734.1 then (laws_FnExactMakerAsk.j0 k (bt744.2 != bt734.2) a0_0 a0_1 a0_2 a0_3 l0_4 bt736.1 bt736.2.1 bt736.2.2.1 bt736.2.2.2.1 bt736.2.2.2.2) else (laws_FnExactMakerAsk.j0 k true a0_0 a0_1 a0_2 a0_3 l0_4 bt736.1 bt736.2.1 bt736.2.2.1 bt736.2.2.2.1 bt736.2.2.2.2)))))))) = some r := h
  clear h
  replace H := Option.bind_eq_some_iff.mp H
  obtain ⟨t726, A40, H⟩ := H
  replace H : (if t726 < 0 then (some true) else ((laws_toMaker.f k a0_0 a0_1 a0_2 a0_3 l0_4).bind fun bt727 => ((spec_MakerAsk.f k bt727.1 bt727.2.1 bt727.2.2.1 bt727.2.2.2.1 bt727.2.2.2.2 a1 a2).bind fun bt734 => ((laws_toMaker.f k a0_0 a0_1 a0_2 a0_3 l0_4).bind fun bt736 => ((impl_MakerAsk.f k bt736.1 bt736.2.1 bt736.2.2.1 bt736.2.2.2.1 bt736.2.2.2.2 a1 a2).bind fun bt744 => (if bt744.1 = bt734.1 then (laws_FnExactMakerAsk.j0 k (bt744.2 != bt734.2) a0_0 a0_1 a0_2 a0_3 l0_4 bt736.1 bt736.2.1 bt736.2.2.1 bt736.2.2.2.1 bt736.2.2.2.2) else (laws_FnExactMakerAsk.j0 k true a0_0 a0_1 a0_2 a0_3 l0_4 bt736.1 bt736.2.1 bt736.2.2.1 bt736.2.2.2.1 bt736.2.2.2.2))))))) = some r := H
  have A4 := Aside0.mk A40
  clear A40
  by_cases c5 : t726 < 0
  · rw [if_pos c5] at H
    have c5b0 : decide (t726 < 0) = true := decide_eq_true c5
    clear c5
    obtain rfl := Option.some.inj H
    go_enter Try.func5, Try.ntmps5
    go_wp2_with (first | ((with_reducible refine gate_dst (N := 3) rfl ?_); refine box_event ?hg (N := 3) ?hd (cs := #[.int .i64 a0_0, .int .i64 a0_1, .int .i64 a0_2, .int .i64 a0_3, .slice A0_4 l0_4.length c0_4]) (t := 48) ?hr ?_; (case hd => rfl); (case hg => rfl); (case hr => first | (go_simp; done) | (go_simp; rfl)); intro gb725 hg w6 hbox hb; have n0_ := Aside0.mk (below_step (by repeat (first | (with_reducible first | exact HB.out | apply below_alloc | apply pw_below_drewN | apply below_drew1) | exact HB.out)) hb); have n1_ := Aside0.mk (hbox); have n2_ := Aside0.mk ((by rw [hg]; exact (below_size (by repeat (first | (with_reducible first | exact HB.out | apply below_alloc | apply pw_below_drewN | apply below_drew1) | exact HB.out))) : w.heap.size ≤ gb725)); have n3_ := Aside0.mk ((by rw [hg]; exact (below_size (by repeat (first | (with_reducible first | exact HB.out | apply below_alloc | apply pw_below_drewN | apply below_drew1) | exact HB.out))) : w.heap.size ≤ gb725)); clear HB; have HB := n0_; have BK725 := n1_; have GW725 := n2_; have GE725 := n3_; clear n0_ n1_ n2_ n3_; clear hb hbox hg; have hcz7_0 : w6.cell? ⟨gb725, 0, none⟩ = some (.int .i64 a0_0) := (blk_cell BK725.out 0).trans rfl; have hcz7_1 : w6.cell? ⟨gb725, 1, none⟩ = some (.int .i64 a0_1) := (blk_cell BK725.out 1).trans rfl; have hcz7_2 : w6.cell? ⟨gb725, 2, none⟩ = some (.int .i64 a0_2) := (blk_cell BK725.out 2).trans rfl; have hcz7_3 : w6.cell? ⟨gb725, 3, none⟩ = some (.int .i64 a0_3) := (blk_cell BK725.out 3).trans rfl; have hcz7_4 : w6.cell? ⟨gb725, 4, none⟩ = some (.slice A0_4 l0_4.length c0_4) := (blk_cell BK725.out 4).trans rfl; have hfz7_0 := blk_frozen BK725.out 0; have hfz7_1 := blk_frozen BK725.out 1; have hfz7_2 := blk_frozen BK725.out 2; have hfz7_3 := blk_frozen BK725.out 3; have hfz7_4 := blk_frozen BK725.out 4) | ((with_reducible refine gate_callee (f := 26) rfl ?_); refine goesL_ (some 15) rfl rfl Try.func26 (by kernel_rfl) rfl #[.agg #[.int .i64 a0_0, .int .i64 a0_1, .int .i64 a0_2, .int .i64 a0_3, .slice A0_4 l0_4.length c0_4], .int .i64 1048576] rfl (by (try simp only [List.map_toArray, List.map_cons, List.map_nil]); first | done | rfl | (simp only [List.length_drop, List.length_take]; rfl)) ?_; (with_reducible refine (laws_szMaker.calls a0_0 a0_1 a0_2 a0_3 _ _ l0_4 1048576 t726 _ ?side1 ?side2 A4.out).mono ?_); (case side1 => repeat (first | exact (Kd.C_below HR0_4.out HB.out) | (with_reducible refine Kd.C_alloc ?_ _) | (with_reducible refine Kd.C_drewN ?_ _) | (with_reducible refine Kd.C_drew ?_))); (case side2 => exact HC0_4.out); rintro e w8 ⟨rfl, hb⟩; refine ⟨_, rfl, ?_⟩; have n0_ := Aside0.mk (blk_below (g := gb725) (o := .cells #[.int .i64 a0_0, .int .i64 a0_1, .int .i64 a0_2, .int .i64 a0_3, .slice A0_4 l0_4.length c0_4] 48 (0, 0)) (by (with_reducible repeat (first | refine blk_drewN ?_ _ | refine blk_drew ?_ | refine blk_alloc ?_ _)); exact BK725.out) hb); have n1_ := Aside0.mk (below_step (by repeat (first | (with_reducible first | exact HB.out | apply below_alloc | apply pw_below_drewN | apply below_drew1 | refine below_set ?_ GE725.out) | exact HB.out)) hb); clear BK725; clear HB; have BK725 := n0_; have HB := n1_; clear n0_ n1_; (try clear hb); (try clear hb2); (try clear hk); (try clear hi)))
    go_ret
    exact ⟨by first | rfl | (simp [errW_none, errW_some] <;> rfl) | (simp [*, errW_none, errW_some] <;> rfl), by repeat (first | (with_reducible first | exact HB.out | apply below_alloc | apply pw_below_drewN | apply below_drew1 | refine below_set ?_ GE725.out) | exact HB.out)⟩
  · rw [if_neg c5] at H
    have c5b0 : decide (t726 < 0) = false := decide_eq_false c5
    clear c5
    replace H := Option.bind_eq_some_iff.mp H
    obtain ⟨⟨t727, t728, t729, t730, t731⟩, A90, H⟩ := H
    replace H : ((spec_MakerAsk.f k t727 t728 t729 t730 t731 a1 a2).bind fun bt734 => ((laws_toMaker.f k a0_0 a0_1 a0_2 a0_3 l0_4).bind fun bt736 => ((impl_MakerAsk.f k bt736.1 bt736.2.1 bt736.2.2.1 bt736.2.2.2.1 bt736.2.2.2.2 a1 a2).bind fun bt744 => (if bt744.1 = bt734.1 then (laws_FnExactMakerAsk.j0 k (bt744.2 != bt734.2) a0_0 a0_1 a0_2 a0_3 l0_4 bt736.1 bt736.2.1 bt736.2.2.1 bt736.2.2.2.1 bt736.2.2.2.2) else (laws_FnExactMakerAsk.j0 k true a0_0 a0_1 a0_2 a0_3 l0_4 bt736.1 bt736.2.1 bt736.2.2.1 bt736.2.2.2.1 bt736.2.2.2.2))))) = some r := H
    have A9 := Aside0.mk A90
    clear A90
    replace H := Option.bind_eq_some_iff.mp H
    obtain ⟨⟨t734, t735⟩, A100, H⟩ := H
    replace H : ((laws_toMaker.f k a0_0 a0_1 a0_2 a0_3 l0_4).bind fun bt736 => ((impl_MakerAsk.f k bt736.1 bt736.2.1 bt736.2.2.1 bt736.2.2.2.1 bt736.2.2.2.2 a1 a2).bind fun bt744 => (if bt744.1 = t734 then (laws_FnExactMakerAsk.j0 k (bt744.2 != t735) a0_0 a0_1 a0_2 a0_3 l0_4 bt736.1 bt736.2.1 bt736.2.2.1 bt736.2.2.2.1 bt736.2.2.2.2) else (laws_FnExactMakerAsk.j0 k true a0_0 a0_1 a0_2 a0_3 l0_4 bt736.1 bt736.2.1 bt736.2.2.1 bt736.2.2.2.1 bt736.2.2.2.2)))) = some r := H
    have A10 := Aside0.mk A100
    clear A100
    replace H := Option.bind_eq_some_iff.mp H
    obtain ⟨⟨t736, t737, t738, t739, t740⟩, A110, H⟩ := H
    replace H : ((impl_MakerAsk.f k t736 t737 t738 t739 t740 a1 a2).bind fun bt744 => (if bt744.1 = t734 then (laws_FnExactMakerAsk.j0 k (bt744.2 != t735) a0_0 a0_1 a0_2 a0_3 l0_4 t736 t737 t738 t739 t740) else (laws_FnExactMakerAsk.j0 k true a0_0 a0_1 a0_2 a0_3 l0_4 t736 t737 t738 t739 t740))) = some r := H
    have A11 := Aside0.mk A110
    clear A110
    replace H := Option.bind_eq_some_iff.mp H
    obtain ⟨⟨t744, t745⟩, A120, H⟩ := H
    replace H : (if t744 = t734 then (laws_FnExactMakerAsk.j0 k (t745 != t735) a0_0 a0_1 a0_2 a0_3 l0_4 t736 t737 t738 t739 t740) else (laws_FnExactMakerAsk.j0 k true a0_0 a0_1 a0_2 a0_3 l0_4 t736 t737 t738 t739 t740)) = some r := H
    have A12 := Aside0.mk A120
    clear A120
    have HC13 := Aside0.mk H
    clear H
    go_enter Try.func5, Try.ntmps5
    go_upto_region 8 with (first | ((with_reducible refine gate_dst (N := 3) rfl ?_); refine box_event ?hg (N := 3) ?hd (cs := #[.int .i64 a0_0, .int .i64 a0_1, .int .i64 a0_2, .int .i64 a0_3, .slice A0_4 l0_4.length c0_4]) (t := 48) ?hr ?_; (case hd => rfl); (case hg => rfl); (case hr => first | (go_simp; done) | (go_simp; rfl)); intro gb725 hg w14 hbox hb; have n0_ := Aside0.mk (below_step (by repeat (first | (with_reducible first | exact HB.out | apply below_alloc | apply pw_below_drewN | apply below_drew1) | exact HB.out)) hb); have n1_ := Aside0.mk (hbox); have n2_ := Aside0.mk ((by rw [hg]; exact (below_size (by repeat (first | (with_reducible first | exact HB.out | apply below_alloc | apply pw_below_drewN | apply below_drew1) | exact HB.out))) : w.heap.size ≤ gb725)); have n3_ := Aside0.mk ((by rw [hg]; exact (below_size (by repeat (first | (with_reducible first | exact HB.out | apply below_alloc | apply pw_below_drewN | apply below_drew1) | exact HB.out))) : w.heap.size ≤ gb725)); clear HB; have HB := n0_; have BK725 := n1_; have GW725 := n2_; have GE725 := n3_; clear n0_ n1_ n2_ n3_; clear hb hbox hg; have hcz15_0 : w14.cell? ⟨gb725, 0, none⟩ = some (.int .i64 a0_0) := (blk_cell BK725.out 0).trans rfl; have hcz15_1 : w14.cell? ⟨gb725, 1, none⟩ = some (.int .i64 a0_1) := (blk_cell BK725.out 1).trans rfl; have hcz15_2 : w14.cell? ⟨gb725, 2, none⟩ = some (.int .i64 a0_2) := (blk_cell BK725.out 2).trans rfl; have hcz15_3 : w14.cell? ⟨gb725, 3, none⟩ = some (.int .i64 a0_3) := (blk_cell BK725.out 3).trans rfl; have hcz15_4 : w14.cell? ⟨gb725, 4, none⟩ = some (.slice A0_4 l0_4.length c0_4) := (blk_cell BK725.out 4).trans rfl; have hfz15_0 := blk_frozen BK725.out 0; have hfz15_1 := blk_frozen BK725.out 1; have hfz15_2 := blk_frozen BK725.out 2; have hfz15_3 := blk_frozen BK725.out 3; have hfz15_4 := blk_frozen BK725.out 4) | ((with_reducible refine gate_callee (f := 26) rfl ?_); refine goesL_ (some 15) rfl rfl Try.func26 (by kernel_rfl) rfl #[.agg #[.int .i64 a0_0, .int .i64 a0_1, .int .i64 a0_2, .int .i64 a0_3, .slice A0_4 l0_4.length c0_4], .int .i64 1048576] rfl (by (try simp only [List.map_toArray, List.map_cons, List.map_nil]); first | done | rfl | (simp only [List.length_drop, List.length_take]; rfl)) ?_; (with_reducible refine (laws_szMaker.calls a0_0 a0_1 a0_2 a0_3 _ _ l0_4 1048576 t726 _ ?side1 ?side2 A4.out).mono ?_); (case side1 => repeat (first | exact (Kd.C_below HR0_4.out HB.out) | (with_reducible refine Kd.C_alloc ?_ _) | (with_reducible refine Kd.C_drewN ?_ _) | (with_reducible refine Kd.C_drew ?_))); (case side2 => exact HC0_4.out); rintro e w16 ⟨rfl, hb⟩; refine ⟨_, rfl, ?_⟩; have n0_ := Aside0.mk (blk_below (g := gb725) (o := .cells #[.int .i64 a0_0, .int .i64 a0_1, .int .i64 a0_2, .int .i64 a0_3, .slice A0_4 l0_4.length c0_4] 48 (0, 0)) (by (with_reducible repeat (first | refine blk_drewN ?_ _ | refine blk_drew ?_ | refine blk_alloc ?_ _)); exact BK725.out) hb); have n1_ := Aside0.mk (below_step (by repeat (first | (with_reducible first | exact HB.out | apply below_alloc | apply pw_below_drewN | apply below_drew1 | refine below_set ?_ GE725.out) | exact HB.out)) hb); clear BK725; clear HB; have BK725 := n0_; have HB := n1_; clear n0_ n1_; (try clear hb); (try clear hb2); (try clear hk); (try clear hi); have hcz17_0 : w16.cell? ⟨gb725, 0, none⟩ = some (.int .i64 a0_0) := (blk_cell BK725.out 0).trans rfl; have hcz17_1 : w16.cell? ⟨gb725, 1, none⟩ = some (.int .i64 a0_1) := (blk_cell BK725.out 1).trans rfl; have hcz17_2 : w16.cell? ⟨gb725, 2, none⟩ = some (.int .i64 a0_2) := (blk_cell BK725.out 2).trans rfl; have hcz17_3 : w16.cell? ⟨gb725, 3, none⟩ = some (.int .i64 a0_3) := (blk_cell BK725.out 3).trans rfl; have hcz17_4 : w16.cell? ⟨gb725, 4, none⟩ = some (.slice A0_4 l0_4.length c0_4) := (blk_cell BK725.out 4).trans rfl; have hfz17_0 := blk_frozen BK725.out 0; have hfz17_1 := blk_frozen BK725.out 1; have hfz17_2 := blk_frozen BK725.out 2; have hfz17_3 := blk_frozen BK725.out 3; have hfz17_4 := blk_frozen BK725.out 4) | ((with_reducible refine gate_callee (f := 28) rfl ?_); refine goesL_ (some 20) rfl rfl Try.func28 (by kernel_rfl) rfl #[.agg #[.int .i64 a0_0, .int .i64 a0_1, .int .i64 a0_2, .int .i64 a0_3, .slice A0_4 l0_4.length c0_4]] rfl (by (try simp only [List.map_toArray, List.map_cons, List.map_nil]); first | done | rfl | (simp only [List.length_drop, List.length_take]; rfl)) ?_; (with_reducible refine (laws_toMaker.calls k a0_0 a0_1 a0_2 a0_3 _ _ l0_4 t727 t728 t729 t730 t731 _ ?side1 ?side2 A9.out).mono ?_); (case side1 => repeat (first | exact (Kd.C_below HR0_4.out HB.out) | (with_reducible refine Kd.C_alloc ?_ _) | (with_reducible refine Kd.C_drewN ?_ _) | (with_reducible refine Kd.C_drew ?_))); (case side2 => exact HC0_4.out); rintro e w18 ⟨v732, rfl, ho0, hb⟩; refine ⟨_, rfl, ?_⟩; have n0_ := Aside0.mk (Kd.R_lower ho0 (below_size (by repeat (first | (with_reducible first | exact HB.out | apply below_alloc | apply pw_below_drewN | apply below_drew1 | refine below_set ?_ GE725.out) | exact HB.out)))); have n1_ := Aside0.mk (blk_below (g := gb725) (o := .cells #[.int .i64 a0_0, .int .i64 a0_1, .int .i64 a0_2, .int .i64 a0_3, .slice A0_4 l0_4.length c0_4] 48 (0, 0)) (by (with_reducible repeat (first | refine blk_drewN ?_ _ | refine blk_drew ?_ | refine blk_alloc ?_ _)); exact BK725.out) hb); have n2_ := Aside0.mk (below_step (by repeat (first | (with_reducible first | exact HB.out | apply below_alloc | apply pw_below_drewN | apply below_drew1 | refine below_set ?_ GE725.out) | exact HB.out)) hb); clear BK725; clear HB; have HO733 := n0_; have BK725 := n1_; have HB := n2_; clear n0_ n1_ n2_; (try clear hb); (try clear hb2); (try clear hk); (try clear hi); (try clear ho0); obtain ⟨Ao19, co19, eo19⟩ := Kd.R_slice HO733.out; subst eo19) | ((with_reducible refine gate_callee (f := 27) rfl ?_); refine goesL_ (some 23) rfl rfl Try.func27 (by kernel_rfl) rfl #[.agg #[.int .i64 t727, .int .i64 t728, .int .i64 t729, .int .i64 t730, .slice Ao19 t731.length co19], .int .i64 a1, .int .i64 a2] rfl (by (try simp only [List.map_toArray, List.map_cons, List.map_nil]); first | done | rfl | (simp only [List.length_drop, List.length_take]; rfl)) ?_; (with_reducible refine (spec_MakerAsk.calls k t727 t728 t729 t730 _ _ t731 a1 a2 t734 t735 _ ?side1 ?side2 A10.out).mono ?_); (case side1 => repeat (first | exact (Kd.R_reads' HO733.out).2.2 | (with_reducible refine Kd.C_alloc ?_ _) | (with_reducible refine Kd.C_drewN ?_ _) | (with_reducible refine Kd.C_drew ?_))); (case side2 => exact (Kd.R_reads' HO733.out).2.1); rintro e w20 ⟨rfl, hb⟩; refine ⟨_, rfl, ?_⟩; have n0_ := Aside0.mk (Kd.R_below (by (with_reducible repeat (first | apply Kd.R_alloc | apply Kd.R_drewN | apply Kd.R_drew)); exact HO733.out) hb); have n1_ := Aside0.mk (blk_below (g := gb725) (o := .cells #[.int .i64 a0_0, .int .i64 a0_1, .int .i64 a0_2, .int .i64 a0_3, .slice A0_4 l0_4.length c0_4] 48 (0, 0)) (by (with_reducible repeat (first | refine blk_drewN ?_ _ | refine blk_drew ?_ | refine blk_alloc ?_ _)); exact BK725.out) hb); have n2_ := Aside0.mk (below_step (by repeat (first | (with_reducible first | exact HB.out | apply below_alloc | apply pw_below_drewN | apply below_drew1 | refine below_set ?_ GE725.out) | exact HB.out)) hb); clear HO733; clear BK725; clear HB; have HO733 := n0_; have BK725 := n1_; have HB := n2_; clear n0_ n1_ n2_; (try clear hb); (try clear hb2); (try clear hk); (try clear hi); have hcz21_0 : w20.cell? ⟨gb725, 0, none⟩ = some (.int .i64 a0_0) := (blk_cell BK725.out 0).trans rfl; have hcz21_1 : w20.cell? ⟨gb725, 1, none⟩ = some (.int .i64 a0_1) := (blk_cell BK725.out 1).trans rfl; have hcz21_2 : w20.cell? ⟨gb725, 2, none⟩ = some (.int .i64 a0_2) := (blk_cell BK725.out 2).trans rfl; have hcz21_3 : w20.cell? ⟨gb725, 3, none⟩ = some (.int .i64 a0_3) := (blk_cell BK725.out 3).trans rfl; have hcz21_4 : w20.cell? ⟨gb725, 4, none⟩ = some (.slice A0_4 l0_4.length c0_4) := (blk_cell BK725.out 4).trans rfl; have hfz21_0 := blk_frozen BK725.out 0; have hfz21_1 := blk_frozen BK725.out 1; have hfz21_2 := blk_frozen BK725.out 2; have hfz21_3 := blk_frozen BK725.out 3; have hfz21_4 := blk_frozen BK725.out 4) | ((with_reducible refine gate_callee (f := 28) rfl ?_); refine goesL_ (some 27) rfl rfl Try.func28 (by kernel_rfl) rfl #[.agg #[.int .i64 a0_0, .int .i64 a0_1, .int .i64 a0_2, .int .i64 a0_3, .slice A0_4 l0_4.length c0_4]] rfl (by (try simp only [List.map_toArray, List.map_cons, List.map_nil]); first | done | rfl | (simp only [List.length_drop, List.length_take]; rfl)) ?_; (with_reducible refine (laws_toMaker.calls k a0_0 a0_1 a0_2 a0_3 _ _ l0_4 t736 t737 t738 t739 t740 _ ?side1 ?side2 A11.out).mono ?_); (case side1 => repeat (first | exact (Kd.C_below HR0_4.out HB.out) | (with_reducible refine Kd.C_alloc ?_ _) | (with_reducible refine Kd.C_drewN ?_ _) | (with_reducible refine Kd.C_drew ?_))); (case side2 => exact HC0_4.out); rintro e w22 ⟨v741, rfl, ho0, hb⟩; refine ⟨_, rfl, ?_⟩; have n0_ := Aside0.mk (Kd.R_elder' (by (with_reducible repeat (first | apply Kd.R_alloc | apply Kd.R_drewN | apply Kd.R_drew)); exact HO733.out) (Kd.R_base ho0) hb); have n1_ := Aside0.mk (Kd.R_lower (Kd.R_new' ho0 (Kd.R_lt (by (with_reducible repeat (first | apply Kd.R_alloc | apply Kd.R_drewN | apply Kd.R_drew)); exact HO733.out))) (below_size (by repeat (first | (with_reducible first | exact HB.out | apply below_alloc | apply pw_below_drewN | apply below_drew1 | refine below_set ?_ GE725.out) | exact HB.out)))); have n2_ := Aside0.mk (blk_below (g := gb725) (o := .cells #[.int .i64 a0_0, .int .i64 a0_1, .int .i64 a0_2, .int .i64 a0_3, .slice A0_4 l0_4.length c0_4] 48 (0, 0)) (by (with_reducible repeat (first | refine blk_drewN ?_ _ | refine blk_drew ?_ | refine blk_alloc ?_ _)); exact BK725.out) hb); have n3_ := Aside0.mk (below_step (by repeat (first | (with_reducible first | exact HB.out | apply below_alloc | apply pw_below_drewN | apply below_drew1 | refine below_set ?_ GE725.out) | exact HB.out)) hb); clear HO733; clear BK725; clear HB; have HO733 := n0_; have HO742 := n1_; have BK725 := n2_; have HB := n3_; clear n0_ n1_ n2_ n3_; (try clear hb); (try clear hb2); (try clear hk); (try clear hi); (try clear ho0)) | ((with_reducible refine gate_dst (N := 10) rfl ?_); refine box_event ?hg (N := 10) ?hd (cs := #[.int .i64 0, .int .i64 0, .int .i64 0, .int .i64 0, .slice none 0 0]) (t := 54) ?hr ?_; (case hd => rfl); (case hg => rfl); (case hr => first | (go_simp; done) | (go_simp; rfl)); intro gb743 hg w23 hbox hb; have n0_ := Aside0.mk (Kd.R_below (by (with_reducible repeat (first | apply Kd.R_alloc | apply Kd.R_drewN | apply Kd.R_drew)); exact HO733.out) hb); have n1_ := Aside0.mk (Kd.R_below (by (with_reducible repeat (first | apply Kd.R_alloc | apply Kd.R_drewN | apply Kd.R_drew)); exact HO742.out) hb); have n2_ := Aside0.mk (blk_below (g := gb725) (o := .cells #[.int .i64 a0_0, .int .i64 a0_1, .int .i64 a0_2, .int .i64 a0_3, .slice A0_4 l0_4.length c0_4] 48 (0, 0)) (by (with_reducible repeat (first | refine blk_drewN ?_ _ | refine blk_drew ?_ | refine blk_alloc ?_ _)); exact BK725.out) hb); have n3_ := Aside0.mk (below_step (by repeat (first | (with_reducible first | exact HB.out | apply below_alloc | apply pw_below_drewN | apply below_drew1 | refine below_set ?_ GE725.out) | exact HB.out)) hb); have n4_ := Aside0.mk (hbox); have n5_ := Aside0.mk ((by rw [hg]; exact (below_size (by repeat (first | (with_reducible first | exact HB.out | apply below_alloc | apply pw_below_drewN | apply below_drew1 | refine below_set ?_ GE725.out) | exact HB.out))) : w.heap.size ≤ gb743)); have n6_ := Aside0.mk ((by rw [hg]; exact (below_size (by repeat (first | (with_reducible first | exact HB.out | apply below_alloc | apply pw_below_drewN | apply below_drew1 | refine below_set ?_ GE725.out) | exact HB.out))) : w.heap.size ≤ gb743)); have n7_ := Aside0.mk ((by rw [hg]; exact Nat.ne_of_lt (blk_lt (g := gb725) (o := .cells #[.int .i64 a0_0, .int .i64 a0_1, .int .i64 a0_2, .int .i64 a0_3, .slice A0_4 l0_4.length c0_4] 48 (0, 0)) (by (with_reducible repeat (first | refine blk_drewN ?_ _ | refine blk_drew ?_ | refine blk_alloc ?_ _)); exact BK725.out)) : gb725 ≠ gb743)); have n8_ := Aside0.mk ((by rw [hg]; exact Nat.ne_of_gt (blk_lt (g := gb725) (o := .cells #[.int .i64 a0_0, .int .i64 a0_1, .int .i64 a0_2, .int .i64 a0_3, .slice A0_4 l0_4.length c0_4] 48 (0, 0)) (by (with_reducible repeat (first | refine blk_drewN ?_ _ | refine blk_drew ?_ | refine blk_alloc ?_ _)); exact BK725.out)) : gb743 ≠ gb725)); clear HO733; clear HO742; clear BK725; clear HB; have HO733 := n0_; have HO742 := n1_; have BK725 := n2_; have HB := n3_; have BK743 := n4_; have GW743 := n5_; have GE743 := n6_; have NB725_743 := n7_; have NB743_725 := n8_; clear n0_ n1_ n2_ n3_ n4_ n5_ n6_ n7_ n8_; clear hb hbox hg; have hnb24 := NB743_725.out; have hnc24 := NB725_743.out; have hcz25_0 : w23.cell? ⟨gb743, 0, none⟩ = some (.int .i64 0) := (blk_cell BK743.out 0).trans rfl; have hcz25_1 : w23.cell? ⟨gb743, 1, none⟩ = some (.int .i64 0) := (blk_cell BK743.out 1).trans rfl; have hcz25_2 : w23.cell? ⟨gb743, 2, none⟩ = some (.int .i64 0) := (blk_cell BK743.out 2).trans rfl; have hcz25_3 : w23.cell? ⟨gb743, 3, none⟩ = some (.int .i64 0) := (blk_cell BK743.out 3).trans rfl; have hcz25_4 : w23.cell? ⟨gb743, 4, none⟩ = some (.slice none 0 0) := (blk_cell BK743.out 4).trans rfl; have hfz25_0 := blk_frozen BK743.out 0; have hfz25_1 := blk_frozen BK743.out 1; have hfz25_2 := blk_frozen BK743.out 2; have hfz25_3 := blk_frozen BK743.out 3; have hfz25_4 := blk_frozen BK743.out 4; obtain ⟨Ao26, co26, eo26⟩ := Kd.R_slice HO742.out; subst eo26) | ((with_reducible refine gate_callee (f := 29) rfl ?_); refine goesL_ (some 32) rfl rfl Try.func29 (by kernel_rfl) rfl #[.agg #[.int .i64 t736, .int .i64 t737, .int .i64 t738, .int .i64 t739, .slice Ao26 t740.length co26], .int .i64 a1, .int .i64 a2] rfl (by (try simp only [List.map_toArray, List.map_cons, List.map_nil]); first | done | rfl | (simp only [List.length_drop, List.length_take]; rfl)) ?_; (with_reducible refine (impl_MakerAsk.calls k t736 t737 t738 t739 _ _ t740 a1 a2 t744 t745 _ ?side1 ?side2 A12.out).mono ?_); (case side1 => refine (Kd.R_reads' (e := 118) (base := w.heap.size) (ok := fun k_ => (True ∧ some k_ ≠ (.slice Ao19 t731.length co19 : Value).ownBlock)) (n := t740.length) (c := co26) ?_).2.2; exact (by (with_reducible repeat (first | apply Kd.R_alloc | apply Kd.R_drewN | apply Kd.R_drew)); exact (Kd.R_mono (Kd.R_far (p := ⟨gb743, 4, none⟩) (Kd.R_far (p := ⟨gb743, 3, none⟩) (Kd.R_far (p := ⟨gb743, 2, none⟩) (Kd.R_far (p := ⟨gb743, 1, none⟩) (Kd.R_far (p := ⟨gb743, 0, none⟩) (Kd.R_types HO742.out BK743.out (by decide)) (fun _ hk => hk.2) (.int .i64 t736)) (fun _ hk => hk.2) (.int .i64 t737)) (fun _ hk => hk.2) (.int .i64 t738)) (fun _ hk => hk.2) (.int .i64 t739)) (fun _ hk => hk.2) (.slice Ao26 t740.length co26)) (fun _ h_ => h_.1)))); (case side2 => exact (Kd.R_reads' HO742.out).2.1); rintro e w27 ⟨rfl, hb⟩; refine ⟨_, rfl, ?_⟩; have n0_ := Aside0.mk (Kd.R_below (by (with_reducible repeat (first | apply Kd.R_alloc | apply Kd.R_drewN | apply Kd.R_drew)); exact (Kd.R_mono (Kd.R_far (p := ⟨gb743, 4, none⟩) (Kd.R_far (p := ⟨gb743, 3, none⟩) (Kd.R_far (p := ⟨gb743, 2, none⟩) (Kd.R_far (p := ⟨gb743, 1, none⟩) (Kd.R_far (p := ⟨gb743, 0, none⟩) (Kd.R_types HO733.out BK743.out (by decide)) (fun _ hk => hk.2) (.int .i64 t736)) (fun _ hk => hk.2) (.int .i64 t737)) (fun _ hk => hk.2) (.int .i64 t738)) (fun _ hk => hk.2) (.int .i64 t739)) (fun _ hk => hk.2) (.slice Ao26 t740.length co26)) (fun _ h_ => h_.1))) hb); have n1_ := Aside0.mk (Kd.R_below (by (with_reducible repeat (first | apply Kd.R_alloc | apply Kd.R_drewN | apply Kd.R_drew)); exact (Kd.R_mono (Kd.R_far (p := ⟨gb743, 4, none⟩) (Kd.R_far (p := ⟨gb743, 3, none⟩) (Kd.R_far (p := ⟨gb743, 2, none⟩) (Kd.R_far (p := ⟨gb743, 1, none⟩) (Kd.R_far (p := ⟨gb743, 0, none⟩) (Kd.R_types HO742.out BK743.out (by decide)) (fun _ hk => hk.2) (.int .i64 t736)) (fun _ hk => hk.2) (.int .i64 t737)) (fun _ hk => hk.2) (.int .i64 t738)) (fun _ hk => hk.2) (.int .i64 t739)) (fun _ hk => hk.2) (.slice Ao26 t740.length co26)) (fun _ h_ => h_.1))) hb); have n2_ := Aside0.mk (blk_below (g := gb725) (o := .cells #[.int .i64 a0_0, .int .i64 a0_1, .int .i64 a0_2, .int .i64 a0_3, .slice A0_4 l0_4.length c0_4] 48 (0, 0)) (by (with_reducible repeat (first | refine blk_drewN ?_ _ | refine blk_drew ?_ | refine blk_alloc ?_ _)); refine blk_far ?_ NB725_743.out _; (with_reducible repeat (first | refine blk_drewN ?_ _ | refine blk_drew ?_ | refine blk_alloc ?_ _)); refine blk_far ?_ NB725_743.out _; (with_reducible repeat (first | refine blk_drewN ?_ _ | refine blk_drew ?_ | refine blk_alloc ?_ _)); refine blk_far ?_ NB725_743.out _; (with_reducible repeat (first | refine blk_drewN ?_ _ | refine blk_drew ?_ | refine blk_alloc ?_ _)); refine blk_far ?_ NB725_743.out _; (with_reducible repeat (first | refine blk_drewN ?_ _ | refine blk_drew ?_ | refine blk_alloc ?_ _)); refine blk_far ?_ NB725_743.out _; (with_reducible repeat (first | refine blk_drewN ?_ _ | refine blk_drew ?_ | refine blk_alloc ?_ _)); exact BK725.out) hb); have n3_ := Aside0.mk (blk_below (g := gb743) (o := .cells #[.int .i64 t736, .int .i64 t737, .int .i64 t738, .int .i64 t739, .slice Ao26 t740.length co26] 54 (0, 0)) (by (with_reducible repeat (first | refine blk_drewN ?_ _ | refine blk_drew ?_ | refine blk_alloc ?_ _)); refine blk_put (cs := #[.int .i64 t736, .int .i64 t737, .int .i64 t738, .int .i64 t739, .slice none 0 0]) ?_ 4 _ rfl; (with_reducible repeat (first | refine blk_drewN ?_ _ | refine blk_drew ?_ | refine blk_alloc ?_ _)); refine blk_put (cs := #[.int .i64 t736, .int .i64 t737, .int .i64 t738, .int .i64 0, .slice none 0 0]) ?_ 3 _ rfl; (with_reducible repeat (first | refine blk_drewN ?_ _ | refine blk_drew ?_ | refine blk_alloc ?_ _)); refine blk_put (cs := #[.int .i64 t736, .int .i64 t737, .int .i64 0, .int .i64 0, .slice none 0 0]) ?_ 2 _ rfl; (with_reducible repeat (first | refine blk_drewN ?_ _ | refine blk_drew ?_ | refine blk_alloc ?_ _)); refine blk_put (cs := #[.int .i64 t736, .int .i64 0, .int .i64 0, .int .i64 0, .slice none 0 0]) ?_ 1 _ rfl; (with_reducible repeat (first | refine blk_drewN ?_ _ | refine blk_drew ?_ | refine blk_alloc ?_ _)); refine blk_put (cs := #[.int .i64 0, .int .i64 0, .int .i64 0, .int .i64 0, .slice none 0 0]) ?_ 0 _ rfl; (with_reducible repeat (first | refine blk_drewN ?_ _ | refine blk_drew ?_ | refine blk_alloc ?_ _)); exact BK743.out) hb); have n4_ := Aside0.mk (below_step (by repeat (first | (with_reducible first | exact HB.out | apply below_alloc | apply pw_below_drewN | apply below_drew1 | refine below_set ?_ GE725.out | refine below_set ?_ GE743.out) | exact HB.out)) hb); clear HO733; clear HO742; clear BK725; clear BK743; clear HB; have HO733 := n0_; have HO742 := n1_; have BK725 := n2_; have BK743 := n3_; have HB := n4_; clear n0_ n1_ n2_ n3_ n4_; (try clear hb); (try clear hb2); (try clear hk); (try clear hi)))
    (try simp only [Act.put, List.setIfInBounds_toArray, List.set_cons_zero, List.set_cons_succ])
    go_cut [42] (fun v42 wc => ∃ (kq : Nat) (x42_12 : Bool), v42 = .bool x42_12 ∧ Aside0 (laws_FnExactMakerAsk.j0 kq x42_12 a0_0 a0_1 a0_2 a0_3 l0_4 t736 t737 t738 t739 t740 = some r) ∧ Aside0 (kq ≤ k) ∧ Aside0 (Kd.R k_Mark 118 wc w.heap.size (fun _ => True) (.slice Ao26 t740.length co26) t740) ∧ Aside0 (wc.heap[gb725]? = some (.cells #[.int .i64 a0_0, .int .i64 a0_1, .int .i64 a0_2, .int .i64 a0_3, (.slice A0_4 l0_4.length c0_4)] 48 (0, 0))) ∧ Aside0 (wc.heap[gb743]? = some (.cells #[.int .i64 t736, .int .i64 t737, .int .i64 t738, .int .i64 t739, (.slice Ao26 t740.length co26)] 54 (0, 0))) ∧ Aside0 (Below w.heap.size w wc))
    case first =>
      have H := HC13.out
      clear HC13
      by_cases c28 : t744 = t734
      · rw [if_pos c28] at H
        have c28b0 : (t744 == t734) = true := beq_iff_eq.mpr c28
        have c28b1 : (t744 != t734) = false := bne_eq_false_iff_eq.mpr c28
        clear c28
        (first | rw [c28b0] | (simp only [i64_w, i32_w]; rw [c28b0]) | rw [c28b4] | rw [c28b3] | skip)
        have H' := Aside0.mk H
        clear H
        go_wp2
        go_meet
        case rel => exact ⟨_, ((t745 != t735)), (by first | rfl | (simp; done) | (simp [*]; done)), H', ⟨by first | omega | exact Nat.le_refl _⟩, ⟨by (with_reducible repeat (first | apply Kd.R_alloc | apply Kd.R_drewN | apply Kd.R_drew)); exact Kd.R_mono HO742.out (fun _ hk => trivial)⟩, ⟨by (with_reducible repeat (first | refine blk_drewN ?_ _ | refine blk_drew ?_ | refine blk_alloc ?_ _)); exact BK725.out⟩, ⟨by (with_reducible repeat (first | refine blk_drewN ?_ _ | refine blk_drew ?_ | refine blk_alloc ?_ _)); exact BK743.out⟩, ⟨by repeat (first | (with_reducible first | exact HB.out | apply below_alloc | apply pw_below_drewN | apply below_drew1 | refine below_set ?_ GE725.out | refine below_set ?_ GE743.out) | exact HB.out)⟩⟩
      · rw [if_neg c28] at H
        have c28b0 : (t744 == t734) = false := beq_eq_false_iff_ne.mpr c28
        have c28b1 : (t744 != t734) = true := bne_iff_ne.mpr c28
        (first | rw [c28b0] | (simp only [i64_w, i32_w]; rw [c28b0]) | rw [c28b4] | rw [c28b3] | skip)
        have H' := Aside0.mk H
        clear H
        go_wp2
        go_meet
        case rel => exact ⟨_, (true), (by first | rfl | (simp; done) | (simp [*]; done)), H', ⟨by first | omega | exact Nat.le_refl _⟩, ⟨by (with_reducible repeat (first | apply Kd.R_alloc | apply Kd.R_drewN | apply Kd.R_drew)); exact Kd.R_mono HO742.out (fun _ hk => trivial)⟩, ⟨by (with_reducible repeat (first | refine blk_drewN ?_ _ | refine blk_drew ?_ | refine blk_alloc ?_ _)); exact BK725.out⟩, ⟨by (with_reducible repeat (first | refine blk_drewN ?_ _ | refine blk_drew ?_ | refine blk_alloc ?_ _)); exact BK743.out⟩, ⟨by repeat (first | (with_reducible first | exact HB.out | apply below_alloc | apply pw_below_drewN | apply below_drew1 | refine below_set ?_ GE725.out | refine below_set ?_ GE743.out) | exact HB.out)⟩⟩
    case rest =>
      clear HC13
      try clear c2
      try clear p2
      try clear c5
      try clear c5b0
      try clear c24
      try clear c26
      try clear c27
      try clear c28
      try clear c28b0
      try clear c28b1
      try clear hcz15_0
      try clear hcz15_1
      try clear hcz15_2
      try clear hcz15_3
      try clear hcz15_4
      try clear hcz17_0
      try clear hcz17_1
      try clear hcz17_2
      try clear hcz17_3
      try clear hcz17_4
      try clear hcz21_0
      try clear hcz21_1
      try clear hcz21_2
      try clear hcz21_3
      try clear hcz21_4
      try clear hcz25_0
      try clear hcz25_1
      try clear hcz25_2
      try clear hcz25_3
      try clear hcz25_4
      try clear hcz7_0
      try clear hcz7_1
      try clear hcz7_2
      try clear hcz7_3
      try clear hcz7_4
      try clear hfz15_0
      try clear hfz15_1
      try clear hfz15_2
      try clear hfz15_3
      try clear hfz15_4
      try clear hfz17_0
      try clear hfz17_1
      try clear hfz17_2
      try clear hfz17_3
      try clear hfz17_4
      try clear hfz21_0
      try clear hfz21_1
      try clear hfz21_2
      try clear hfz21_3
      try clear hfz21_4
      try clear hfz25_0
      try clear hfz25_1
      try clear hfz25_2
      try clear hfz25_3
      try clear hfz25_4
      try clear hfz7_0
      try clear hfz7_1
      try clear hfz7_2
      try clear hfz7_3
      try clear hfz7_4
      obtain ⟨kq, x42_12, rfl, HA, HJ12, HO_744004, BK725, BK743, HB⟩ := hcut
      cases kq with
      | zero => exact absurd HA.out (by simp [laws_FnExactMakerAsk.j0])
      | succ kj12 =>
        have H := HA.out
        clear HA
        simp only [laws_FnExactMakerAsk.j0] at H
        by_cases c29 : x42_12 = true
        · subst c29
          have H1 : (some false) = some r := by rw [if_pos rfl] at H; exact H
          clear H
          have H := H1
          clear H1
          obtain rfl := Option.some.inj H
          go_wp2
          go_ret
          exact ⟨by first | rfl | (simp [errW_none, errW_some] <;> rfl) | (simp [*, errW_none, errW_some] <;> rfl), by repeat (first | (with_reducible first | exact HB.out | apply below_alloc | apply pw_below_drewN | apply below_drew1 | refine below_set ?_ GE725.out | refine below_set ?_ GE743.out) | exact HB.out)⟩
        · replace c29 := Bool.eq_false_iff.mpr c29
          subst c29
          have H1 : ((laws_toMaker.f kj12 a0_0 a0_1 a0_2 a0_3 l0_4).bind fun bt746 => ((laws_eqMaker.f kj12 t736 t737 t738 t739 t740 bt746.1 bt746.2.1 bt746.2.2.1 bt746.2.2.2.1 bt746.2.2.2.2).bind fun t753 => (if t753 = true then (some true) else (some false)))) = some r := by rw [if_neg (show ¬ (false = true) by decide)] at H; exact H
          clear H
          have H := H1
          clear H1
          replace H := Option.bind_eq_some_iff.mp H
          obtain ⟨⟨t746, t747, t748, t749, t750⟩, A300, H⟩ := H
          replace H : ((laws_eqMaker.f kj12 t736 t737 t738 t739 t740 t746 t747 t748 t749 t750).bind fun t753 => (if t753 = true then (some true) else (some false))) = some r := H
          have A30 := Aside0.mk A300
          clear A300
          replace H := Option.bind_eq_some_iff.mp H
          obtain ⟨t753, A310, H⟩ := H
          replace H : (if t753 = true then (some true) else (some false)) = some r := H
          have A31 := Aside0.mk A310
          clear A310
          by_cases c32 : t753 = true
          · subst c32
            have H1 : (some true) = some r := by rw [if_pos rfl] at H; exact H
            clear H
            have H := H1
            clear H1
            obtain rfl := Option.some.inj H
            try go_wp2
            have n0_ := Aside0.mk (Kd.R_drew HO_744004.out)
            have n1_ := Aside0.mk (blk_drew BK725.out)
            have n2_ := Aside0.mk (blk_drew BK743.out)
            have n3_ := Aside0.mk (below_drew1 HB.out)
            clear HO_744004
            clear BK725
            clear BK743
            clear HB
            have HO_744004 := n0_
            have BK725 := n1_
            have BK743 := n2_
            have HB := n3_
            clear n0_ n1_ n2_ n3_
            refine start_ (n := 5) (S := fun w' => w'.cell? ⟨gb743, 0, none⟩ = some (.int .i64 t736) ∧ w'.cell? ⟨gb743, 1, none⟩ = some (.int .i64 t737) ∧ w'.cell? ⟨gb743, 2, none⟩ = some (.int .i64 t738) ∧ w'.cell? ⟨gb743, 3, none⟩ = some (.int .i64 t739) ∧ w'.cell? ⟨gb743, 4, none⟩ = some (.slice Ao26 t740.length co26) ∧ w'.cell? ⟨gb725, 0, none⟩ = some (.int .i64 a0_0) ∧ w'.cell? ⟨gb725, 1, none⟩ = some (.int .i64 a0_1) ∧ w'.cell? ⟨gb725, 2, none⟩ = some (.int .i64 a0_2) ∧ w'.cell? ⟨gb725, 3, none⟩ = some (.int .i64 a0_3) ∧ w'.cell? ⟨gb725, 4, none⟩ = some (.slice A0_4 l0_4.length c0_4)) (ds := []) #[false, false, false, false, false] (by kernel_rfl) rfl rfl ⟨(blk_cell BK743.out 0).trans rfl, (blk_cell BK743.out 1).trans rfl, (blk_cell BK743.out 2).trans rfl, (blk_cell BK743.out 3).trans rfl, (blk_cell BK743.out 4).trans rfl, (blk_cell BK725.out 0).trans rfl, (blk_cell BK725.out 1).trans rfl, (blk_cell BK725.out 2).trans rfl, (blk_cell BK725.out 3).trans rfl, (blk_cell BK725.out 4).trans rfl⟩ (fun hHeld => ?_)
            generalize wc.drew = w33 at HO_744004 BK725 BK743 HB hHeld ⊢
            refine take_ (i := 0) (N := some 43) (v := ?_) (a' := ?_) #[true, false, false, false, false] rfl rfl (by kernel_rfl) (fun _ _ _ h => h) (Or.inl ⟨by rfl, ?_⟩) hHeld ?_ ?_
            rotate_left
            · rintro w' ⟨s0, s1, s2, s3, s4, s5, s6, s7, s8, s9⟩
              go_simp
              with_reducible rfl
            rotate_left
            · simp only [Act.put, List.setIfInBounds_toArray, List.set_cons_zero, List.set_cons_succ, i64_w, i32_w]
              rfl
            refine take_ (i := 1) (N := some 44) (v := ?_) (a' := ?_) #[true, true, false, false, false] rfl rfl (by kernel_rfl) (fun _ _ _ h => h) (Or.inl ⟨by rfl, ?_⟩) hHeld ?_ ?_
            rotate_left
            · rintro w' ⟨s0, s1, s2, s3, s4, s5, s6, s7, s8, s9⟩
              go_simp
              with_reducible rfl
            rotate_left
            · simp only [Act.put, List.setIfInBounds_toArray, List.set_cons_zero, List.set_cons_succ, i64_w, i32_w]
              rfl
            refine one_ (i := 2) (N := some 45) #[true, true, true, false, false] rfl rfl (by kernel_rfl) (by decide) (fun K hK => ?_)
            refine goes_ Try.func28 (by kernel_rfl) rfl #[.agg #[.int .i64 a0_0, .int .i64 a0_1, .int .i64 a0_2, .int .i64 a0_3, .slice A0_4 l0_4.length c0_4]] (by rfl) rfl rfl (by (try simp only [List.map_toArray, List.map_cons, List.map_nil]); first | done | rfl | (simp only [List.length_drop, List.length_take]; rfl)) ?_
            with_reducible refine (laws_toMaker.calls kj12 a0_0 a0_1 a0_2 a0_3 _ _ l0_4 t746 t747 t748 t749 t750 _ ?side1 ?side2 A30.out).mono ?_
            (case side1 => repeat (first | exact (Kd.C_below HR0_4.out HB.out) | (with_reducible refine Kd.C_alloc ?_ _) | (with_reducible refine Kd.C_drewN ?_ _) | (with_reducible refine Kd.C_drew ?_)))
            (case side2 => exact HC0_4.out)
            rintro e w34 ⟨v751, rfl, ho0, hb⟩
            refine ⟨_, rfl, ?_⟩
            have n0_ := Aside0.mk (Kd.R_elder' (by (with_reducible repeat (first | apply Kd.R_alloc | apply Kd.R_drewN | apply Kd.R_drew)); exact HO_744004.out) (Kd.R_base ho0) hb)
            have n1_ := Aside0.mk (Kd.R_lower (Kd.R_new' ho0 (Kd.R_lt (by (with_reducible repeat (first | apply Kd.R_alloc | apply Kd.R_drewN | apply Kd.R_drew)); exact HO_744004.out))) (below_size (by repeat (first | (with_reducible first | exact HB.out | apply below_alloc | apply pw_below_drewN | apply below_drew1 | refine below_set ?_ GE725.out | refine below_set ?_ GE743.out) | exact HB.out))))
            have n2_ := Aside0.mk (blk_below (g := gb725) (o := .cells #[.int .i64 a0_0, .int .i64 a0_1, .int .i64 a0_2, .int .i64 a0_3, .slice A0_4 l0_4.length c0_4] 48 (0, 0)) (by (with_reducible repeat (first | refine blk_drewN ?_ _ | refine blk_drew ?_ | refine blk_alloc ?_ _)); exact BK725.out) hb)
            have n3_ := Aside0.mk (blk_below (g := gb743) (o := .cells #[.int .i64 t736, .int .i64 t737, .int .i64 t738, .int .i64 t739, .slice Ao26 t740.length co26] 54 (0, 0)) (by (with_reducible repeat (first | refine blk_drewN ?_ _ | refine blk_drew ?_ | refine blk_alloc ?_ _)); exact BK743.out) hb)
            have n4_ := Aside0.mk (below_step (by repeat (first | (with_reducible first | exact HB.out | apply below_alloc | apply pw_below_drewN | apply below_drew1 | refine below_set ?_ GE725.out | refine below_set ?_ GE743.out) | exact HB.out)) hb)
            clear HO_744004
            clear BK725
            clear BK743
            clear HB
            have HO_744004 := n0_
            have HO752 := n1_
            have BK725 := n2_
            have BK743 := n3_
            have HB := n4_
            clear n0_ n1_ n2_ n3_ n4_
            (try clear hb)
            (try clear hb2)
            (try clear hk)
            (try clear hi)
            (try clear ho0)
            obtain ⟨Ao35, co35, eo35⟩ := Kd.R_slice HO752.out
            (first | subst eo35 | (injection eo35 with f1_ f2_ f3_; have f4_ := f1_.symm; have f5_ := f3_.symm; clear f1_ f2_ f3_; subst f4_; subst f5_))
            refine hK.out _ _ ⟨(blk_cell BK743.out 0).trans rfl, (blk_cell BK743.out 1).trans rfl, (blk_cell BK743.out 2).trans rfl, (blk_cell BK743.out 3).trans rfl, (blk_cell BK743.out 4).trans rfl, (blk_cell BK725.out 0).trans rfl, (blk_cell BK725.out 1).trans rfl, (blk_cell BK725.out 2).trans rfl, (blk_cell BK725.out 3).trans rfl, (blk_cell BK725.out 4).trans rfl⟩ (fun hHeld => ?_)
            clear hK K
            refine norm_ (a' := ?_) ?_ ?_
            rotate_left
            · show Act.put _ (some 45) _ = _
              simp only [Act.put, List.setIfInBounds_toArray, List.set_cons_zero, List.set_cons_succ, i64_w, i32_w]
              rfl
            refine one_ (i := 3) (N := some 46) #[true, true, true, true, false] rfl rfl (by kernel_rfl) (by decide) (fun K hK => ?_)
            refine goes_ Try.func30 (by kernel_rfl) rfl #[.agg #[.int .i64 t736, .int .i64 t737, .int .i64 t738, .int .i64 t739, .slice Ao26 t740.length co26], .agg #[.int .i64 t746, .int .i64 t747, .int .i64 t748, .int .i64 t749, .slice Ao35 t750.length co35]] (by rfl) rfl rfl (by (try simp only [List.map_toArray, List.map_cons, List.map_nil]); first | done | rfl | (simp only [List.length_drop, List.length_take]; rfl)) ?_
            with_reducible refine (laws_eqMaker.calls kj12 t736 t737 t738 t739 _ _ t740 t746 t747 t748 t749 _ _ t750 true _ ?side1 ?side2 ?side3 ?side4 A31.out).mono ?_
            (case side1 => repeat (first | exact (Kd.R_reads' HO_744004.out).2.2 | (with_reducible refine Kd.C_alloc ?_ _) | (with_reducible refine Kd.C_drewN ?_ _) | (with_reducible refine Kd.C_drew ?_)))
            (case side2 => exact (Kd.R_reads' HO_744004.out).2.1)
            (case side3 => repeat (first | exact (Kd.R_reads' HO752.out).2.2 | (with_reducible refine Kd.C_alloc ?_ _) | (with_reducible refine Kd.C_drewN ?_ _) | (with_reducible refine Kd.C_drew ?_)))
            (case side4 => exact (Kd.R_reads' HO752.out).2.1)
            rintro e w36 ⟨rfl, hb⟩
            refine ⟨_, rfl, ?_⟩
            have n0_ := Aside0.mk (Kd.R_below (by (with_reducible repeat (first | apply Kd.R_alloc | apply Kd.R_drewN | apply Kd.R_drew)); exact HO_744004.out) hb)
            have n1_ := Aside0.mk (Kd.R_below (by (with_reducible repeat (first | apply Kd.R_alloc | apply Kd.R_drewN | apply Kd.R_drew)); exact HO752.out) hb)
            have n2_ := Aside0.mk (blk_below (g := gb725) (o := .cells #[.int .i64 a0_0, .int .i64 a0_1, .int .i64 a0_2, .int .i64 a0_3, .slice A0_4 l0_4.length c0_4] 48 (0, 0)) (by (with_reducible repeat (first | refine blk_drewN ?_ _ | refine blk_drew ?_ | refine blk_alloc ?_ _)); exact BK725.out) hb)
            have n3_ := Aside0.mk (blk_below (g := gb743) (o := .cells #[.int .i64 t736, .int .i64 t737, .int .i64 t738, .int .i64 t739, .slice Ao26 t740.length co26] 54 (0, 0)) (by (with_reducible repeat (first | refine blk_drewN ?_ _ | refine blk_drew ?_ | refine blk_alloc ?_ _)); exact BK743.out) hb)
            have n4_ := Aside0.mk (below_step (by repeat (first | (with_reducible first | exact HB.out | apply below_alloc | apply pw_below_drewN | apply below_drew1 | refine below_set ?_ GE725.out | refine below_set ?_ GE743.out) | exact HB.out)) hb)
            clear HO_744004
            clear HO752
            clear BK725
            clear BK743
            clear HB
            have HO_744004 := n0_
            have HO752 := n1_
            have BK725 := n2_
            have BK743 := n3_
            have HB := n4_
            clear n0_ n1_ n2_ n3_ n4_
            (try clear hb)
            (try clear hb2)
            (try clear hk)
            (try clear hi)
            refine hK.out _ _ ⟨(blk_cell BK743.out 0).trans rfl, (blk_cell BK743.out 1).trans rfl, (blk_cell BK743.out 2).trans rfl, (blk_cell BK743.out 3).trans rfl, (blk_cell BK743.out 4).trans rfl, (blk_cell BK725.out 0).trans rfl, (blk_cell BK725.out 1).trans rfl, (blk_cell BK725.out 2).trans rfl, (blk_cell BK725.out 3).trans rfl, (blk_cell BK725.out 4).trans rfl⟩ (fun hHeld => ?_)
            clear hK K
            refine norm_ (a' := ?_) ?_ ?_
            rotate_left
            · show Act.put _ (some 46) _ = _
              simp only [Act.put, List.setIfInBounds_toArray, List.set_cons_zero, List.set_cons_succ, i64_w, i32_w]
              rfl
            refine pure_ (i := 4) (N := some 47) (v := ?_) (a' := ?_) #[true, true, true, true, true] rfl rfl (by kernel_rfl) (fun _ _ _ h => h) (Or.inl ⟨by rfl, ?_⟩) ?_ ?_
            rotate_left
            · intro w'
              go_simp
              with_reducible rfl
            rotate_left
            · simp only [Act.put, List.setIfInBounds_toArray, List.set_cons_zero, List.set_cons_succ, i64_w, i32_w]
              rfl
            refine done_ (by kernel_rfl) ?_
            try go_wp2
            go_ret
            exact ⟨by first | rfl | (simp [errW_none, errW_some] <;> rfl) | (simp [*, errW_none, errW_some] <;> rfl), by repeat (first | (with_reducible first | exact HB.out | apply below_alloc | apply pw_below_drewN | apply below_drew1 | refine below_set ?_ GE725.out | refine below_set ?_ GE743.out) | exact HB.out)⟩
          · replace c32 := Bool.eq_false_iff.mpr c32
            subst c32
            have H1 : (some false) = some r := by rw [if_neg (show ¬ (false = true) by decide)] at H; exact H
            clear H
            have H := H1
            clear H1
            obtain rfl := Option.some.inj H
            try go_wp2
            have n0_ := Aside0.mk (Kd.R_drew HO_744004.out)
            have n1_ := Aside0.mk (blk_drew BK725.out)
            have n2_ := Aside0.mk (blk_drew BK743.out)
            have n3_ := Aside0.mk (below_drew1 HB.out)
            clear HO_744004
            clear BK725
            clear BK743
            clear HB
            have HO_744004 := n0_
            have BK725 := n1_
            have BK743 := n2_
            have HB := n3_
            clear n0_ n1_ n2_ n3_
            refine start_ (n := 5) (S := fun w' => w'.cell? ⟨gb743, 0, none⟩ = some (.int .i64 t736) ∧ w'.cell? ⟨gb743, 1, none⟩ = some (.int .i64 t737) ∧ w'.cell? ⟨gb743, 2, none⟩ = some (.int .i64 t738) ∧ w'.cell? ⟨gb743, 3, none⟩ = some (.int .i64 t739) ∧ w'.cell? ⟨gb743, 4, none⟩ = some (.slice Ao26 t740.length co26) ∧ w'.cell? ⟨gb725, 0, none⟩ = some (.int .i64 a0_0) ∧ w'.cell? ⟨gb725, 1, none⟩ = some (.int .i64 a0_1) ∧ w'.cell? ⟨gb725, 2, none⟩ = some (.int .i64 a0_2) ∧ w'.cell? ⟨gb725, 3, none⟩ = some (.int .i64 a0_3) ∧ w'.cell? ⟨gb725, 4, none⟩ = some (.slice A0_4 l0_4.length c0_4)) (ds := []) #[false, false, false, false, false] (by kernel_rfl) rfl rfl ⟨(blk_cell BK743.out 0).trans rfl, (blk_cell BK743.out 1).trans rfl, (blk_cell BK743.out 2).trans rfl, (blk_cell BK743.out 3).trans rfl, (blk_cell BK743.out 4).trans rfl, (blk_cell BK725.out 0).trans rfl, (blk_cell BK725.out 1).trans rfl, (blk_cell BK725.out 2).trans rfl, (blk_cell BK725.out 3).trans rfl, (blk_cell BK725.out 4).trans rfl⟩ (fun hHeld => ?_)
            generalize wc.drew = w37 at HO_744004 BK725 BK743 HB hHeld ⊢
            refine take_ (i := 0) (N := some 43) (v := ?_) (a' := ?_) #[true, false, false, false, false] rfl rfl (by kernel_rfl) (fun _ _ _ h => h) (Or.inl ⟨by rfl, ?_⟩) hHeld ?_ ?_
            rotate_left
            · rintro w' ⟨s0, s1, s2, s3, s4, s5, s6, s7, s8, s9⟩
              go_simp
              with_reducible rfl
            rotate_left
            · simp only [Act.put, List.setIfInBounds_toArray, List.set_cons_zero, List.set_cons_succ, i64_w, i32_w]
              rfl
            refine take_ (i := 1) (N := some 44) (v := ?_) (a' := ?_) #[true, true, false, false, false] rfl rfl (by kernel_rfl) (fun _ _ _ h => h) (Or.inl ⟨by rfl, ?_⟩) hHeld ?_ ?_
            rotate_left
            · rintro w' ⟨s0, s1, s2, s3, s4, s5, s6, s7, s8, s9⟩
              go_simp
              with_reducible rfl
            rotate_left
            · simp only [Act.put, List.setIfInBounds_toArray, List.set_cons_zero, List.set_cons_succ, i64_w, i32_w]
              rfl
            refine one_ (i := 2) (N := some 45) #[true, true, true, false, false] rfl rfl (by kernel_rfl) (by decide) (fun K hK => ?_)
            refine goes_ Try.func28 (by kernel_rfl) rfl #[.agg #[.int .i64 a0_0, .int .i64 a0_1, .int .i64 a0_2, .int .i64 a0_3, .slice A0_4 l0_4.length c0_4]] (by rfl) rfl rfl (by (try simp only [List.map_toArray, List.map_cons, List.map_nil]); first | done | rfl | (simp only [List.length_drop, List.length_take]; rfl)) ?_
            with_reducible refine (laws_toMaker.calls kj12 a0_0 a0_1 a0_2 a0_3 _ _ l0_4 t746 t747 t748 t749 t750 _ ?side1 ?side2 A30.out).mono ?_
            (case side1 => repeat (first | exact (Kd.C_below HR0_4.out HB.out) | (with_reducible refine Kd.C_alloc ?_ _) | (with_reducible refine Kd.C_drewN ?_ _) | (with_reducible refine Kd.C_drew ?_)))
            (case side2 => exact HC0_4.out)
            rintro e w38 ⟨v751, rfl, ho0, hb⟩
            refine ⟨_, rfl, ?_⟩
            have n0_ := Aside0.mk (Kd.R_elder' (by (with_reducible repeat (first | apply Kd.R_alloc | apply Kd.R_drewN | apply Kd.R_drew)); exact HO_744004.out) (Kd.R_base ho0) hb)
            have n1_ := Aside0.mk (Kd.R_lower (Kd.R_new' ho0 (Kd.R_lt (by (with_reducible repeat (first | apply Kd.R_alloc | apply Kd.R_drewN | apply Kd.R_drew)); exact HO_744004.out))) (below_size (by repeat (first | (with_reducible first | exact HB.out | apply below_alloc | apply pw_below_drewN | apply below_drew1 | refine below_set ?_ GE725.out | refine below_set ?_ GE743.out) | exact HB.out))))
            have n2_ := Aside0.mk (blk_below (g := gb725) (o := .cells #[.int .i64 a0_0, .int .i64 a0_1, .int .i64 a0_2, .int .i64 a0_3, .slice A0_4 l0_4.length c0_4] 48 (0, 0)) (by (with_reducible repeat (first | refine blk_drewN ?_ _ | refine blk_drew ?_ | refine blk_alloc ?_ _)); exact BK725.out) hb)
            have n3_ := Aside0.mk (blk_below (g := gb743) (o := .cells #[.int .i64 t736, .int .i64 t737, .int .i64 t738, .int .i64 t739, .slice Ao26 t740.length co26] 54 (0, 0)) (by (with_reducible repeat (first | refine blk_drewN ?_ _ | refine blk_drew ?_ | refine blk_alloc ?_ _)); exact BK743.out) hb)
            have n4_ := Aside0.mk (below_step (by repeat (first | (with_reducible first | exact HB.out | apply below_alloc | apply pw_below_drewN | apply below_drew1 | refine below_set ?_ GE725.out | refine below_set ?_ GE743.out) | exact HB.out)) hb)
            clear HO_744004
            clear BK725
            clear BK743
            clear HB
            have HO_744004 := n0_
            have HO752 := n1_
            have BK725 := n2_
            have BK743 := n3_
            have HB := n4_
            clear n0_ n1_ n2_ n3_ n4_
            (try clear hb)
            (try clear hb2)
            (try clear hk)
            (try clear hi)
            (try clear ho0)
            obtain ⟨Ao39, co39, eo39⟩ := Kd.R_slice HO752.out
            (first | subst eo39 | (injection eo39 with f1_ f2_ f3_; have f4_ := f1_.symm; have f5_ := f3_.symm; clear f1_ f2_ f3_; subst f4_; subst f5_))
            refine hK.out _ _ ⟨(blk_cell BK743.out 0).trans rfl, (blk_cell BK743.out 1).trans rfl, (blk_cell BK743.out 2).trans rfl, (blk_cell BK743.out 3).trans rfl, (blk_cell BK743.out 4).trans rfl, (blk_cell BK725.out 0).trans rfl, (blk_cell BK725.out 1).trans rfl, (blk_cell BK725.out 2).trans rfl, (blk_cell BK725.out 3).trans rfl, (blk_cell BK725.out 4).trans rfl⟩ (fun hHeld => ?_)
            clear hK K
            refine norm_ (a' := ?_) ?_ ?_
            rotate_left
            · show Act.put _ (some 45) _ = _
              simp only [Act.put, List.setIfInBounds_toArray, List.set_cons_zero, List.set_cons_succ, i64_w, i32_w]
              rfl
            refine one_ (i := 3) (N := some 46) #[true, true, true, true, false] rfl rfl (by kernel_rfl) (by decide) (fun K hK => ?_)
            refine goes_ Try.func30 (by kernel_rfl) rfl #[.agg #[.int .i64 t736, .int .i64 t737, .int .i64 t738, .int .i64 t739, .slice Ao26 t740.length co26], .agg #[.int .i64 t746, .int .i64 t747, .int .i64 t748, .int .i64 t749, .slice Ao39 t750.length co39]] (by rfl) rfl rfl (by (try simp only [List.map_toArray, List.map_cons, List.map_nil]); first | done | rfl | (simp only [List.length_drop, List.length_take]; rfl)) ?_
            with_reducible refine (laws_eqMaker.calls kj12 t736 t737 t738 t739 _ _ t740 t746 t747 t748 t749 _ _ t750 false _ ?side1 ?side2 ?side3 ?side4 A31.out).mono ?_
            (case side1 => repeat (first | exact (Kd.R_reads' HO_744004.out).2.2 | (with_reducible refine Kd.C_alloc ?_ _) | (with_reducible refine Kd.C_drewN ?_ _) | (with_reducible refine Kd.C_drew ?_)))
            (case side2 => exact (Kd.R_reads' HO_744004.out).2.1)
            (case side3 => repeat (first | exact (Kd.R_reads' HO752.out).2.2 | (with_reducible refine Kd.C_alloc ?_ _) | (with_reducible refine Kd.C_drewN ?_ _) | (with_reducible refine Kd.C_drew ?_)))
            (case side4 => exact (Kd.R_reads' HO752.out).2.1)
            rintro e w40 ⟨rfl, hb⟩
            refine ⟨_, rfl, ?_⟩
            have n0_ := Aside0.mk (Kd.R_below (by (with_reducible repeat (first | apply Kd.R_alloc | apply Kd.R_drewN | apply Kd.R_drew)); exact HO_744004.out) hb)
            have n1_ := Aside0.mk (Kd.R_below (by (with_reducible repeat (first | apply Kd.R_alloc | apply Kd.R_drewN | apply Kd.R_drew)); exact HO752.out) hb)
            have n2_ := Aside0.mk (blk_below (g := gb725) (o := .cells #[.int .i64 a0_0, .int .i64 a0_1, .int .i64 a0_2, .int .i64 a0_3, .slice A0_4 l0_4.length c0_4] 48 (0, 0)) (by (with_reducible repeat (first | refine blk_drewN ?_ _ | refine blk_drew ?_ | refine blk_alloc ?_ _)); exact BK725.out) hb)
            have n3_ := Aside0.mk (blk_below (g := gb743) (o := .cells #[.int .i64 t736, .int .i64 t737, .int .i64 t738, .int .i64 t739, .slice Ao26 t740.length co26] 54 (0, 0)) (by (with_reducible repeat (first | refine blk_drewN ?_ _ | refine blk_drew ?_ | refine blk_alloc ?_ _)); exact BK743.out) hb)
            have n4_ := Aside0.mk (below_step (by repeat (first | (with_reducible first | exact HB.out | apply below_alloc | apply pw_below_drewN | apply below_drew1 | refine below_set ?_ GE725.out | refine below_set ?_ GE743.out) | exact HB.out)) hb)
            clear HO_744004
            clear HO752
            clear BK725
            clear BK743
            clear HB
            have HO_744004 := n0_
            have HO752 := n1_
            have BK725 := n2_
            have BK743 := n3_
            have HB := n4_
            clear n0_ n1_ n2_ n3_ n4_
            (try clear hb)
            (try clear hb2)
            (try clear hk)
            (try clear hi)
            refine hK.out _ _ ⟨(blk_cell BK743.out 0).trans rfl, (blk_cell BK743.out 1).trans rfl, (blk_cell BK743.out 2).trans rfl, (blk_cell BK743.out 3).trans rfl, (blk_cell BK743.out 4).trans rfl, (blk_cell BK725.out 0).trans rfl, (blk_cell BK725.out 1).trans rfl, (blk_cell BK725.out 2).trans rfl, (blk_cell BK725.out 3).trans rfl, (blk_cell BK725.out 4).trans rfl⟩ (fun hHeld => ?_)
            clear hK K
            refine norm_ (a' := ?_) ?_ ?_
            rotate_left
            · show Act.put _ (some 46) _ = _
              simp only [Act.put, List.setIfInBounds_toArray, List.set_cons_zero, List.set_cons_succ, i64_w, i32_w]
              rfl
            refine pure_ (i := 4) (N := some 47) (v := ?_) (a' := ?_) #[true, true, true, true, true] rfl rfl (by kernel_rfl) (fun _ _ _ h => h) (Or.inl ⟨by rfl, ?_⟩) ?_ ?_
            rotate_left
            · intro w'
              go_simp
              with_reducible rfl
            rotate_left
            · simp only [Act.put, List.setIfInBounds_toArray, List.set_cons_zero, List.set_cons_succ, i64_w, i32_w]
              rfl
            refine done_ (by kernel_rfl) ?_
            try go_wp2
            go_ret
            exact ⟨by first | rfl | (simp [errW_none, errW_some] <;> rfl) | (simp [*, errW_none, errW_some] <;> rfl), by repeat (first | (with_reducible first | exact HB.out | apply below_alloc | apply pw_below_drewN | apply below_drew1 | refine below_set ?_ GE725.out | refine below_set ?_ GE743.out) | exact HB.out)⟩

end Go.Proofs.Ytgkeapbeogmfjaa.Q
