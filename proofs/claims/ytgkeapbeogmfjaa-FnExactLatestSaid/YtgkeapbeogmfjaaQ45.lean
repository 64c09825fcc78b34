/- Made by a program of ours out of the print of the loaded functions: for each of some functions a plain function, and the walk that shows that a call comes to what it says. No condition but those of each theorem. -/
import Derived.Test.YtgkeapbeogmfjaaQ0
import Derived.Test.YtgkeapbeogmfjaaQ25
import Derived.Test.YtgkeapbeogmfjaaQ26
import Derived.Test.YtgkeapbeogmfjaaQ27
import Derived.Test.YtgkeapbeogmfjaaQ28
import Derived.Test.YtgkeapbeogmfjaaQ43
import Derived.Test.YtgkeapbeogmfjaaQ44
namespace Go.Proofs.Ytgkeapbeogmfjaa.Q
open Go.RowKit Go.Proofs.YtgkeapbeogmfjaaW.PrintWords Go.Proofs.YtgkeapbeogmfjaaW.PrintLast Go.Proofs.YtgkeapbeogmfjaaW.PrintMore
attribute [local go_sem] max2_int min2_int max_two min_two max_three min_three max_four min_four   -- for this text's walks alone
set_option linter.unusedVariables false
set_option linter.unusedSimpArgs false

/-! ### laws_FnExactRowGet: function 6 -/
def laws_FnExactRowGet.j0 : Nat → Bool → Int → Int → List (S_LItem) → Int → Int → List (S_Item) → Option (Bool)
  | 0, _, _, _, _, _, _, _ => none
  | k + 1, x39, x919000, x919001, x919002, x938000, x938001, x938002 => if x39 = true then (some false) else ((laws_toRow.f k x919000 x919001 x919002).bind fun bt946 => ((laws_eqRow.f k x938000 x938001 x938002 bt946.1 bt946.2.1 bt946.2.2).bind fun t951 => (if t951 = true then (some true) else (some false))))
def laws_FnExactRowGet.f (k : Nat) (a0_0 : Int) (a0_1 : Int) (l0_2 : List (S_LItem)) (a1 : Int) : Option (Bool) := (laws_szRow.f k a0_0 a0_1 l0_2 1048576).bind fun t919 => (if t919 < 0 then (some true) else ((laws_toRow.f k a0_0 a0_1 l0_2).bind fun bt920 => ((spec_RowGet.f k bt920.1 bt920.2.1 bt920.2.2 a1).bind fun bt925 => ((laws_toRow.f k a0_0 a0_1 l0_2).bind fun bt932 => ((impl_RowGet.f k bt932.1 bt932.2.1 bt932.2.2 a1).bind fun bt938 => ((laws_eqItem.f bt938.1 bt938.2.1 bt938.2.2.1 bt938.2.2.2.1 bt938.2.2.2.2.1 bt925.1 bt925.2.1 bt925.2.2.1 bt925.2.2.2.1 bt925.2.2.2.2.1).bind fun t945 => (if t945 = true then (laws_FnExactRowGet.j0 k (bt938.2.2.2.2.2 != bt925.2.2.2.2.2) a0_0 a0_1 l0_2 bt932.1 bt932.2.1 bt932.2.2) else (laws_FnExactRowGet.j0 k true a0_0 a0_1 l0_2 bt932.1 bt932.2.1 bt932.2.2))))))))
theorem laws_FnExactRowGet.mono_l : ∀ k, (∀ y0 y1 y2 y3 y4 y5 y6, LeO (laws_FnExactRowGet.j0 k y0 y1 y2 y3 y4 y5 y6) (laws_FnExactRowGet.j0 (k + 1) y0 y1 y2 y3 y4 y5 y6))
  | 0 => fun _ _ _ _ _ _ _ r h => by simp [laws_FnExactRowGet.j0] at h
  | k + 1 => by
    have ih0 := laws_FnExactRowGet.mono_l k
    · intro y0 y1 y2 y3 y4 y5 y6
      unfold laws_FnExactRowGet.j0
      repeat' first
      | (with_reducible exact ih0 _ _ _ _ _ _ _)
      | (with_reducible exact impl_RowGet.mono _ _ _ _ _)
      | (with_reducible exact laws_eqRow.mono _ _ _ _ _ _ _)
      | (with_reducible exact laws_szRow.mono _ _ _ _ _)
      | (with_reducible exact laws_toRow.mono _ _ _ _)
      | (with_reducible exact spec_RowGet.mono _ _ _ _ _)
      | (with_reducible exact LeO.refl _)
      | (with_reducible exact LeO.none _)
      | (with_reducible refine LeO.ite ?_ ?_)
      | (with_reducible refine LeO.bind ?_ (fun _ => ?_))
      | exact ih0 _ _ _ _ _ _ _
      | exact impl_RowGet.mono _ _ _ _ _
      | exact laws_eqRow.mono _ _ _ _ _ _ _
      | exact laws_szRow.mono _ _ _ _ _
      | exact laws_toRow.mono _ _ _ _
      | exact spec_RowGet.mono _ _ _ _ _
      | exact LeO.none _
      | refine LeO.ite ?_ ?_
      | refine LeO.bind ?_ (fun _ => ?_)
theorem laws_FnExactRowGet.mono : ∀ a0 a1 a2 a3 k, LeO (laws_FnExactRowGet.f k a0 a1 a2 a3) (laws_FnExactRowGet.f (k + 1) a0 a1 a2 a3) := by
  intro a0 a1 a2 a3 k
  have ih0 := laws_FnExactRowGet.mono_l k
  unfold laws_FnExactRowGet.f
  repeat' first
      | (with_reducible exact ih0 _ _ _ _ _ _ _)
      | (with_reducible exact impl_RowGet.mono _ _ _ _ _)
      | (with_reducible exact laws_eqRow.mono _ _ _ _ _ _ _)
      | (with_reducible exact laws_szRow.mono _ _ _ _ _)
      | (with_reducible exact laws_toRow.mono _ _ _ _)
      | (with_reducible exact spec_RowGet.mono _ _ _ _ _)
      | (with_reducible exact LeO.refl _)
      | (with_reducible exact LeO.none _)
      | (with_reducible refine LeO.ite ?_ ?_)
      | (with_reducible refine LeO.bind ?_ (fun _ => ?_))
      | exact ih0 _ _ _ _ _ _ _
      | exact impl_RowGet.mono _ _ _ _ _
      | exact laws_eqRow.mono _ _ _ _ _ _ _
      | exact laws_szRow.mono _ _ _ _ _
      | exact laws_toRow.mono _ _ _ _
      | exact spec_RowGet.mono _ _ _ _ _
      | exact LeO.none _
      | refine LeO.ite ?_ ?_
      | refine LeO.bind ?_ (fun _ => ?_)
set_option maxHeartbeats 8000000 in
set_option maxRecDepth 100000 in
theorem laws_FnExactRowGet.calls (k : Nat) (a0_0 : Int) (a0_1 : Int) (A0_2 : Option Addr) (c0_2 : Nat) (l0_2 : List (S_LItem)) (a1 : Int) (r : Bool) (w : World) (hr0_2 : Kd.C k_LItem w A0_2 l0_2.length l0_2) (hc0_2 : l0_2.length ≤ c0_2) (h : laws_FnExactRowGet.f k a0_0 a0_1 l0_2 a1 = some r) :
    Calls Try.prog 6 #[.agg #[.int .i64 a0_0, .int .i64 a0_1, .slice A0_2 l0_2.length c0_2], .int .i64 a1] w fun e w' => e = .returned (.bool r) ∧ Below w.heap.size w w' := by
  have hu33 := Try.underlying33
  have hu36 := Try.underlying36
  have hu41 := Try.underlying41
  have HR0_2 := Aside0.mk hr0_2
  have HC0_2 := Aside0.mk hc0_2
  clear hr0_2 hc0_2
  have HB := Aside0.mk (Below.refl w.heap.size w)
  have H : ((laws_szRow.f k a0_0 a0_1 l0_2 1048576).bind fun t919 => (if t919 < 0 then (some true) else ((laws_toRow.f k a0_0 a0_1 l0_2).bind fun bt920 => ((spec_RowGet.f k bt920.1 bt920.2.1 bt920.2.2 a1).bind fun bt925 => ((laws_toRow.f k a0_0 a0_1 l0_2).bind fun bt932 => ((impl_RowGet.f k bt932.1 bt932.2.1 bt932.2.2 a1).bind fun bt938 => ((laws_eqItem.f bt938.1 bt938.2.1 bt938.2.2.1 bt938.2.2.2.1 bt938.2.2.2.2.1 bt925.1 bt925.2.1 bt925.2.2.1 bt925.2.2.2.1 bt925.2.2.2.2.1).bind fun t945 => (if t945 = true then (laws_FnExactRowGet.j0 k (bt938.2.2.2.2.2 != bt925.2.2.2.2.2) a0_0 a0_1 l0_2 bt932.1 bt932.2.1 bt932.2.2) else (laws_FnExactRowGet.j0 k true a0_0 a0_1 l0_2 bt932.1 bt932.2.1 bt932.2.2))))))))) = some r := h
  clear h
  replace H := Option.bind_eq_some_iff.mp H
  obtain ⟨t919, A30, H⟩ := H
  replace H : (if t919 < 0 then (some true) else ((laws_toRow.f k a0_0 a0_1 l0_2).bind fun bt920 => ((spec_RowGet.f k bt920.1 bt920.2.1 bt920.2.2 a1).bind fun bt925 => ((laws_toRow.f k a0_0 a0_1 l0_2).bind fun bt932 => ((impl_RowGet.f k bt932.1 bt932.2.1 bt932.2.2 a1).bind fun bt938 => ((laws_eqItem.f bt938.1 bt938.2.1 bt938.2.2.1 bt938.2.2.2.1 bt938.2.2.2.2.1 bt925.1 bt925.2.1 bt925.2.2.1 bt925.2.2.2.1 bt925.2.2.2.2.1).bind fun t945 => (if t945 = true then (laws_FnExactRowGet.j0 k (bt938.2.2.2.2.2 != bt925.2.2.2.2.2) a0_0 a0_1 l0_2 bt932.1 bt932.2.1 bt932.2.2) else (laws_FnExactRowGet.j0 k true a0_0 a0_1 l0_2 bt932.1 bt932.2.1 bt932.2.2)))))))) = some r := H
  have A3 := Aside0.mk A30
  clear A30
  by_cases c4 : t919 < 0
  · rw [if_pos c4] at H
    have c4b0 : decide (t919 < 0) = true := decide_eq_true c4
    clear c4
    obtain rfl := Option.some.inj H
    go_enter Try.func6, Try.ntmps6
    go_wp2_with (first | ((with_reducible refine gate_dst (N := 2) rfl ?_); refine box_event ?hg (N := 2) ?hd (cs := #[.int .i64 a0_0, .int .i64 a0_1, .slice A0_2 l0_2.length c0_2]) (t := 33) ?hr ?_; (case hd => rfl); (case hg => rfl); (case hr => first | (go_simp; done) | (go_simp; rfl)); intro gb918 hg w5 hbox hb; have n0_ := Aside0.mk (below_step (by repeat (first | (with_reducible first | exact HB.out | apply below_alloc | apply pw_below_drewN | apply below_drew1) | exact HB.out)) hb); have n1_ := Aside0.mk (hbox); have n2_ := Aside0.mk ((by rw [hg]; exact (below_size (by repeat (first | (with_reducible first | exact HB.out | apply below_alloc | apply pw_below_drewN | apply below_drew1) | exact HB.out))) : w.heap.size ≤ gb918)); have n3_ := Aside0.mk ((by rw [hg]; exact (below_size (by repeat (first | (with_reducible first | exact HB.out | apply below_alloc | apply pw_below_drewN | apply below_drew1) | exact HB.out))) : w.heap.size ≤ gb918)); clear HB; have HB := n0_; have BK918 := n1_; have GW918 := n2_; have GE918 := n3_; clear n0_ n1_ n2_ n3_; clear hb hbox hg; have hcz6_0 : w5.cell? ⟨gb918, 0, none⟩ = some (.int .i64 a0_0) := (blk_cell BK918.out 0).trans rfl; have hcz6_1 : w5.cell? ⟨gb918, 1, none⟩ = some (.int .i64 a0_1) := (blk_cell BK918.out 1).trans rfl; have hcz6_2 : w5.cell? ⟨gb918, 2, none⟩ = some (.slice A0_2 l0_2.length c0_2) := (blk_cell BK918.out 2).trans rfl; have hfz6_0 := blk_frozen BK918.out 0; have hfz6_1 := blk_frozen BK918.out 1; have hfz6_2 := blk_frozen BK918.out 2) | ((with_reducible refine gate_callee (f := 20) rfl ?_); refine goesL_ (some 13) rfl rfl Try.func20 (by kernel_rfl) rfl #[.agg #[.int .i64 a0_0, .int .i64 a0_1, .slice A0_2 l0_2.length c0_2], .int .i64 1048576] rfl (by (try simp only [List.map_toArray, List.map_cons, List.map_nil]); first | done | rfl | (simp only [List.length_drop, List.length_take]; rfl)) ?_; (with_reducible refine (laws_szRow.calls k a0_0 a0_1 _ _ l0_2 1048576 t919 _ ?side1 ?side2 A3.out).mono ?_); (case side1 => repeat (first | exact (Kd.C_below HR0_2.out HB.out) | (with_reducible refine Kd.C_alloc ?_ _) | (with_reducible refine Kd.C_drewN ?_ _) | (with_reducible refine Kd.C_drew ?_))); (case side2 => exact HC0_2.out); rintro e w7 ⟨rfl, hb⟩; refine ⟨_, rfl, ?_⟩; have n0_ := Aside0.mk (blk_below (g := gb918) (o := .cells #[.int .i64 a0_0, .int .i64 a0_1, .slice A0_2 l0_2.length c0_2] 33 (0, 0)) (by (with_reducible repeat (first | refine blk_drewN ?_ _ | refine blk_drew ?_ | refine blk_alloc ?_ _)); exact BK918.out) hb); have n1_ := Aside0.mk (below_step (by repeat (first | (with_reducible first | exact HB.out | apply below_alloc | apply pw_below_drewN | apply below_drew1 | refine below_set ?_ GE918.out) | exact HB.out)) hb); clear BK918; clear HB; have BK918 := n0_; have HB := n1_; clear n0_ n1_; (try clear hb); (try clear hb2); (try clear hk); (try clear hi)))
    go_ret
    exact ⟨by first | rfl | (simp [errW_none, errW_some] <;> rfl) | (simp [*, errW_none, errW_some] <;> rfl), by repeat (first | (with_reducible first | exact HB.out | apply below_alloc | apply pw_below_drewN | apply below_drew1 | refine below_set ?_ GE918.out) | exact HB.out)⟩
  · rw [if_neg c4] at H
    have c4b0 : decide (t919 < 0) = false := decide_eq_false c4
    clear c4
    replace H := Option.bind_eq_some_iff.mp H
    obtain ⟨⟨t920, t921, t922⟩, A80, H⟩ := H
    replace H : ((spec_RowGet.f k t920 t921 t922 a1).bind fun bt925 => ((laws_toRow.f k a0_0 a0_1 l0_2).bind fun bt932 => ((impl_RowGet.f k bt932.1 bt932.2.1 bt932.2.2 a1).bind fun bt938 => ((laws_eqItem.f bt938.1 bt938.2.1 bt938.2.2.1 bt938.2.2.2.1 bt938.2.2.2.2.1 bt925.1 bt925.2.1 bt925.2.2.1 bt925.2.2.2.1 bt925.2.2.2.2.1).bind fun t945 => (if t945 = true then (laws_FnExactRowGet.j0 k (bt938.2.2.2.2.2 != bt925.2.2.2.2.2) a0_0 a0_1 l0_2 bt932.1 bt932.2.1 bt932.2.2) else (laws_FnExactRowGet.j0 k true a0_0 a0_1 l0_2 bt932.1 bt932.2.1 bt932.2.2)))))) = some r := H
    have A8 := Aside0.mk A80
    clear A80
    replace H := Option.bind_eq_some_iff.mp H
    obtain ⟨⟨t925, t926, t927, t928, t929, t930⟩, A90, H⟩ := H
    replace H : ((laws_toRow.f k a0_0 a0_1 l0_2).bind fun bt932 => ((impl_RowGet.f k bt932.1 bt932.2.1 bt932.2.2 a1).bind fun bt938 => ((laws_eqItem.f bt938.1 bt938.2.1 bt938.2.2.1 bt938.2.2.2.1 bt938.2.2.2.2.1 t925 t926 t927 t928 t929).bind fun t945 => (if t945 = true then (laws_FnExactRowGet.j0 k (bt938.2.2.2.2.2 != t930) a0_0 a0_1 l0_2 bt932.1 bt932.2.1 bt932.2.2) else (laws_FnExactRowGet.j0 k true a0_0 a0_1 l0_2 bt932.1 bt932.2.1 bt932.2.2))))) = some r := H
    have A9 := Aside0.mk A90
    clear A90
    replace H := Option.bind_eq_some_iff.mp H
    obtain ⟨⟨t932, t933, t934⟩, A100, H⟩ := H
    replace H : ((impl_RowGet.f k t932 t933 t934 a1).bind fun bt938 => ((laws_eqItem.f bt938.1 bt938.2.1 bt938.2.2.1 bt938.2.2.2.1 bt938.2.2.2.2.1 t925 t926 t927 t928 t929).bind fun t945 => (if t945 = true then (laws_FnExactRowGet.j0 k (bt938.2.2.2.2.2 != t930) a0_0 a0_1 l0_2 t932 t933 t934) else (laws_FnExactRowGet.j0 k true a0_0 a0_1 l0_2 t932 t933 t934)))) = some r := H
    have A10 := Aside0.mk A100
    clear A100
    replace H := Option.bind_eq_some_iff.mp H
    obtain ⟨⟨t938, t939, t940, t941, t942, t943⟩, A110, H⟩ := H
    replace H : ((laws_eqItem.f t938 t939 t940 t941 t942 t925 t926 t927 t928 t929).bind fun t945 => (if t945 = true then (laws_FnExactRowGet.j0 k (t943 != t930) a0_0 a0_1 l0_2 t932 t933 t934) else (laws_FnExactRowGet.j0 k true a0_0 a0_1 l0_2 t932 t933 t934))) = some r := H
    have A11 := Aside0.mk A110
    clear A110
    have HC12 := Aside0.mk H
    clear H
    go_enter Try.func6, Try.ntmps6
    go_upto_region 8 with (first | ((with_reducible refine gate_dst (N := 2) rfl ?_); refine box_event ?hg (N := 2) ?hd (cs := #[.int .i64 a0_0, .int .i64 a0_1, .slice A0_2 l0_2.length c0_2]) (t := 33) ?hr ?_; (case hd => rfl); (case hg => rfl); (case hr => first | (go_simp; done) | (go_simp; rfl)); intro gb918 hg w13 hbox hb; have n0_ := Aside0.mk (below_step (by repeat (first | (with_reducible first | exact HB.out | apply below_alloc | apply pw_below_drewN | apply below_drew1) | exact HB.out)) hb); have n1_ := Aside0.mk (hbox); have n2_ := Aside0.mk ((by rw [hg]; exact (below_size (by repeat (first | (with_reducible first | exact HB.out | apply below_alloc | apply pw_below_drewN | apply below_drew1) | exact HB.out))) : w.heap.size ≤ gb918)); have n3_ := Aside0.mk ((by rw [hg]; exact (below_size (by repeat (first | (with_reducible first | exact HB.out | apply below_alloc | apply pw_below_drewN | apply below_drew1) | exact HB.out))) : w.heap.size ≤ gb918)); clear HB; have HB := n0_; have BK918 := n1_; have GW918 := n2_; have GE918 := n3_; clear n0_ n1_ n2_ n3_; clear hb hbox hg; have hcz14_0 : w13.cell? ⟨gb918, 0, none⟩ = some (.int .i64 a0_0) := (blk_cell BK918.out 0).trans rfl; have hcz14_1 : w13.cell? ⟨gb918, 1, none⟩ = some (.int .i64 a0_1) := (blk_cell BK918.out 1).trans rfl; have hcz14_2 : w13.cell? ⟨gb918, 2, none⟩ = some (.slice A0_2 l0_2.length c0_2) := (blk_cell BK918.out 2).trans rfl; have hfz14_0 := blk_frozen BK918.out 0; have hfz14_1 := blk_frozen BK918.out 1; have hfz14_2 := blk_frozen BK918.out 2) | ((with_reducible refine gate_callee (f := 20) rfl ?_); refine goesL_ (some 13) rfl rfl Try.func20 (by kernel_rfl) rfl #[.agg #[.int .i64 a0_0, .int .i64 a0_1, .slice A0_2 l0_2.length c0_2], .int .i64 1048576] rfl (by (try simp only [List.map_toArray, List.map_cons, List.map_nil]); first | done | rfl | (simp only [List.length_drop, List.length_take]; rfl)) ?_; (with_reducible refine (laws_szRow.calls k a0_0 a0_1 _ _ l0_2 1048576 t919 _ ?side1 ?side2 A3.out).mono ?_); (case side1 => repeat (first | exact (Kd.C_below HR0_2.out HB.out) | (with_reducible refine Kd.C_alloc ?_ _) | (with_reducible refine Kd.C_drewN ?_ _) | (with_reducible refine Kd.C_drew ?_))); (case side2 => exact HC0_2.out); rintro e w15 ⟨rfl, hb⟩; refine ⟨_, rfl, ?_⟩; have n0_ := Aside0.mk (blk_below (g := gb918) (o := .cells #[.int .i64 a0_0, .int .i64 a0_1, .slice A0_2 l0_2.length c0_2] 33 (0, 0)) (by (with_reducible repeat (first | refine blk_drewN ?_ _ | refine blk_drew ?_ | refine blk_alloc ?_ _)); exact BK918.out) hb); have n1_ := Aside0.mk (below_step (by repeat (first | (with_reducible first | exact HB.out | apply below_alloc | apply pw_below_drewN | apply below_drew1 | refine below_set ?_ GE918.out) | exact HB.out)) hb); clear BK918; clear HB; have BK918 := n0_; have HB := n1_; clear n0_ n1_; (try clear hb); (try clear hb2); (try clear hk); (try clear hi); have hcz16_0 : w15.cell? ⟨gb918, 0, none⟩ = some (.int .i64 a0_0) := (blk_cell BK918.out 0).trans rfl; have hcz16_1 : w15.cell? ⟨gb918, 1, none⟩ = some (.int .i64 a0_1) := (blk_cell BK918.out 1).trans rfl; have hcz16_2 : w15.cell? ⟨gb918, 2, none⟩ = some (.slice A0_2 l0_2.length c0_2) := (blk_cell BK918.out 2).trans rfl; have hfz16_0 := blk_frozen BK918.out 0; have hfz16_1 := blk_frozen BK918.out 1; have hfz16_2 := blk_frozen BK918.out 2) | ((with_reducible refine gate_callee (f := 22) rfl ?_); refine goesL_ (some 18) rfl rfl Try.func22 (by kernel_rfl) rfl #[.agg #[.int .i64 a0_0, .int .i64 a0_1, .slice A0_2 l0_2.length c0_2]] rfl (by (try simp only [List.map_toArray, List.map_cons, List.map_nil]); first | done | rfl | (simp only [List.length_drop, List.length_take]; rfl)) ?_; (with_reducible refine (laws_toRow.calls k a0_0 a0_1 _ _ l0_2 t920 t921 t922 _ ?side1 ?side2 A8.out).mono ?_); (case side1 => repeat (first | exact (Kd.C_below HR0_2.out HB.out) | (with_reducible refine Kd.C_alloc ?_ _) | (with_reducible refine Kd.C_drewN ?_ _) | (with_reducible refine Kd.C_drew ?_))); (case side2 => exact HC0_2.out); rintro e w17 ⟨v923, rfl, ho0, hb⟩; refine ⟨_, rfl, ?_⟩; have n0_ := Aside0.mk (Kd.R_lower ho0 (below_size (by repeat (first | (with_reducible first | exact HB.out | apply below_alloc | apply pw_below_drewN | apply below_drew1 | refine below_set ?_ GE918.out) | exact HB.out)))); have n1_ := Aside0.mk (blk_below (g := gb918) (o := .cells #[.int .i64 a0_0, .int .i64 a0_1, .slice A0_2 l0_2.length c0_2] 33 (0, 0)) (by (with_reducible repeat (first | refine blk_drewN ?_ _ | refine blk_drew ?_ | refine blk_alloc ?_ _)); exact BK918.out) hb); have n2_ := Aside0.mk (below_step (by repeat (first | (with_reducible first | exact HB.out | apply below_alloc | apply pw_below_drewN | apply below_drew1 | refine below_set ?_ GE918.out) | exact HB.out)) hb); clear BK918; clear HB; have HO924 := n0_; have BK918 := n1_; have HB := n2_; clear n0_ n1_ n2_; (try clear hb); (try clear hb2); (try clear hk); (try clear hi); (try clear ho0); obtain ⟨Ao18, co18, eo18⟩ := Kd.R_slice HO924.out; subst eo18) | ((with_reducible refine gate_callee (f := 31) rfl ?_); refine goesL_ (some 20) rfl rfl Try.func31 (by kernel_rfl) rfl #[.agg #[.int .i64 t920, .int .i64 t921, .slice Ao18 t922.length co18], .int .i64 a1] rfl (by (try simp only [List.map_toArray, List.map_cons, List.map_nil]); first | done | rfl | (simp only [List.length_drop, List.length_take]; rfl)) ?_; (with_reducible refine (spec_RowGet.calls k t920 t921 _ _ t922 a1 t925 t926 t927 t928 t929 t930 _ ?side1 ?side2 A9.out).mono ?_); (case side1 => repeat (first | exact (Kd.R_reads' HO924.out).2.2 | (with_reducible refine Kd.C_alloc ?_ _) | (with_reducible refine Kd.C_drewN ?_ _) | (with_reducible refine Kd.C_drew ?_))); (case side2 => exact (Kd.R_reads' HO924.out).2.1); rintro e w19 ⟨rfl, hb⟩; refine ⟨_, rfl, ?_⟩; have n0_ := Aside0.mk (Kd.R_below (by (with_reducible repeat (first | apply Kd.R_alloc | apply Kd.R_drewN | apply Kd.R_drew)); exact HO924.out) hb); have n1_ := Aside0.mk (blk_below (g := gb918) (o := .cells #[.int .i64 a0_0, .int .i64 a0_1, .slice A0_2 l0_2.length c0_2] 33 (0, 0)) (by (with_reducible repeat (first | refine blk_drewN ?_ _ | refine blk_drew ?_ | refine blk_alloc ?_ _)); exact BK918.out) hb); have n2_ := Aside0.mk (below_step (by repeat (first | (with_reducible first | exact HB.out | apply below_alloc | apply pw_below_drewN | apply below_drew1 | refine below_set ?_ GE918.out) | exact HB.out)) hb); clear HO924; clear BK918; clear HB; have HO924 := n0_; have BK918 := n1_; have HB := n2_; clear n0_ n1_ n2_; (try clear hb); (try clear hb2); (try clear hk); (try clear hi)) | ((with_reducible refine gate_dst (N := 6) rfl ?_); refine box_event ?hg (N := 6) ?hd (cs := #[.int .i64 0, .string (⟨#[]⟩ : ByteArray), .string (⟨#[]⟩ : ByteArray), .int .i64 0, .int .i64 0]) (t := 36) ?hr ?_; (case hd => rfl); (case hg => rfl); (case hr => first | (go_simp; done) | (go_simp; rfl)); intro gb931 hg w20 hbox hb; have n0_ := Aside0.mk (Kd.R_below (Kd.R_elderB (by (with_reducible repeat (first | apply Kd.R_alloc | apply Kd.R_drewN | apply Kd.R_drew)); exact HO924.out) gb931 (Nat.le_of_eq hg.symm)) hb); have n1_ := Aside0.mk (blk_below (g := gb918) (o := .cells #[.int .i64 a0_0, .int .i64 a0_1, .slice A0_2 l0_2.length c0_2] 33 (0, 0)) (by (with_reducible repeat (first | refine blk_drewN ?_ _ | refine blk_drew ?_ | refine blk_alloc ?_ _)); exact BK918.out) hb); have n2_ := Aside0.mk (below_step (by repeat (first | (with_reducible first | exact HB.out | apply below_alloc | apply pw_below_drewN | apply below_drew1 | refine below_set ?_ GE918.out) | exact HB.out)) hb); have n3_ := Aside0.mk (hbox); have n4_ := Aside0.mk ((by rw [hg]; exact (below_size (by repeat (first | (with_reducible first | exact HB.out | apply below_alloc | apply pw_below_drewN | apply below_drew1 | refine below_set ?_ GE918.out) | exact HB.out))) : w.heap.size ≤ gb931)); have n5_ := Aside0.mk ((by rw [hg]; exact (below_size (by repeat (first | (with_reducible first | exact HB.out | apply below_alloc | apply pw_below_drewN | apply below_drew1 | refine below_set ?_ GE918.out) | exact HB.out))) : w.heap.size ≤ gb931)); have n6_ := Aside0.mk ((by rw [hg]; exact Nat.ne_of_lt (blk_lt (g := gb918) (o := .cells #[.int .i64 a0_0, .int .i64 a0_1, .slice A0_2 l0_2.length c0_2] 33 (0, 0)) (by (with_reducible repeat (first | refine blk_drewN ?_ _ | refine blk_drew ?_ | refine blk_alloc ?_ _)); exact BK918.out)) : gb918 ≠ gb931)); have n7_ := Aside0.mk ((by rw [hg]; exact Nat.ne_of_gt (blk_lt (g := gb918) (o := .cells #[.int .i64 a0_0, .int .i64 a0_1, .slice A0_2 l0_2.length c0_2] 33 (0, 0)) (by (with_reducible repeat (first | refine blk_drewN ?_ _ | refine blk_drew ?_ | refine blk_alloc ?_ _)); exact BK918.out)) : gb931 ≠ gb918)); clear HO924; clear BK918; clear HB; have HO924 := n0_; have BK918 := n1_; have HB := n2_; have BK931 := n3_; have GW931 := n4_; have GE931 := n5_; have NB918_931 := n6_; have NB931_918 := n7_; clear n0_ n1_ n2_ n3_ n4_ n5_ n6_ n7_; clear hb hbox hg; have hnb21 := NB931_918.out; have hnc21 := NB918_931.out; have hcz22_0 : w20.cell? ⟨gb931, 0, none⟩ = some (.int .i64 0) := (blk_cell BK931.out 0).trans rfl; have hcz22_1 : w20.cell? ⟨gb931, 1, none⟩ = some (.string (⟨#[]⟩ : ByteArray)) := (blk_cell BK931.out 1).trans rfl; have hcz22_2 : w20.cell? ⟨gb931, 2, none⟩ = some (.string (⟨#[]⟩ : ByteArray)) := (blk_cell BK931.out 2).trans rfl; have hcz22_3 : w20.cell? ⟨gb931, 3, none⟩ = some (.int .i64 0) := (blk_cell BK931.out 3).trans rfl; have hcz22_4 : w20.cell? ⟨gb931, 4, none⟩ = some (.int .i64 0) := (blk_cell BK931.out 4).trans rfl; have hfz22_0 := blk_frozen BK931.out 0; have hfz22_1 := blk_frozen BK931.out 1; have hfz22_2 := blk_frozen BK931.out 2; have hfz22_3 := blk_frozen BK931.out 3; have hfz22_4 := blk_frozen BK931.out 4; have hcz23_0 : w20.cell? ⟨gb918, 0, none⟩ = some (.int .i64 a0_0) := (blk_cell BK918.out 0).trans rfl; have hcz23_1 : w20.cell? ⟨gb918, 1, none⟩ = some (.int .i64 a0_1) := (blk_cell BK918.out 1).trans rfl; have hcz23_2 : w20.cell? ⟨gb918, 2, none⟩ = some (.slice A0_2 l0_2.length c0_2) := (blk_cell BK918.out 2).trans rfl; have hfz23_0 := blk_frozen BK918.out 0; have hfz23_1 := blk_frozen BK918.out 1; have hfz23_2 := blk_frozen BK918.out 2) | ((with_reducible refine gate_callee (f := 22) rfl ?_); refine goesL_ (some 24) rfl rfl Try.func22 (by kernel_rfl) rfl #[.agg #[.int .i64 a0_0, .int .i64 a0_1, .slice A0_2 l0_2.length c0_2]] rfl (by (try simp only [List.map_toArray, List.map_cons, List.map_nil]); first | done | rfl | (simp only [List.length_drop, List.length_take]; rfl)) ?_; (with_reducible refine (laws_toRow.calls k a0_0 a0_1 _ _ l0_2 t932 t933 t934 _ ?side1 ?side2 A10.out).mono ?_); (case side1 => exact Kd.C_below HR0_2.out (by repeat (first | (with_reducible first | exact HB.out | apply below_alloc | apply pw_below_drewN | apply below_drew1 | refine below_set ?_ GE918.out | refine below_set ?_ GE931.out) | exact HB.out))); (case side2 => exact HC0_2.out); rintro e w24 ⟨v935, rfl, ho0, hb⟩; refine ⟨_, rfl, ?_⟩; have n0_ := Aside0.mk (Kd.R_elder' (by (with_reducible repeat (first | apply Kd.R_alloc | apply Kd.R_drewN | apply Kd.R_drew)); exact (Kd.R_mono (Kd.R_far (p := ⟨gb931, 4, none⟩) (Kd.R_far (p := ⟨gb931, 3, none⟩) (Kd.R_far (p := ⟨gb931, 2, none⟩) (Kd.R_far (p := ⟨gb931, 1, none⟩) (Kd.R_far (p := ⟨gb931, 0, none⟩) (Kd.R_mono HO924.out (fun k_ hk => (⟨hk, hk.2⟩ : _ ∧ k_ ≠ gb931))) (fun _ hk => hk.2) (.int .i64 t925)) (fun _ hk => hk.2) (.string t926)) (fun _ hk => hk.2) (.string t927)) (fun _ hk => hk.2) (.int .i64 t928)) (fun _ hk => hk.2) (.int .i64 t929)) (fun _ h_ => h_.1))) (Kd.R_base ho0) hb); have n1_ := Aside0.mk (Kd.R_lower (Kd.R_newB (Kd.R_new' ho0 (Kd.R_lt (by (with_reducible repeat (first | apply Kd.R_alloc | apply Kd.R_drewN | apply Kd.R_drew)); exact (Kd.R_mono (Kd.R_far (p := ⟨gb931, 4, none⟩) (Kd.R_far (p := ⟨gb931, 3, none⟩) (Kd.R_far (p := ⟨gb931, 2, none⟩) (Kd.R_far (p := ⟨gb931, 1, none⟩) (Kd.R_far (p := ⟨gb931, 0, none⟩) (Kd.R_mono HO924.out (fun k_ hk => (⟨hk, hk.2⟩ : _ ∧ k_ ≠ gb931))) (fun _ hk => hk.2) (.int .i64 t925)) (fun _ hk => hk.2) (.string t926)) (fun _ hk => hk.2) (.string t927)) (fun _ hk => hk.2) (.int .i64 t928)) (fun _ hk => hk.2) (.int .i64 t929)) (fun _ h_ => h_.1))))) (g := gb931) (o := .cells #[.int .i64 t925, .string t926, .string t927, .int .i64 t928, .int .i64 t929] 36 (0, 0)) (by (with_reducible repeat (first | refine blk_drewN ?_ _ | refine blk_drew ?_ | refine blk_alloc ?_ _)); refine blk_put (cs := #[.int .i64 t925, .string t926, .string t927, .int .i64 t928, .int .i64 0]) ?_ 4 _ rfl; (with_reducible repeat (first | refine blk_drewN ?_ _ | refine blk_drew ?_ | refine blk_alloc ?_ _)); refine blk_put (cs := #[.int .i64 t925, .string t926, .string t927, .int .i64 0, .int .i64 0]) ?_ 3 _ rfl; (with_reducible repeat (first | refine blk_drewN ?_ _ | refine blk_drew ?_ | refine blk_alloc ?_ _)); refine blk_put (cs := #[.int .i64 t925, .string t926, .string (⟨#[]⟩ : ByteArray), .int .i64 0, .int .i64 0]) ?_ 2 _ rfl; (with_reducible repeat (first | refine blk_drewN ?_ _ | refine blk_drew ?_ | refine blk_alloc ?_ _)); refine blk_put (cs := #[.int .i64 t925, .string (⟨#[]⟩ : ByteArray), .string (⟨#[]⟩ : ByteArray), .int .i64 0, .int .i64 0]) ?_ 1 _ rfl; (with_reducible repeat (first | refine blk_drewN ?_ _ | refine blk_drew ?_ | refine blk_alloc ?_ _)); refine blk_put (cs := #[.int .i64 0, .string (⟨#[]⟩ : ByteArray), .string (⟨#[]⟩ : ByteArray), .int .i64 0, .int .i64 0]) ?_ 0 _ rfl; (with_reducible repeat (first | refine blk_drewN ?_ _ | refine blk_drew ?_ | refine blk_alloc ?_ _)); exact BK931.out)) (below_size (by repeat (first | (with_reducible first | exact HB.out | apply below_alloc | apply pw_below_drewN | apply below_drew1 | refine below_set ?_ GE918.out | refine below_set ?_ GE931.out) | exact HB.out)))); have n2_ := Aside0.mk (blk_below (g := gb918) (o := .cells #[.int .i64 a0_0, .int .i64 a0_1, .slice A0_2 l0_2.length c0_2] 33 (0, 0)) (by (with_reducible repeat (first | refine blk_drewN ?_ _ | refine blk_drew ?_ | refine blk_alloc ?_ _)); refine blk_far ?_ NB918_931.out _; (with_reducible repeat (first | refine blk_drewN ?_ _ | refine blk_drew ?_ | refine blk_alloc ?_ _)); refine blk_far ?_ NB918_931.out _; (with_reducible repeat (first | refine blk_drewN ?_ _ | refine blk_drew ?_ | refine blk_alloc ?_ _)); refine blk_far ?_ NB918_931.out _; (with_reducible repeat (first | refine blk_drewN ?_ _ | refine blk_drew ?_ | refine blk_alloc ?_ _)); refine blk_far ?_ NB918_931.out _; (with_reducible repeat (first | refine blk_drewN ?_ _ | refine blk_drew ?_ | refine blk_alloc ?_ _)); refine blk_far ?_ NB918_931.out _; (with_reducible repeat (first | refine blk_drewN ?_ _ | refine blk_drew ?_ | refine blk_alloc ?_ _)); exact BK918.out) hb); have n3_ := Aside0.mk (blk_below (g := gb931) (o := .cells #[.int .i64 t925, .string t926, .string t927, .int .i64 t928, .int .i64 t929] 36 (0, 0)) (by (with_reducible repeat (first | refine blk_drewN ?_ _ | refine blk_drew ?_ | refine blk_alloc ?_ _)); refine blk_put (cs := #[.int .i64 t925, .string t926, .string t927, .int .i64 t928, .int .i64 0]) ?_ 4 _ rfl; (with_reducible repeat (first | refine blk_drewN ?_ _ | refine blk_drew ?_ | refine blk_alloc ?_ _)); refine blk_put (cs := #[.int .i64 t925, .string t926, .string t927, .int .i64 0, .int .i64 0]) ?_ 3 _ rfl; (with_reducible repeat (first | refine blk_drewN ?_ _ | refine blk_drew ?_ | refine blk_alloc ?_ _)); refine blk_put (cs := #[.int .i64 t925, .string t926, .string (⟨#[]⟩ : ByteArray), .int .i64 0, .int .i64 0]) ?_ 2 _ rfl; (with_reducible repeat (first | refine blk_drewN ?_ _ | refine blk_drew ?_ | refine blk_alloc ?_ _)); refine blk_put (cs := #[.int .i64 t925, .string (⟨#[]⟩ : ByteArray), .string (⟨#[]⟩ : ByteArray), .int .i64 0, .int .i64 0]) ?_ 1 _ rfl; (with_reducible repeat (first | refine blk_drewN ?_ _ | refine blk_drew ?_ | refine blk_alloc ?_ _)); refine blk_put (cs := #[.int .i64 0, .string (⟨#[]⟩ : ByteArray), .string (⟨#[]⟩ : ByteArray), .int .i64 0, .int .i64 0]) ?_ 0 _ rfl; (with_reducible repeat (first | refine blk_drewN ?_ _ | refine blk_drew ?_ | refine blk_alloc ?_ _)); exact BK931.out) hb); have n4_ := Aside0.mk (below_step (by repeat (first | (with_reducible first | exact HB.out | apply below_alloc | apply pw_below_drewN | apply below_drew1 | refine below_set ?_ GE918.out | refine below_set ?_ GE931.out) | exact HB.out)) hb); clear HO924; clear BK918; clear BK931; clear HB; have HO924 := n0_; have HO936 := n1_; have BK918 := n2_; have BK931 := n3_; have HB := n4_; clear n0_ n1_ n2_ n3_ n4_; (try clear hb); (try clear hb2); (try clear hk); (try clear hi); (try clear ho0)) | ((with_reducible refine gate_dst (N := 8) rfl ?_); refine box_event ?hg (N := 8) ?hd (cs := #[.int .i64 0, .int .i64 0, .slice none 0 0]) (t := 41) ?hr ?_; (case hd => rfl); (case hg => rfl); (case hr => first | (go_simp; done) | (go_simp; rfl)); intro gb937 hg w25 hbox hb; have n0_ := Aside0.mk (Kd.R_below (by (with_reducible repeat (first | apply Kd.R_alloc | apply Kd.R_drewN | apply Kd.R_drew)); exact HO924.out) hb); have n1_ := Aside0.mk (Kd.R_below (by (with_reducible repeat (first | apply Kd.R_alloc | apply Kd.R_drewN | apply Kd.R_drew)); exact HO936.out) hb); have n2_ := Aside0.mk (blk_below (g := gb918) (o := .cells #[.int .i64 a0_0, .int .i64 a0_1, .slice A0_2 l0_2.length c0_2] 33 (0, 0)) (by (with_reducible repeat (first | refine blk_drewN ?_ _ | refine blk_drew ?_ | refine blk_alloc ?_ _)); exact BK918.out) hb); have n3_ := Aside0.mk (blk_below (g := gb931) (o := .cells #[.int .i64 t925, .string t926, .string t927, .int .i64 t928, .int .i64 t929] 36 (0, 0)) (by (with_reducible repeat (first | refine blk_drewN ?_ _ | refine blk_drew ?_ | refine blk_alloc ?_ _)); exact BK931.out) hb); have n4_ := Aside0.mk (below_step (by repeat (first | (with_reducible first | exact HB.out | apply below_alloc | apply pw_below_drewN | apply below_drew1 | refine below_set ?_ GE918.out | refine below_set ?_ GE931.out) | exact HB.out)) hb); have n5_ := Aside0.mk (hbox); have n6_ := Aside0.mk ((by rw [hg]; exact (below_size (by repeat (first | (with_reducible first | exact HB.out | apply below_alloc | apply pw_below_drewN | apply below_drew1 | refine below_set ?_ GE918.out | refine below_set ?_ GE931.out) | exact HB.out))) : w.heap.size ≤ gb937)); have n7_ := Aside0.mk ((by rw [hg]; exact (below_size (by repeat (first | (with_reducible first | exact HB.out | apply below_alloc | apply pw_below_drewN | apply below_drew1 | refine below_set ?_ GE918.out | refine below_set ?_ GE931.out) | exact HB.out))) : w.heap.size ≤ gb937)); have n8_ := Aside0.mk ((by rw [hg]; exact Nat.ne_of_lt (blk_lt (g := gb918) (o := .cells #[.int .i64 a0_0, .int .i64 a0_1, .slice A0_2 l0_2.length c0_2] 33 (0, 0)) (by (with_reducible repeat (first | refine blk_drewN ?_ _ | refine blk_drew ?_ | refine blk_alloc ?_ _)); exact BK918.out)) : gb918 ≠ gb937)); have n9_ := Aside0.mk ((by rw [hg]; exact Nat.ne_of_gt (blk_lt (g := gb918) (o := .cells #[.int .i64 a0_0, .int .i64 a0_1, .slice A0_2 l0_2.length c0_2] 33 (0, 0)) (by (with_reducible repeat (first | refine blk_drewN ?_ _ | refine blk_drew ?_ | refine blk_alloc ?_ _)); exact BK918.out)) : gb937 ≠ gb918)); have n10_ := Aside0.mk ((by rw [hg]; exact Nat.ne_of_lt (blk_lt (g := gb931) (o := .cells #[.int .i64 t925, .string t926, .string t927, .int .i64 t928, .int .i64 t929] 36 (0, 0)) (by (with_reducible repeat (first | refine blk_drewN ?_ _ | refine blk_drew ?_ | refine blk_alloc ?_ _)); exact BK931.out)) : gb931 ≠ gb937)); have n11_ := Aside0.mk ((by rw [hg]; exact Nat.ne_of_gt (blk_lt (g := gb931) (o := .cells #[.int .i64 t925, .string t926, .string t927, .int .i64 t928, .int .i64 t929] 36 (0, 0)) (by (with_reducible repeat (first | refine blk_drewN ?_ _ | refine blk_drew ?_ | refine blk_alloc ?_ _)); exact BK931.out)) : gb937 ≠ gb931)); clear HO924; clear HO936; clear BK918; clear BK931; clear HB; have HO924 := n0_; have HO936 := n1_; have BK918 := n2_; have BK931 := n3_; have HB := n4_; have BK937 := n5_; have GW937 := n6_; have GE937 := n7_; have NB918_937 := n8_; have NB937_918 := n9_; have NB931_937 := n10_; have NB937_931 := n11_; clear n0_ n1_ n2_ n3_ n4_ n5_ n6_ n7_ n8_ n9_ n10_ n11_; clear hb hbox hg; have hnb26 := NB937_918.out; have hnc26 := NB918_937.out; have hnb27 := NB937_931.out; have hnc27 := NB931_937.out; have hcz28_0 : w25.cell? ⟨gb937, 0, none⟩ = some (.int .i64 0) := (blk_cell BK937.out 0).trans rfl; have hcz28_1 : w25.cell? ⟨gb937, 1, none⟩ = some (.int .i64 0) := (blk_cell BK937.out 1).trans rfl; have hcz28_2 : w25.cell? ⟨gb937, 2, none⟩ = some (.slice none 0 0) := (blk_cell BK937.out 2).trans rfl; have hfz28_0 := blk_frozen BK937.out 0; have hfz28_1 := blk_frozen BK937.out 1; have hfz28_2 := blk_frozen BK937.out 2; obtain ⟨Ao29, co29, eo29⟩ := Kd.R_slice HO936.out; subst eo29) | ((with_reducible refine gate_callee (f := 32) rfl ?_); refine goesL_ (some 28) rfl rfl Try.func32 (by kernel_rfl) rfl #[.agg #[.int .i64 t932, .int .i64 t933, .slice Ao29 t934.length co29], .int .i64 a1] rfl (by (try simp only [List.map_toArray, List.map_cons, List.map_nil]); first | done | rfl | (simp only [List.length_drop, List.length_take]; rfl)) ?_; (with_reducible refine (impl_RowGet.calls k t932 t933 _ _ t934 a1 t938 t939 t940 t941 t942 t943 _ ?side1 ?side2 A11.out).mono ?_); (case side1 => refine (Kd.R_reads' (e := 36) (base := w.heap.size) (ok := fun k_ => ((True ∧ some k_ ≠ (.slice Ao18 t922.length co18 : Value).ownBlock) ∧ k_ ≠ gb931)) (n := t934.length) (c := co29) ?_).2.2; exact (by (with_reducible repeat (first | apply Kd.R_alloc | apply Kd.R_drewN | apply Kd.R_drew)); exact (Kd.R_mono (Kd.R_far (p := ⟨gb937, 2, none⟩) (Kd.R_far (p := ⟨gb937, 1, none⟩) (Kd.R_far (p := ⟨gb937, 0, none⟩) (Kd.R_types HO936.out BK937.out (by decide)) (fun _ hk => hk.2) (.int .i64 t932)) (fun _ hk => hk.2) (.int .i64 t933)) (fun _ hk => hk.2) (.slice Ao29 t934.length co29)) (fun _ h_ => h_.1)))); (case side2 => exact (Kd.R_reads' HO936.out).2.1); rintro e w30 ⟨rfl, hb⟩; refine ⟨_, rfl, ?_⟩; have n0_ := Aside0.mk (Kd.R_below (by (with_reducible repeat (first | apply Kd.R_alloc | apply Kd.R_drewN | apply Kd.R_drew)); exact (Kd.R_mono (Kd.R_far (p := ⟨gb937, 2, none⟩) (Kd.R_far (p := ⟨gb937, 1, none⟩) (Kd.R_far (p := ⟨gb937, 0, none⟩) (Kd.R_types HO924.out BK937.out (by decide)) (fun _ hk => hk.2) (.int .i64 t932)) (fun _ hk => hk.2) (.int .i64 t933)) (fun _ hk => hk.2) (.slice Ao29 t934.length co29)) (fun _ h_ => h_.1))) hb); have n1_ := Aside0.mk (Kd.R_below (by (with_reducible repeat (first | apply Kd.R_alloc | apply Kd.R_drewN | apply Kd.R_drew)); exact (Kd.R_mono (Kd.R_far (p := ⟨gb937, 2, none⟩) (Kd.R_far (p := ⟨gb937, 1, none⟩) (Kd.R_far (p := ⟨gb937, 0, none⟩) (Kd.R_types HO936.out BK937.out (by decide)) (fun _ hk => hk.2) (.int .i64 t932)) (fun _ hk => hk.2) (.int .i64 t933)) (fun _ hk => hk.2) (.slice Ao29 t934.length co29)) (fun _ h_ => h_.1))) hb); have n2_ := Aside0.mk (blk_below (g := gb918) (o := .cells #[.int .i64 a0_0, .int .i64 a0_1, .slice A0_2 l0_2.length c0_2] 33 (0, 0)) (by (with_reducible repeat (first | refine blk_drewN ?_ _ | refine blk_drew ?_ | refine blk_alloc ?_ _)); refine blk_far ?_ NB918_937.out _; (with_reducible repeat (first | refine blk_drewN ?_ _ | refine blk_drew ?_ | refine blk_alloc ?_ _)); refine blk_far ?_ NB918_937.out _; (with_reducible repeat (first | refine blk_drewN ?_ _ | refine blk_drew ?_ | refine blk_alloc ?_ _)); refine blk_far ?_ NB918_937.out _; (with_reducible repeat (first | refine blk_drewN ?_ _ | refine blk_drew ?_ | refine blk_alloc ?_ _)); exact BK918.out) hb); have n3_ := Aside0.mk (blk_below (g := gb931) (o := .cells #[.int .i64 t925, .string t926, .string t927, .int .i64 t928, .int .i64 t929] 36 (0, 0)) (by (with_reducible repeat (first | refine blk_drewN ?_ _ | refine blk_drew ?_ | refine blk_alloc ?_ _)); refine blk_far ?_ NB931_937.out _; (with_reducible repeat (first | refine blk_drewN ?_ _ | refine blk_drew ?_ | refine blk_alloc ?_ _)); refine blk_far ?_ NB931_937.out _; (with_reducible repeat (first | refine blk_drewN ?_ _ | refine blk_drew ?_ | refine blk_alloc ?_ _)); refine blk_far ?_ NB931_937.out _; (with_reducible repeat (first | refine blk_drewN ?_ _ | refine blk_drew ?_ | refine blk_alloc ?_ _)); exact BK931.out) hb); have n4_ := Aside0.mk (blk_below (g := gb937) (o := .cells #[.int .i64 t932, .int .i64 t933, .slice Ao29 t934.length co29] 41 (0, 0)) (by (with_reducible repeat (first | refine blk_drewN ?_ _ | refine blk_drew ?_ | refine blk_alloc ?_ _)); refine blk_put (cs := #[.int .i64 t932, .int .i64 t933, .slice none 0 0]) ?_ 2 _ rfl; (with_reducible repeat (first | refine blk_drewN ?_ _ | refine blk_drew ?_ | refine blk_alloc ?_ _)); refine blk_put (cs := #[.int .i64 t932, .int .i64 0, .slice none 0 0]) ?_ 1 _ rfl; (with_reducible repeat (first | refine blk_drewN ?_ _ | refine blk_drew ?_ | refine blk_alloc ?_ _)); refine blk_put (cs := #[.int .i64 0, .int .i64 0, .slice none 0 0]) ?_ 0 _ rfl; (with_reducible repeat (first | refine blk_drewN ?_ _ | refine blk_drew ?_ | refine blk_alloc ?_ _)); exact BK937.out) hb); have n5_ := Aside0.mk (below_step (by repeat (first | (with_reducible first | exact HB.out | apply below_alloc | apply pw_below_drewN | apply below_drew1 | refine below_set ?_ GE918.out | refine below_set ?_ GE931.out | refine below_set ?_ GE937.out) | exact HB.out)) hb); clear HO924; clear HO936; clear BK918; clear BK931; clear BK937; clear HB; have HO924 := n0_; have HO936 := n1_; have BK918 := n2_; have BK931 := n3_; have BK937 := n4_; have HB := n5_; clear n0_ n1_ n2_ n3_ n4_ n5_; (try clear hb); (try clear hb2); (try clear hk); (try clear hi)) | ((with_reducible refine gate_dst (N := 9) rfl ?_); refine box_event ?hg (N := 9) ?hd (cs := #[.int .i64 0, .string (⟨#[]⟩ : ByteArray), .string (⟨#[]⟩ : ByteArray), .int .i64 0, .int .i64 0]) (t := 36) ?hr ?_; (case hd => rfl); (case hg => rfl); (case hr => first | (go_simp; done) | (go_simp; rfl)); intro gb944 hg w31 hbox hb; have n0_ := Aside0.mk (Kd.R_below (Kd.R_elderB (by (with_reducible repeat (first | apply Kd.R_alloc | apply Kd.R_drewN | apply Kd.R_drew)); exact HO924.out) gb944 (Nat.le_of_eq hg.symm)) hb); have n1_ := Aside0.mk (Kd.R_below (Kd.R_elderB (by (with_reducible repeat (first | apply Kd.R_alloc | apply Kd.R_drewN | apply Kd.R_drew)); exact HO936.out) gb944 (Nat.le_of_eq hg.symm)) hb); have n2_ := Aside0.mk (blk_below (g := gb918) (o := .cells #[.int .i64 a0_0, .int .i64 a0_1, .slice A0_2 l0_2.length c0_2] 33 (0, 0)) (by (with_reducible repeat (first | refine blk_drewN ?_ _ | refine blk_drew ?_ | refine blk_alloc ?_ _)); exact BK918.out) hb); have n3_ := Aside0.mk (blk_below (g := gb931) (o := .cells #[.int .i64 t925, .string t926, .string t927, .int .i64 t928, .int .i64 t929] 36 (0, 0)) (by (with_reducible repeat (first | refine blk_drewN ?_ _ | refine blk_drew ?_ | refine blk_alloc ?_ _)); exact BK931.out) hb); have n4_ := Aside0.mk (blk_below (g := gb937) (o := .cells #[.int .i64 t932, .int .i64 t933, .slice Ao29 t934.length co29] 41 (0, 0)) (by (with_reducible repeat (first | refine blk_drewN ?_ _ | refine blk_drew ?_ | refine blk_alloc ?_ _)); exact BK937.out) hb); have n5_ := Aside0.mk (below_step (by repeat (first | (with_reducible first | exact HB.out | apply below_alloc | apply pw_below_drewN | apply below_drew1 | refine below_set ?_ GE918.out | refine below_set ?_ GE931.out | refine below_set ?_ GE937.out) | exact HB.out)) hb); have n6_ := Aside0.mk (hbox); have n7_ := Aside0.mk ((by rw [hg]; exact (below_size (by repeat (first | (with_reducible first | exact HB.out | apply below_alloc | apply pw_below_drewN | apply below_drew1 | refine below_set ?_ GE918.out | refine below_set ?_ GE931.out | refine below_set ?_ GE937.out) | exact HB.out))) : w.heap.size ≤ gb944)); have n8_ := Aside0.mk ((by rw [hg]; exact (below_size (by repeat (first | (with_reducible first | exact HB.out | apply below_alloc | apply pw_below_drewN | apply below_drew1 | refine below_set ?_ GE918.out | refine below_set ?_ GE931.out | refine below_set ?_ GE937.out) | exact HB.out))) : w.heap.size ≤ gb944)); have n9_ := Aside0.mk ((by rw [hg]; exact Nat.ne_of_lt (blk_lt (g := gb918) (o := .cells #[.int .i64 a0_0, .int .i64 a0_1, .slice A0_2 l0_2.length c0_2] 33 (0, 0)) (by (with_reducible repeat (first | refine blk_drewN ?_ _ | refine blk_drew ?_ | refine blk_alloc ?_ _)); exact BK918.out)) : gb918 ≠ gb944)); have n10_ := Aside0.mk ((by rw [hg]; exact Nat.ne_of_gt (blk_lt (g := gb918) (o := .cells #[.int .i64 a0_0, .int .i64 a0_1, .slice A0_2 l0_2.length c0_2] 33 (0, 0)) (by (with_reducible repeat (first | refine blk_drewN ?_ _ | refine blk_drew ?_ | refine blk_alloc ?_ _)); exact BK918.out)) : gb944 ≠ gb918)); have n11_ := Aside0.mk ((by rw [hg]; exact Nat.ne_of_lt (blk_lt (g := gb931) (o := .cells #[.int .i64 t925, .string t926, .string t927, .int .i64 t928, .int .i64 t929] 36 (0, 0)) (by (with_reducible repeat (first | refine blk_drewN ?_ _ | refine blk_drew ?_ | refine blk_alloc ?_ _)); exact BK931.out)) : gb931 ≠ gb944)); have n12_ := Aside0.mk ((by rw [hg]; exact Nat.ne_of_gt (blk_lt (g := gb931) (o := .cells #[.int .i64 t925, .string t926, .string t927, .int .i64 t928, .int .i64 t929] 36 (0, 0)) (by (with_reducible repeat (first | refine blk_drewN ?_ _ | refine blk_drew ?_ | refine blk_alloc ?_ _)); exact BK931.out)) : gb944 ≠ gb931)); have n13_ := Aside0.mk ((by rw [hg]; exact Nat.ne_of_lt (blk_lt (g := gb937) (o := .cells #[.int .i64 t932, .int .i64 t933, .slice Ao29 t934.length co29] 41 (0, 0)) (by (with_reducible repeat (first | refine blk_drewN ?_ _ | refine blk_drew ?_ | refine blk_alloc ?_ _)); exact BK937.out)) : gb937 ≠ gb944)); have n14_ := Aside0.mk ((by rw [hg]; exact Nat.ne_of_gt (blk_lt (g := gb937) (o := .cells #[.int .i64 t932, .int .i64 t933, .slice Ao29 t934.length co29] 41 (0, 0)) (by (with_reducible repeat (first | refine blk_drewN ?_ _ | refine blk_drew ?_ | refine blk_alloc ?_ _)); exact BK937.out)) : gb944 ≠ gb937)); clear HO924; clear HO936; clear BK918; clear BK931; clear BK937; clear HB; have HO924 := n0_; have HO936 := n1_; have BK918 := n2_; have BK931 := n3_; have BK937 := n4_; have HB := n5_; have BK944 := n6_; have GW944 := n7_; have GE944 := n8_; have NB918_944 := n9_; have NB944_918 := n10_; have NB931_944 := n11_; have NB944_931 := n12_; have NB937_944 := n13_; have NB944_937 := n14_; clear n0_ n1_ n2_ n3_ n4_ n5_ n6_ n7_ n8_ n9_ n10_ n11_ n12_ n13_ n14_; clear hb hbox hg; have hnb32 := NB944_918.out; have hnc32 := NB918_944.out; have hnb33 := NB944_931.out; have hnc33 := NB931_944.out; have hnb34 := NB944_937.out; have hnc34 := NB937_944.out; have hcz35_0 : w31.cell? ⟨gb944, 0, none⟩ = some (.int .i64 0) := (blk_cell BK944.out 0).trans rfl; have hcz35_1 : w31.cell? ⟨gb944, 1, none⟩ = some (.string (⟨#[]⟩ : ByteArray)) := (blk_cell BK944.out 1).trans rfl; have hcz35_2 : w31.cell? ⟨gb944, 2, none⟩ = some (.string (⟨#[]⟩ : ByteArray)) := (blk_cell BK944.out 2).trans rfl; have hcz35_3 : w31.cell? ⟨gb944, 3, none⟩ = some (.int .i64 0) := (blk_cell BK944.out 3).trans rfl; have hcz35_4 : w31.cell? ⟨gb944, 4, none⟩ = some (.int .i64 0) := (blk_cell BK944.out 4).trans rfl; have hfz35_0 := blk_frozen BK944.out 0; have hfz35_1 := blk_frozen BK944.out 1; have hfz35_2 := blk_frozen BK944.out 2; have hfz35_3 := blk_frozen BK944.out 3; have hfz35_4 := blk_frozen BK944.out 4))
    (try simp only [Act.put, List.setIfInBounds_toArray, List.set_cons_zero, List.set_cons_succ])
    go_cut [39] (fun v39 wc => ∃ (kq : Nat) (x39_11 : Bool), v39 = .bool x39_11 ∧ Aside0 (laws_FnExactRowGet.j0 kq x39_11 a0_0 a0_1 l0_2 t932 t933 t934 = some r) ∧ Aside0 (kq ≤ k) ∧ Aside0 (Kd.R k_Item 36 wc w.heap.size (fun k_ => k_ ≠ gb931 ∧ k_ ≠ gb944) (.slice Ao29 t934.length co29) t934) ∧ Aside0 (wc.heap[gb918]? = some (.cells #[.int .i64 a0_0, .int .i64 a0_1, (.slice A0_2 l0_2.length c0_2)] 33 (0, 0))) ∧ Aside0 (wc.heap[gb931]? = some (.cells #[.int .i64 t925, .string t926, .string t927, .int .i64 t928, .int .i64 t929] 36 (0, 0))) ∧ Aside0 (wc.heap[gb937]? = some (.cells #[.int .i64 t932, .int .i64 t933, (.slice Ao29 t934.length co29)] 41 (0, 0))) ∧ Aside0 (wc.heap[gb944]? = some (.cells #[.int .i64 t938, .string t939, .string t940, .int .i64 t941, .int .i64 t942] 36 (0, 0))) ∧ Aside0 (Below w.heap.size w wc))
    case first =>
      have H := HC12.out
      clear HC12
      replace H := Option.bind_eq_some_iff.mp H
      obtain ⟨t945, A360, H⟩ := H
      replace H : (if t945 = true then (laws_FnExactRowGet.j0 k (t943 != t930) a0_0 a0_1 l0_2 t932 t933 t934) else (laws_FnExactRowGet.j0 k true a0_0 a0_1 l0_2 t932 t933 t934)) = some r := H
      have A36 := Aside0.mk A360
      clear A360
      by_cases c37 : t945 = true
      · subst c37
        have H1 : (laws_FnExactRowGet.j0 k (t943 != t930) a0_0 a0_1 l0_2 t932 t933 t934) = some r := by rw [if_pos rfl] at H; exact H
        clear H
        have H := H1
        clear H1
        have H' := Aside0.mk H
        clear H
        have hnb38 := NB944_918.out
        have hnc38 := NB918_944.out
        have hnb39 := NB944_931.out
        have hnc39 := NB931_944.out
        have hnb40 := NB944_937.out
        have hnc40 := NB937_944.out
        have hcz41_0 : w31.cell? ⟨gb944, 0, none⟩ = some (.int .i64 0) := (blk_cell BK944.out 0).trans rfl
        have hcz41_1 : w31.cell? ⟨gb944, 1, none⟩ = some (.string (⟨#[]⟩ : ByteArray)) := (blk_cell BK944.out 1).trans rfl
        have hcz41_2 : w31.cell? ⟨gb944, 2, none⟩ = some (.string (⟨#[]⟩ : ByteArray)) := (blk_cell BK944.out 2).trans rfl
        have hcz41_3 : w31.cell? ⟨gb944, 3, none⟩ = some (.int .i64 0) := (blk_cell BK944.out 3).trans rfl
        have hcz41_4 : w31.cell? ⟨gb944, 4, none⟩ = some (.int .i64 0) := (blk_cell BK944.out 4).trans rfl
        have hfz41_0 := blk_frozen BK944.out 0
        have hfz41_1 := blk_frozen BK944.out 1
        have hfz41_2 := blk_frozen BK944.out 2
        have hfz41_3 := blk_frozen BK944.out 3
        have hfz41_4 := blk_frozen BK944.out 4
        have hnb42 := NB931_918.out
        have hnc42 := NB918_931.out
        have hnb43 := NB931_937.out
        have hnc43 := NB937_931.out
        have hcz44_0 : w31.cell? ⟨gb931, 0, none⟩ = some (.int .i64 t925) := (blk_cell BK931.out 0).trans rfl
        have hcz44_1 : w31.cell? ⟨gb931, 1, none⟩ = some (.string t926) := (blk_cell BK931.out 1).trans rfl
        have hcz44_2 : w31.cell? ⟨gb931, 2, none⟩ = some (.string t927) := (blk_cell BK931.out 2).trans rfl
        have hcz44_3 : w31.cell? ⟨gb931, 3, none⟩ = some (.int .i64 t928) := (blk_cell BK931.out 3).trans rfl
        have hcz44_4 : w31.cell? ⟨gb931, 4, none⟩ = some (.int .i64 t929) := (blk_cell BK931.out 4).trans rfl
        have hfz44_0 := blk_frozen BK931.out 0
        have hfz44_1 := blk_frozen BK931.out 1
        have hfz44_2 := blk_frozen BK931.out 2
        have hfz44_3 := blk_frozen BK931.out 3
        have hfz44_4 := blk_frozen BK931.out 4
        go_wp2_with (first | ((with_reducible refine gate_callee (f := 24) rfl ?_); refine goesL_ (some 33) rfl rfl Try.func24 (by kernel_rfl) rfl #[.agg #[.int .i64 t938, .string t939, .string t940, .int .i64 t941, .int .i64 t942], .agg #[.int .i64 t925, .string t926, .string t927, .int .i64 t928, .int .i64 t929]] rfl (by (try simp only [List.map_toArray, List.map_cons, List.map_nil]); first | done | rfl | (simp only [List.length_drop, List.length_take]; rfl)) ?_; (with_reducible refine (laws_eqItem.calls t938 t939 t940 t941 t942 t925 t926 t927 t928 t929 true _ A36.out).mono ?_); rintro e w45 ⟨rfl, hb⟩; refine ⟨_, rfl, ?_⟩; have n0_ := Aside0.mk (Kd.R_below (by (with_reducible repeat (first | apply Kd.R_alloc | apply Kd.R_drewN | apply Kd.R_drew)); exact (Kd.R_mono (Kd.R_far (p := ⟨gb944, 4, none⟩) (Kd.R_far (p := ⟨gb944, 3, none⟩) (Kd.R_far (p := ⟨gb944, 2, none⟩) (Kd.R_far (p := ⟨gb944, 1, none⟩) (Kd.R_far (p := ⟨gb944, 0, none⟩) (Kd.R_mono HO924.out (fun k_ hk => (⟨hk, hk.2⟩ : _ ∧ k_ ≠ gb944))) (fun _ hk => hk.2) (.int .i64 t938)) (fun _ hk => hk.2) (.string t939)) (fun _ hk => hk.2) (.string t940)) (fun _ hk => hk.2) (.int .i64 t941)) (fun _ hk => hk.2) (.int .i64 t942)) (fun _ h_ => h_.1))) hb); have n1_ := Aside0.mk (Kd.R_below (by (with_reducible repeat (first | apply Kd.R_alloc | apply Kd.R_drewN | apply Kd.R_drew)); exact (Kd.R_mono (Kd.R_far (p := ⟨gb944, 4, none⟩) (Kd.R_far (p := ⟨gb944, 3, none⟩) (Kd.R_far (p := ⟨gb944, 2, none⟩) (Kd.R_far (p := ⟨gb944, 1, none⟩) (Kd.R_far (p := ⟨gb944, 0, none⟩) (Kd.R_mono HO936.out (fun k_ hk => (⟨hk, hk.2⟩ : _ ∧ k_ ≠ gb944))) (fun _ hk => hk.2) (.int .i64 t938)) (fun _ hk => hk.2) (.string t939)) (fun _ hk => hk.2) (.string t940)) (fun _ hk => hk.2) (.int .i64 t941)) (fun _ hk => hk.2) (.int .i64 t942)) (fun _ h_ => h_.1))) hb); have n2_ := Aside0.mk (blk_below (g := gb918) (o := .cells #[.int .i64 a0_0, .int .i64 a0_1, .slice A0_2 l0_2.length c0_2] 33 (0, 0)) (by (with_reducible repeat (first | refine blk_drewN ?_ _ | refine blk_drew ?_ | refine blk_alloc ?_ _)); refine blk_far ?_ NB918_944.out _; (with_reducible repeat (first | refine blk_drewN ?_ _ | refine blk_drew ?_ | refine blk_alloc ?_ _)); refine blk_far ?_ NB918_944.out _; (with_reducible repeat (first | refine blk_drewN ?_ _ | refine blk_drew ?_ | refine blk_alloc ?_ _)); refine blk_far ?_ NB918_944.out _; (with_reducible repeat (first | refine blk_drewN ?_ _ | refine blk_drew ?_ | refine blk_alloc ?_ _)); refine blk_far ?_ NB918_944.out _; (with_reducible repeat (first | refine blk_drewN ?_ _ | refine blk_drew ?_ | refine blk_alloc ?_ _)); refine blk_far ?_ NB918_944.out _; (with_reducible repeat (first | refine blk_drewN ?_ _ | refine blk_drew ?_ | refine blk_alloc ?_ _)); exact BK918.out) hb); have n3_ := Aside0.mk (blk_below (g := gb931) (o := .cells #[.int .i64 t925, .string t926, .string t927, .int .i64 t928, .int .i64 t929] 36 (0, 0)) (by (with_reducible repeat (first | refine blk_drewN ?_ _ | refine blk_drew ?_ | refine blk_alloc ?_ _)); refine blk_far ?_ NB931_944.out _; (with_reducible repeat (first | refine blk_drewN ?_ _ | refine blk_drew ?_ | refine blk_alloc ?_ _)); refine blk_far ?_ NB931_944.out _; (with_reducible repeat (first | refine blk_drewN ?_ _ | refine blk_drew ?_ | refine blk_alloc ?_ _)); refine blk_far ?_ NB931_944.out _; (with_reducible repeat (first | refine blk_drewN ?_ _ | refine blk_drew ?_ | refine blk_alloc ?_ _)); refine blk_far ?_ NB931_944.out _; (with_reducible repeat (first | refine blk_drewN ?_ _ | refine blk_drew ?_ | refine blk_alloc ?_ _)); refine blk_far ?_ NB931_944.out _; (with_reducible repeat (first | refine blk_drewN ?_ _ | refine blk_drew ?_ | refine blk_alloc ?_ _)); exact BK931.out) hb); have n4_ := Aside0.mk (blk_below (g := gb937) (o := .cells #[.int .i64 t932, .int .i64 t933, .slice Ao29 t934.length co29] 41 (0, 0)) (by (with_reducible repeat (first | refine blk_drewN ?_ _ | refine blk_drew ?_ | refine blk_alloc ?_ _)); refine blk_far ?_ NB937_944.out _; (with_reducible repeat (first | refine blk_drewN ?_ _ | refine blk_drew ?_ | refine blk_alloc ?_ _)); refine blk_far ?_ NB937_944.out _; (with_reducible repeat (first | refine blk_drewN ?_ _ | refine blk_drew ?_ | refine blk_alloc ?_ _)); refine blk_far ?_ NB937_944.out _; (with_reducible repeat (first | refine blk_drewN ?_ _ | refine blk_drew ?_ | refine blk_alloc ?_ _)); refine blk_far ?_ NB937_944.out _; (with_reducible repeat (first | refine blk_drewN ?_ _ | refine blk_drew ?_ | refine blk_alloc ?_ _)); refine blk_far ?_ NB937_944.out _; (with_reducible repeat (first | refine blk_drewN ?_ _ | refine blk_drew ?_ | refine blk_alloc ?_ _)); exact BK937.out) hb); have n5_ := Aside0.mk (blk_below (g := gb944) (o := .cells #[.int .i64 t938, .string t939, .string t940, .int .i64 t941, .int .i64 t942] 36 (0, 0)) (by (with_reducible repeat (first | refine blk_drewN ?_ _ | refine blk_drew ?_ | refine blk_alloc ?_ _)); refine blk_put (cs := #[.int .i64 t938, .string t939, .string t940, .int .i64 t941, .int .i64 0]) ?_ 4 _ rfl; (with_reducible repeat (first | refine blk_drewN ?_ _ | refine blk_drew ?_ | refine blk_alloc ?_ _)); refine blk_put (cs := #[.int .i64 t938, .string t939, .string t940, .int .i64 0, .int .i64 0]) ?_ 3 _ rfl; (with_reducible repeat (first | refine blk_drewN ?_ _ | refine blk_drew ?_ | refine blk_alloc ?_ _)); refine blk_put (cs := #[.int .i64 t938, .string t939, .string (⟨#[]⟩ : ByteArray), .int .i64 0, .int .i64 0]) ?_ 2 _ rfl; (with_reducible repeat (first | refine blk_drewN ?_ _ | refine blk_drew ?_ | refine blk_alloc ?_ _)); refine blk_put (cs := #[.int .i64 t938, .string (⟨#[]⟩ : ByteArray), .string (⟨#[]⟩ : ByteArray), .int .i64 0, .int .i64 0]) ?_ 1 _ rfl; (with_reducible repeat (first | refine blk_drewN ?_ _ | refine blk_drew ?_ | refine blk_alloc ?_ _)); refine blk_put (cs := #[.int .i64 0, .string (⟨#[]⟩ : ByteArray), .string (⟨#[]⟩ : ByteArray), .int .i64 0, .int .i64 0]) ?_ 0 _ rfl; (with_reducible repeat (first | refine blk_drewN ?_ _ | refine blk_drew ?_ | refine blk_alloc ?_ _)); exact BK944.out) hb); have n6_ := Aside0.mk (below_step (by repeat (first | (with_reducible first | exact HB.out | apply below_alloc | apply pw_below_drewN | apply below_drew1 | refine below_set ?_ GE918.out | refine below_set ?_ GE931.out | refine below_set ?_ GE937.out | refine below_set ?_ GE944.out) | exact HB.out)) hb); clear HO924; clear HO936; clear BK918; clear BK931; clear BK937; clear BK944; clear HB; have HO924 := n0_; have HO936 := n1_; have BK918 := n2_; have BK931 := n3_; have BK937 := n4_; have BK944 := n5_; have HB := n6_; clear n0_ n1_ n2_ n3_ n4_ n5_ n6_; (try clear hb); (try clear hb2); (try clear hk); (try clear hi)))
        go_meet
        case rel => exact ⟨_, ((t943 != t930)), (by first | rfl | (simp; done) | (simp [*]; done)), H', ⟨by first | omega | exact Nat.le_refl _⟩, ⟨by (with_reducible repeat (first | apply Kd.R_alloc | apply Kd.R_drewN | apply Kd.R_drew)); exact Kd.R_mono HO936.out (fun _ hk => ⟨hk.1.2, hk.2⟩)⟩, ⟨by (with_reducible repeat (first | refine blk_drewN ?_ _ | refine blk_drew ?_ | refine blk_alloc ?_ _)); exact BK918.out⟩, ⟨by (with_reducible repeat (first | refine blk_drewN ?_ _ | refine blk_drew ?_ | refine blk_alloc ?_ _)); exact BK931.out⟩, ⟨by (with_reducible repeat (first | refine blk_drewN ?_ _ | refine blk_drew ?_ | refine blk_alloc ?_ _)); exact BK937.out⟩, ⟨by (with_reducible repeat (first | refine blk_drewN ?_ _ | refine blk_drew ?_ | refine blk_alloc ?_ _)); exact BK944.out⟩, ⟨by repeat (first | (with_reducible first | exact HB.out | apply below_alloc | apply pw_below_drewN | apply below_drew1 | refine below_set ?_ GE918.out | refine below_set ?_ GE931.out | refine below_set ?_ GE937.out | refine below_set ?_ GE944.out) | exact HB.out)⟩⟩
      · replace c37 := Bool.eq_false_iff.mpr c37
        subst c37
        have H1 : (laws_FnExactRowGet.j0 k true a0_0 a0_1 l0_2 t932 t933 t934) = some r := by rw [if_neg (show ¬ (false = true) by decide)] at H; exact H
        clear H
        have H := H1
        clear H1
        have H' := Aside0.mk H
        clear H
        have hnb46 := NB944_918.out
        have hnc46 := NB918_944.out
        have hnb47 := NB944_931.out
        have hnc47 := NB931_944.out
        have hnb48 := NB944_937.out
        have hnc48 := NB937_944.out
        have hcz49_0 : w31.cell? ⟨gb944, 0, none⟩ = some (.int .i64 0) := (blk_cell BK944.out 0).trans rfl
        have hcz49_1 : w31.cell? ⟨gb944, 1, none⟩ = some (.string (⟨#[]⟩ : ByteArray)) := (blk_cell BK944.out 1).trans rfl
        have hcz49_2 : w31.cell? ⟨gb944, 2, none⟩ = some (.string (⟨#[]⟩ : ByteArray)) := (blk_cell BK944.out 2).trans rfl
        have hcz49_3 : w31.cell? ⟨gb944, 3, none⟩ = some (.int .i64 0) := (blk_cell BK944.out 3).trans rfl
        have hcz49_4 : w31.cell? ⟨gb944, 4, none⟩ = some (.int .i64 0) := (blk_cell BK944.out 4).trans rfl
        have hfz49_0 := blk_frozen BK944.out 0
        have hfz49_1 := blk_frozen BK944.out 1
        have hfz49_2 := blk_frozen BK944.out 2
        have hfz49_3 := blk_frozen BK944.out 3
        have hfz49_4 := blk_frozen BK944.out 4
        have hnb50 := NB931_918.out
        have hnc50 := NB918_931.out
        have hnb51 := NB931_937.out
        have hnc51 := NB937_931.out
        have hcz52_0 : w31.cell? ⟨gb931, 0, none⟩ = some (.int .i64 t925) := (blk_cell BK931.out 0).trans rfl
        have hcz52_1 : w31.cell? ⟨gb931, 1, none⟩ = some (.string t926) := (blk_cell BK931.out 1).trans rfl
        have hcz52_2 : w31.cell? ⟨gb931, 2, none⟩ = some (.string t927) := (blk_cell BK931.out 2).trans rfl
        have hcz52_3 : w31.cell? ⟨gb931, 3, none⟩ = some (.int .i64 t928) := (blk_cell BK931.out 3).trans rfl
        have hcz52_4 : w31.cell? ⟨gb931, 4, none⟩ = some (.int .i64 t929) := (blk_cell BK931.out 4).trans rfl
        have hfz52_0 := blk_frozen BK931.out 0
        have hfz52_1 := blk_frozen BK931.out 1
        have hfz52_2 := blk_frozen BK931.out 2
        have hfz52_3 := blk_frozen BK931.out 3
        have hfz52_4 := blk_frozen BK931.out 4
        go_wp2_with (first | ((with_reducible refine gate_callee (f := 24) rfl ?_); refine goesL_ (some 33) rfl rfl Try.func24 (by kernel_rfl) rfl #[.agg #[.int .i64 t938, .string t939, .string t940, .int .i64 t941, .int .i64 t942], .agg #[.int .i64 t925, .string t926, .string t927, .int .i64 t928, .int .i64 t929]] rfl (by (try simp only [List.map_toArray, List.map_cons, List.map_nil]); first | done | rfl | (simp only [List.length_drop, List.length_take]; rfl)) ?_; (with_reducible refine (laws_eqItem.calls t938 t939 t940 t941 t942 t925 t926 t927 t928 t929 false _ A36.out).mono ?_); rintro e w53 ⟨rfl, hb⟩; refine ⟨_, rfl, ?_⟩; have n0_ := Aside0.mk (Kd.R_below (by (with_reducible repeat (first | apply Kd.R_alloc | apply Kd.R_drewN | apply Kd.R_drew)); exact (Kd.R_mono (Kd.R_far (p := ⟨gb944, 4, none⟩) (Kd.R_far (p := ⟨gb944, 3, none⟩) (Kd.R_far (p := ⟨gb944, 2, none⟩) (Kd.R_far (p := ⟨gb944, 1, none⟩) (Kd.R_far (p := ⟨gb944, 0, none⟩) (Kd.R_mono HO924.out (fun k_ hk => (⟨hk, hk.2⟩ : _ ∧ k_ ≠ gb944))) (fun _ hk => hk.2) (.int .i64 t938)) (fun _ hk => hk.2) (.string t939)) (fun _ hk => hk.2) (.string t940)) (fun _ hk => hk.2) (.int .i64 t941)) (fun _ hk => hk.2) (.int .i64 t942)) (fun _ h_ => h_.1))) hb); have n1_ := Aside0.mk (Kd.R_below (by (with_reducible repeat (first | apply Kd.R_alloc | apply Kd.R_drewN | apply Kd.R_drew)); exact (Kd.R_mono (Kd.R_far (p := ⟨gb944, 4, none⟩) (Kd.R_far (p := ⟨gb944, 3, none⟩) (Kd.R_far (p := ⟨gb944, 2, none⟩) (Kd.R_far (p := ⟨gb944, 1, none⟩) (Kd.R_far (p := ⟨gb944, 0, none⟩) (Kd.R_mono HO936.out (fun k_ hk => (⟨hk, hk.2⟩ : _ ∧ k_ ≠ gb944))) (fun _ hk => hk.2) (.int .i64 t938)) (fun _ hk => hk.2) (.string t939)) (fun _ hk => hk.2) (.string t940)) (fun _ hk => hk.2) (.int .i64 t941)) (fun _ hk => hk.2) (.int .i64 t942)) (fun _ h_ => h_.1))) hb); have n2_ := Aside0.mk (blk_below (g := gb918) (o := .cells #[.int .i64 a0_0, .int .i64 a0_1, .slice A0_2 l0_2.length c0_2] 33 (0, 0)) (by (with_reducible repeat (first | refine blk_drewN ?_ _ | refine blk_drew ?_ | refine blk_alloc ?_ _)); refine blk_far ?_ NB918_944.out _; (with_reducible repeat (first | refine blk_drewN ?_ _ | refine blk_drew ?_ | refine blk_alloc ?_ _)); refine blk_far ?_ NB918_944.out _; (with_reducible repeat (first | refine blk_drewN ?_ _ | refine blk_drew ?_ | refine blk_alloc ?_ _)); refine blk_far ?_ NB918_944.out _; (with_reducible repeat (first | refine blk_drewN ?_ _ | refine blk_drew ?_ | refine blk_alloc ?_ _)); refine blk_far ?_ NB918_944.out _; (with_reducible repeat (first | refine blk_drewN ?_ _ | refine blk_drew ?_ | refine blk_alloc ?_ _)); refine blk_far ?_ NB918_944.out _; (with_reducible repeat (first | refine blk_drewN ?_ _ | refine blk_drew ?_ | refine blk_alloc ?_ _)); exact BK918.out) hb); have n3_ := Aside0.mk (blk_below (g := gb931) (o := .cells #[.int .i64 t925, .string t926, .string t927, .int .i64 t928, .int .i64 t929] 36 (0, 0)) (by (with_reducible repeat (first | refine blk_drewN ?_ _ | refine blk_drew ?_ | refine blk_alloc ?_ _)); refine blk_far ?_ NB931_944.out _; (with_reducible repeat (first | refine blk_drewN ?_ _ | refine blk_drew ?_ | refine blk_alloc ?_ _)); refine blk_far ?_ NB931_944.out _; (with_reducible repeat (first | refine blk_drewN ?_ _ | refine blk_drew ?_ | refine blk_alloc ?_ _)); refine blk_far ?_ NB931_944.out _; (with_reducible repeat (first | refine blk_drewN ?_ _ | refine blk_drew ?_ | refine blk_alloc ?_ _)); refine blk_far ?_ NB931_944.out _; (with_reducible repeat (first | refine blk_drewN ?_ _ | refine blk_drew ?_ | refine blk_alloc ?_ _)); refine blk_far ?_ NB931_944.out _; (with_reducible repeat (first | refine blk_drewN ?_ _ | refine blk_drew ?_ | refine blk_alloc ?_ _)); exact BK931.out) hb); have n4_ := Aside0.mk (blk_below (g := gb937) (o := .cells #[.int .i64 t932, .int .i64 t933, .slice Ao29 t934.length co29] 41 (0, 0)) (by (with_reducible repeat (first | refine blk_drewN ?_ _ | refine blk_drew ?_ | refine blk_alloc ?_ _)); refine blk_far ?_ NB937_944.out _; (with_reducible repeat (first | refine blk_drewN ?_ _ | refine blk_drew ?_ | refine blk_alloc ?_ _)); refine blk_far ?_ NB937_944.out _; (with_reducible repeat (first | refine blk_drewN ?_ _ | refine blk_drew ?_ | refine blk_alloc ?_ _)); refine blk_far ?_ NB937_944.out _; (with_reducible repeat (first | refine blk_drewN ?_ _ | refine blk_drew ?_ | refine blk_alloc ?_ _)); refine blk_far ?_ NB937_944.out _; (with_reducible repeat (first | refine blk_drewN ?_ _ | refine blk_drew ?_ | refine blk_alloc ?_ _)); refine blk_far ?_ NB937_944.out _; (with_reducible repeat (first | refine blk_drewN ?_ _ | refine blk_drew ?_ | refine blk_alloc ?_ _)); exact BK937.out) hb); have n5_ := Aside0.mk (blk_below (g := gb944) (o := .cells #[.int .i64 t938, .string t939, .string t940, .int .i64 t941, .int .i64 t942] 36 (0, 0)) (by (with_reducible repeat (first | refine blk_drewN ?_ _ | refine blk_drew ?_ | refine blk_alloc ?_ _)); refine blk_put (cs := #[.int .i64 t938, .string t939, .string t940, .int .i64 t941, .int .i64 0]) ?_ 4 _ rfl; (with_reducible repeat (first | refine blk_drewN ?_ _ | refine blk_drew ?_ | refine blk_alloc ?_ _)); refine blk_put (cs := #[.int .i64 t938, .string t939, .string t940, .int .i64 0, .int .i64 0]) ?_ 3 _ rfl; (with_reducible repeat (first | refine blk_drewN ?_ _ | refine blk_drew ?_ | refine blk_alloc ?_ _)); refine blk_put (cs := #[.int .i64 t938, .string t939, .string (⟨#[]⟩ : ByteArray), .int .i64 0, .int .i64 0]) ?_ 2 _ rfl; (with_reducible repeat (first | refine blk_drewN ?_ _ | refine blk_drew ?_ | refine blk_alloc ?_ _)); refine blk_put (cs := #[.int .i64 t938, .string (⟨#[]⟩ : ByteArray), .string (⟨#[]⟩ : ByteArray), .int .i64 0, .int .i64 0]) ?_ 1 _ rfl; (with_reducible repeat (first | refine blk_drewN ?_ _ | refine blk_drew ?_ | refine blk_alloc ?_ _)); refine blk_put (cs := #[.int .i64 0, .string (⟨#[]⟩ : ByteArray), .string (⟨#[]⟩ : ByteArray), .int .i64 0, .int .i64 0]) ?_ 0 _ rfl; (with_reducible repeat (first | refine blk_drewN ?_ _ | refine blk_drew ?_ | refine blk_alloc ?_ _)); exact BK944.out) hb); have n6_ := Aside0.mk (below_step (by repeat (first | (with_reducible first | exact HB.out | apply below_alloc | apply pw_below_drewN | apply below_drew1 | refine below_set ?_ GE918.out | refine below_set ?_ GE931.out | refine below_set ?_ GE937.out | refine below_set ?_ GE944.out) | exact HB.out)) hb); clear HO924; clear HO936; clear BK918; clear BK931; clear BK937; clear BK944; clear HB; have HO924 := n0_; have HO936 := n1_; have BK918 := n2_; have BK931 := n3_; have BK937 := n4_; have BK944 := n5_; have HB := n6_; clear n0_ n1_ n2_ n3_ n4_ n5_ n6_; (try clear hb); (try clear hb2); (try clear hk); (try clear hi)))
        go_meet
        case rel => exact ⟨_, (true), (by first | rfl | (simp; done) | (simp [*]; done)), H', ⟨by first | omega | exact Nat.le_refl _⟩, ⟨by (with_reducible repeat (first | apply Kd.R_alloc | apply Kd.R_drewN | apply Kd.R_drew)); exact Kd.R_mono HO936.out (fun _ hk => ⟨hk.1.2, hk.2⟩)⟩, ⟨by (with_reducible repeat (first | refine blk_drewN ?_ _ | refine blk_drew ?_ | refine blk_alloc ?_ _)); exact BK918.out⟩, ⟨by (with_reducible repeat (first | refine blk_drewN ?_ _ | refine blk_drew ?_ | refine blk_alloc ?_ _)); exact BK931.out⟩, ⟨by (with_reducible repeat (first | refine blk_drewN ?_ _ | refine blk_drew ?_ | refine blk_alloc ?_ _)); exact BK937.out⟩, ⟨by (with_reducible repeat (first | refine blk_drewN ?_ _ | refine blk_drew ?_ | refine blk_alloc ?_ _)); exact BK944.out⟩, ⟨by repeat (first | (with_reducible first | exact HB.out | apply below_alloc | apply pw_below_drewN | apply below_drew1 | refine below_set ?_ GE918.out | refine below_set ?_ GE931.out | refine below_set ?_ GE937.out | refine below_set ?_ GE944.out) | exact HB.out)⟩⟩
    case rest =>
      clear HC12
      try clear c2
      try clear p2
      try clear c3
      try clear c4
      try clear c4b0
      try clear c5
      try clear c6
      try clear c20
      try clear c21
      try clear c22
      try clear c24
      try clear c26
      try clear c27
      try clear c31
      try clear c32
      try clear c33
      try clear c34
      try clear c37
      try clear c38
      try clear c39
      try clear c40
      try clear c42
      try clear c43
      try clear c46
      try clear c47
      try clear c48
      try clear c50
      try clear c51
      try clear hcz14_0
      try clear hcz14_1
      try clear hcz14_2
      try clear hcz16_0
      try clear hcz16_1
      try clear hcz16_2
      try clear hcz22_0
      try clear hcz22_1
      try clear hcz22_2
      try clear hcz22_3
      try clear hcz22_4
      try clear hcz23_0
      try clear hcz23_1
      try clear hcz23_2
      try clear hcz28_0
      try clear hcz28_1
      try clear hcz28_2
      try clear hcz35_0
      try clear hcz35_1
      try clear hcz35_2
      try clear hcz35_3
      try clear hcz35_4
      try clear hcz41_0
      try clear hcz41_1
      try clear hcz41_2
      try clear hcz41_3
      try clear hcz41_4
      try clear hcz44_0
      try clear hcz44_1
      try clear hcz44_2
      try clear hcz44_3
      try clear hcz44_4
      try clear hcz49_0
      try clear hcz49_1
      try clear hcz49_2
      try clear hcz49_3
      try clear hcz49_4
      try clear hcz52_0
      try clear hcz52_1
      try clear hcz52_2
      try clear hcz52_3
      try clear hcz52_4
      try clear hcz6_0
      try clear hcz6_1
      try clear hcz6_2
      try clear hfz14_0
      try clear hfz14_1
      try clear hfz14_2
      try clear hfz16_0
      try clear hfz16_1
      try clear hfz16_2
      try clear hfz22_0
      try clear hfz22_1
      try clear hfz22_2
      try clear hfz22_3
      try clear hfz22_4
      try clear hfz23_0
      try clear hfz23_1
      try clear hfz23_2
      try clear hfz28_0
      try clear hfz28_1
      try clear hfz28_2
      try clear hfz35_0
      try clear hfz35_1
      try clear hfz35_2
      try clear hfz35_3
      try clear hfz35_4
      try clear hfz41_0
      try clear hfz41_1
      try clear hfz41_2
      try clear hfz41_3
      try clear hfz41_4
      try clear hfz44_0
      try clear hfz44_1
      try clear hfz44_2
      try clear hfz44_3
      try clear hfz44_4
      try clear hfz49_0
      try clear hfz49_1
      try clear hfz49_2
      try clear hfz49_3
      try clear hfz49_4
      try clear hfz52_0
      try clear hfz52_1
      try clear hfz52_2
      try clear hfz52_3
      try clear hfz52_4
      try clear hfz6_0
      try clear hfz6_1
      try clear hfz6_2
      obtain ⟨kq, x39_11, rfl, HA, HJ11, HO_938002, BK918, BK931, BK937, BK944, HB⟩ := hcut
      cases kq with
      | zero => exact absurd HA.out (by simp [laws_FnExactRowGet.j0])
      | succ kj11 =>
        have H := HA.out
        clear HA
        simp only [laws_FnExactRowGet.j0] at H
        by_cases c54 : x39_11 = true
        · subst c54
          have H1 : (some false) = some r := by rw [if_pos rfl] at H; exact H
          clear H
          have H := H1
          clear H1
          obtain rfl := Option.some.inj H
          go_wp2
          go_ret
          exact ⟨by first | rfl | (simp [errW_none, errW_some] <;> rfl) | (simp [*, errW_none, errW_some] <;> rfl), by repeat (first | (with_reducible first | exact HB.out | apply below_alloc | apply pw_below_drewN | apply below_drew1 | refine below_set ?_ GE918.out | refine below_set ?_ GE931.out | refine below_set ?_ GE937.out | refine below_set ?_ GE944.out) | exact HB.out)⟩
        · replace c54 := Bool.eq_false_iff.mpr c54
          subst c54
          have H1 : ((laws_toRow.f kj11 a0_0 a0_1 l0_2).bind fun bt946 => ((laws_eqRow.f kj11 t932 t933 t934 bt946.1 bt946.2.1 bt946.2.2).bind fun t951 => (if t951 = true then (some true) else (some false)))) = some r := by rw [if_neg (show ¬ (false = true) by decide)] at H; exact H
          clear H
          have H := H1
          clear H1
          replace H := Option.bind_eq_some_iff.mp H
          obtain ⟨⟨t946, t947, t948⟩, A550, H⟩ := H
          replace H : ((laws_eqRow.f kj11 t932 t933 t934 t946 t947 t948).bind fun t951 => (if t951 = true then (some true) else (some false))) = some r := H
          have A55 := Aside0.mk A550
          clear A550
          replace H := Option.bind_eq_some_iff.mp H
          obtain ⟨t951, A560, H⟩ := H
          replace H : (if t951 = true then (some true) else (some false)) = some r := H
          have A56 := Aside0.mk A560
          clear A560
          by_cases c57 : t951 = true
          · subst c57
            have H1 : (some true) = some r := by rw [if_pos rfl] at H; exact H
            clear H
            have H := H1
            clear H1
            obtain rfl := Option.some.inj H
            try go_wp2
            have n0_ := Aside0.mk (Kd.R_drew HO_938002.out)
            have n1_ := Aside0.mk (blk_drew BK918.out)
            have n2_ := Aside0.mk (blk_drew BK931.out)
            have n3_ := Aside0.mk (blk_drew BK937.out)
            have n4_ := Aside0.mk (blk_drew BK944.out)
            have n5_ := Aside0.mk (below_drew1 HB.out)
            clear HO_938002
            clear BK918
            clear BK931
            clear BK937
            clear BK944
            clear HB
            have HO_938002 := n0_
            have BK918 := n1_
            have BK931 := n2_
            have BK937 := n3_
            have BK944 := n4_
            have HB := n5_
            clear n0_ n1_ n2_ n3_ n4_ n5_
            refine start_ (n := 5) (S := fun w' => w'.cell? ⟨gb937, 0, none⟩ = some (.int .i64 t932) ∧ w'.cell? ⟨gb937, 1, none⟩ = some (.int .i64 t933) ∧ w'.cell? ⟨gb937, 2, none⟩ = some (.slice Ao29 t934.length co29) ∧ w'.cell? ⟨gb918, 0, none⟩ = some (.int .i64 a0_0) ∧ w'.cell? ⟨gb918, 1, none⟩ = some (.int .i64 a0_1) ∧ w'.cell? ⟨gb918, 2, none⟩ = some (.slice A0_2 l0_2.length c0_2)) (ds := []) #[false, false, false, false, false] (by kernel_rfl) rfl rfl ⟨(blk_cell BK937.out 0).trans rfl, (blk_cell BK937.out 1).trans rfl, (blk_cell BK937.out 2).trans rfl, (blk_cell BK918.out 0).trans rfl, (blk_cell BK918.out 1).trans rfl, (blk_cell BK918.out 2).trans rfl⟩ (fun hHeld => ?_)
            generalize wc.drew = w58 at HO_938002 BK918 BK931 BK937 BK944 HB hHeld ⊢
            refine take_ (i := 0) (N := some 40) (v := ?_) (a' := ?_) #[true, false, false, false, false] rfl rfl (by kernel_rfl) (fun _ _ _ h => h) (Or.inl ⟨by rfl, ?_⟩) hHeld ?_ ?_
            rotate_left
            · rintro w' ⟨s0, s1, s2, s3, s4, s5⟩
              go_simp
              with_reducible rfl
            rotate_left
            · simp only [Act.put, List.setIfInBounds_toArray, List.set_cons_zero, List.set_cons_succ, i64_w, i32_w]
              rfl
            refine take_ (i := 1) (N := some 41) (v := ?_) (a' := ?_) #[true, true, false, false, false] rfl rfl (by kernel_rfl) (fun _ _ _ h => h) (Or.inl ⟨by rfl, ?_⟩) hHeld ?_ ?_
            rotate_left
            · rintro w' ⟨s0, s1, s2, s3, s4, s5⟩
              go_simp
              with_reducible rfl
            rotate_left
            · simp only [Act.put, List.setIfInBounds_toArray, List.set_cons_zero, List.set_cons_succ, i64_w, i32_w]
              rfl
            refine one_ (i := 2) (N := some 42) #[true, true, true, false, false] rfl rfl (by kernel_rfl) (by decide) (fun K hK => ?_)
            refine goes_ Try.func22 (by kernel_rfl) rfl #[.agg #[.int .i64 a0_0, .int .i64 a0_1, .slice A0_2 l0_2.length c0_2]] (by rfl) rfl rfl (by (try simp only [List.map_toArray, List.map_cons, List.map_nil]); first | done | rfl | (simp only [List.length_drop, List.length_take]; rfl)) ?_
            with_reducible refine (laws_toRow.calls kj11 a0_0 a0_1 _ _ l0_2 t946 t947 t948 _ ?side1 ?side2 A55.out).mono ?_
            (case side1 => repeat (first | exact (Kd.C_below HR0_2.out HB.out) | (with_reducible refine Kd.C_alloc ?_ _) | (with_reducible refine Kd.C_drewN ?_ _) | (with_reducible refine Kd.C_drew ?_)))
            (case side2 => exact HC0_2.out)
            rintro e w59 ⟨v949, rfl, ho0, hb⟩
            refine ⟨_, rfl, ?_⟩
            have n0_ := Aside0.mk (Kd.R_elder' (by (with_reducible repeat (first | apply Kd.R_alloc | apply Kd.R_drewN | apply Kd.R_drew)); exact HO_938002.out) (Kd.R_base ho0) hb)
            have n1_ := Aside0.mk (Kd.R_lower (Kd.R_newB (Kd.R_newB (Kd.R_new' ho0 (Kd.R_lt (by (with_reducible repeat (first | apply Kd.R_alloc | apply Kd.R_drewN | apply Kd.R_drew)); exact HO_938002.out))) (g := gb931) (o := .cells #[.int .i64 t925, .string t926, .string t927, .int .i64 t928, .int .i64 t929] 36 (0, 0)) (by (with_reducible repeat (first | refine blk_drewN ?_ _ | refine blk_drew ?_ | refine blk_alloc ?_ _)); exact BK931.out)) (g := gb944) (o := .cells #[.int .i64 t938, .string t939, .string t940, .int .i64 t941, .int .i64 t942] 36 (0, 0)) (by (with_reducible repeat (first | refine blk_drewN ?_ _ | refine blk_drew ?_ | refine blk_alloc ?_ _)); exact BK944.out)) (below_size (by repeat (first | (with_reducible first | exact HB.out | apply below_alloc | apply pw_below_drewN | apply below_drew1 | refine below_set ?_ GE918.out | refine below_set ?_ GE931.out | refine below_set ?_ GE937.out | refine below_set ?_ GE944.out) | exact HB.out))))
            have n2_ := Aside0.mk (blk_below (g := gb918) (o := .cells #[.int .i64 a0_0, .int .i64 a0_1, .slice A0_2 l0_2.length c0_2] 33 (0, 0)) (by (with_reducible repeat (first | refine blk_drewN ?_ _ | refine blk_drew ?_ | refine blk_alloc ?_ _)); exact BK918.out) hb)
            have n3_ := Aside0.mk (blk_below (g := gb931) (o := .cells #[.int .i64 t925, .string t926, .string t927, .int .i64 t928, .int .i64 t929] 36 (0, 0)) (by (with_reducible repeat (first | refine blk_drewN ?_ _ | refine blk_drew ?_ | refine blk_alloc ?_ _)); exact BK931.out) hb)
            have n4_ := Aside0.mk (blk_below (g := gb937) (o := .cells #[.int .i64 t932, .int .i64 t933, .slice Ao29 t934.length co29] 41 (0, 0)) (by (with_reducible repeat (first | refine blk_drewN ?_ _ | refine blk_drew ?_ | refine blk_alloc ?_ _)); exact BK937.out) hb)
            have n5_ := Aside0.mk (blk_below (g := gb944) (o := .cells #[.int .i64 t938, .string t939, .string t940, .int .i64 t941, .int .i64 t942] 36 (0, 0)) (by (with_reducible repeat (first | refine blk_drewN ?_ _ | refine blk_drew ?_ | refine blk_alloc ?_ _)); exact BK944.out) hb)
            have n6_ := Aside0.mk (below_step (by repeat (first | (with_reducible first | exact HB.out | apply below_alloc | apply pw_below_drewN | apply below_drew1 | refine below_set ?_ GE918.out | refine below_set ?_ GE931.out | refine below_set ?_ GE937.out | refine below_set ?_ GE944.out) | exact HB.out)) hb)
            clear HO_938002
            clear BK918
            clear BK931
            clear BK937
            clear BK944
            clear HB
            have HO_938002 := n0_
            have HO950 := n1_
            have BK918 := n2_
            have BK931 := n3_
            have BK937 := n4_
            have BK944 := n5_
            have HB := n6_
            clear n0_ n1_ n2_ n3_ n4_ n5_ n6_
            (try clear hb)
            (try clear hb2)
            (try clear hk)
            (try clear hi)
            (try clear ho0)
            obtain ⟨Ao60, co60, eo60⟩ := Kd.R_slice HO950.out
            (first | subst eo60 | (injection eo60 with f1_ f2_ f3_; have f4_ := f1_.symm; have f5_ := f3_.symm; clear f1_ f2_ f3_; subst f4_; subst f5_))
            refine hK.out _ _ ⟨(blk_cell BK937.out 0).trans rfl, (blk_cell BK937.out 1).trans rfl, (blk_cell BK937.out 2).trans rfl, (blk_cell BK918.out 0).trans rfl, (blk_cell BK918.out 1).trans rfl, (blk_cell BK918.out 2).trans rfl⟩ (fun hHeld => ?_)
            clear hK K
            refine norm_ (a' := ?_) ?_ ?_
            rotate_left
            · show Act.put _ (some 42) _ = _
              simp only [Act.put, List.setIfInBounds_toArray, List.set_cons_zero, List.set_cons_succ, i64_w, i32_w]
              rfl
            refine one_ (i := 3) (N := some 43) #[true, true, true, true, false] rfl rfl (by kernel_rfl) (by decide) (fun K hK => ?_)
            refine goes_ Try.func25 (by kernel_rfl) rfl #[.agg #[.int .i64 t932, .int .i64 t933, .slice Ao29 t934.length co29], .agg #[.int .i64 t946, .int .i64 t947, .slice Ao60 t948.length co60]] (by rfl) rfl rfl (by (try simp only [List.map_toArray, List.map_cons, List.map_nil]); first | done | rfl | (simp only [List.length_drop, List.length_take]; rfl)) ?_
            with_reducible refine (laws_eqRow.calls kj11 t932 t933 _ _ t934 t946 t947 _ _ t948 true _ ?side1 ?side2 ?side3 ?side4 A56.out).mono ?_
            (case side1 => repeat (first | exact (Kd.R_reads' HO_938002.out).2.2 | (with_reducible refine Kd.C_alloc ?_ _) | (with_reducible refine Kd.C_drewN ?_ _) | (with_reducible refine Kd.C_drew ?_)))
            (case side2 => exact (Kd.R_reads' HO_938002.out).2.1)
            (case side3 => repeat (first | exact (Kd.R_reads' HO950.out).2.2 | (with_reducible refine Kd.C_alloc ?_ _) | (with_reducible refine Kd.C_drewN ?_ _) | (with_reducible refine Kd.C_drew ?_)))
            (case side4 => exact (Kd.R_reads' HO950.out).2.1)
            rintro e w61 ⟨rfl, hb⟩
            refine ⟨_, rfl, ?_⟩
            have n0_ := Aside0.mk (Kd.R_below (by (with_reducible repeat (first | apply Kd.R_alloc | apply Kd.R_drewN | apply Kd.R_drew)); exact HO_938002.out) hb)
            have n1_ := Aside0.mk (Kd.R_below (by (with_reducible repeat (first | apply Kd.R_alloc | apply Kd.R_drewN | apply Kd.R_drew)); exact HO950.out) hb)
            have n2_ := Aside0.mk (blk_below (g := gb918) (o := .cells #[.int .i64 a0_0, .int .i64 a0_1, .slice A0_2 l0_2.length c0_2] 33 (0, 0)) (by (with_reducible repeat (first | refine blk_drewN ?_ _ | refine blk_drew ?_ | refine blk_alloc ?_ _)); exact BK918.out) hb)
            have n3_ := Aside0.mk (blk_below (g := gb931) (o := .cells #[.int .i64 t925, .string t926, .string t927, .int .i64 t928, .int .i64 t929] 36 (0, 0)) (by (with_reducible repeat (first | refine blk_drewN ?_ _ | refine blk_drew ?_ | refine blk_alloc ?_ _)); exact BK931.out) hb)
            have n4_ := Aside0.mk (blk_below (g := gb937) (o := .cells #[.int .i64 t932, .int .i64 t933, .slice Ao29 t934.length co29] 41 (0, 0)) (by (with_reducible repeat (first | refine blk_drewN ?_ _ | refine blk_drew ?_ | refine blk_alloc ?_ _)); exact BK937.out) hb)
            have n5_ := Aside0.mk (blk_below (g := gb944) (o := .cells #[.int .i64 t938, .string t939, .string t940, .int .i64 t941, .int .i64 t942] 36 (0, 0)) (by (with_reducible repeat (first | refine blk_drewN ?_ _ | refine blk_drew ?_ | refine blk_alloc ?_ _)); exact BK944.out) hb)
            have n6_ := Aside0.mk (below_step (by repeat (first | (with_reducible first | exact HB.out | apply below_alloc | apply pw_below_drewN | apply below_drew1 | refine below_set ?_ GE918.out | refine below_set ?_ GE931.out | refine below_set ?_ GE937.out | refine below_set ?_ GE944.out) | exact HB.out)) hb)
            clear HO_938002
            clear HO950
            clear BK918
            clear BK931
            clear BK937
            clear BK944
            clear HB
            have HO_938002 := n0_
            have HO950 := n1_
            have BK918 := n2_
            have BK931 := n3_
            have BK937 := n4_
            have BK944 := n5_
            have HB := n6_
            clear n0_ n1_ n2_ n3_ n4_ n5_ n6_
            (try clear hb)
            (try clear hb2)
            (try clear hk)
            (try clear hi)
            refine hK.out _ _ ⟨(blk_cell BK937.out 0).trans rfl, (blk_cell BK937.out 1).trans rfl, (blk_cell BK937.out 2).trans rfl, (blk_cell BK918.out 0).trans rfl, (blk_cell BK918.out 1).trans rfl, (blk_cell BK918.out 2).trans rfl⟩ (fun hHeld => ?_)
            clear hK K
            refine norm_ (a' := ?_) ?_ ?_
            rotate_left
            · show Act.put _ (some 43) _ = _
              simp only [Act.put, List.setIfInBounds_toArray, List.set_cons_zero, List.set_cons_succ, i64_w, i32_w]
              rfl
            refine pure_ (i := 4) (N := some 44) (v := ?_) (a' := ?_) #[true, true, true, true, true] rfl rfl (by kernel_rfl) (fun _ _ _ h => h) (Or.inl ⟨by rfl, ?_⟩) ?_ ?_
            rotate_left
            · intro w'
              go_simp
              with_reducible rfl
            rotate_left
            · simp only [Act.put, List.setIfInBounds_toArray, List.set_cons_zero, List.set_cons_succ, i64_w, i32_w]
              rfl
            refine done_ (by kernel_rfl) ?_
            try go_wp2
            go_ret
            exact ⟨by first | rfl | (simp [errW_none, errW_some] <;> rfl) | (simp [*, errW_none, errW_some] <;> rfl), by repeat (first | (with_reducible first | exact HB.out | apply below_alloc | apply pw_below_drewN | apply below_drew1 | refine below_set ?_ GE918.out | refine below_set ?_ GE931.out | refine below_set ?_ GE937.out | refine below_set ?_ GE944.out) | exact HB.out)⟩
          · replace c57 := Bool.eq_false_iff.mpr c57
            subst c57
            have H1 : (some false) = some r := by rw [if_neg (show ¬ (false = true) by decide)] at H; exact H
            clear H
            have H := H1
            clear H1
            obtain rfl := Option.some.inj H
            try go_wp2
            have n0_ := Aside0.mk (Kd.R_drew HO_938002.out)
            have n1_ := Aside0.mk (blk_drew BK918.out)
            have n2_ := Aside0.mk (blk_drew BK931.out)
            have n3_ := Aside0.mk (blk_drew BK937.out)
            have n4_ := Aside0.mk (blk_drew BK944.out)
            have n5_ := Aside0.mk (below_drew1 HB.out)
            clear HO_938002
            clear BK918
            clear BK931
            clear BK937
            clear BK944
            clear HB
            have HO_938002 := n0_
            have BK918 := n1_
            have BK931 := n2_
            have BK937 := n3_
            have BK944 := n4_
            have HB := n5_
            clear n0_ n1_ n2_ n3_ n4_ n5_
            refine start_ (n := 5) (S := fun w' => w'.cell? ⟨gb937, 0, none⟩ = some (.int .i64 t932) ∧ w'.cell? ⟨gb937, 1, none⟩ = some (.int .i64 t933) ∧ w'.cell? ⟨gb937, 2, none⟩ = some (.slice Ao29 t934.length co29) ∧ w'.cell? ⟨gb918, 0, none⟩ = some (.int .i64 a0_0) ∧ w'.cell? ⟨gb918, 1, none⟩ = some (.int .i64 a0_1) ∧ w'.cell? ⟨gb918, 2, none⟩ = some (.slice A0_2 l0_2.length c0_2)) (ds := []) #[false, false, false, false, false] (by kernel_rfl) rfl rfl ⟨(blk_cell BK937.out 0).trans rfl, (blk_cell BK937.out 1).trans rfl, (blk_cell BK937.out 2).trans rfl, (blk_cell BK918.out 0).trans rfl, (blk_cell BK918.out 1).trans rfl, (blk_cell BK918.out 2).trans rfl⟩ (fun hHeld => ?_)
            generalize wc.drew = w62 at HO_938002 BK918 BK931 BK937 BK944 HB hHeld ⊢
            refine take_ (i := 0) (N := some 40) (v := ?_) (a' := ?_) #[true, false, false, false, false] rfl rfl (by kernel_rfl) (fun _ _ _ h => h) (Or.inl ⟨by rfl, ?_⟩) hHeld ?_ ?_
            rotate_left
            · rintro w' ⟨s0, s1, s2, s3, s4, s5⟩
              go_simp
              with_reducible rfl
            rotate_left
            · simp only [Act.put, List.setIfInBounds_toArray, List.set_cons_zero, List.set_cons_succ, i64_w, i32_w]
              rfl
            refine take_ (i := 1) (N := some 41) (v := ?_) (a' := ?_) #[true, true, false, false, false] rfl rfl (by kernel_rfl) (fun _ _ _ h => h) (Or.inl ⟨by rfl, ?_⟩) hHeld ?_ ?_
            rotate_left
            · rintro w' ⟨s0, s1, s2, s3, s4, s5⟩
              go_simp
              with_reducible rfl
            rotate_left
            · simp only [Act.put, List.setIfInBounds_toArray, List.set_cons_zero, List.set_cons_succ, i64_w, i32_w]
              rfl
            refine one_ (i := 2) (N := some 42) #[true, true, true, false, false] rfl rfl (by kernel_rfl) (by decide) (fun K hK => ?_)
            refine goes_ Try.func22 (by kernel_rfl) rfl #[.agg #[.int .i64 a0_0, .int .i64 a0_1, .slice A0_2 l0_2.length c0_2]] (by rfl) rfl rfl (by (try simp only [List.map_toArray, List.map_cons, List.map_nil]); first | done | rfl | (simp only [List.length_drop, List.length_take]; rfl)) ?_
            with_reducible refine (laws_toRow.calls kj11 a0_0 a0_1 _ _ l0_2 t946 t947 t948 _ ?side1 ?side2 A55.out).mono ?_
            (case side1 => repeat (first | exact (Kd.C_below HR0_2.out HB.out) | (with_reducible refine Kd.C_alloc ?_ _) | (with_reducible refine Kd.C_drewN ?_ _) | (with_reducible refine Kd.C_drew ?_)))
            (case side2 => exact HC0_2.out)
            rintro e w63 ⟨v949, rfl, ho0, hb⟩
            refine ⟨_, rfl, ?_⟩
            have n0_ := Aside0.mk (Kd.R_elder' (by (with_reducible repeat (first | apply Kd.R_alloc | apply Kd.R_drewN | apply Kd.R_drew)); exact HO_938002.out) (Kd.R_base ho0) hb)
            have n1_ := Aside0.mk (Kd.R_lower (Kd.R_newB (Kd.R_newB (Kd.R_new' ho0 (Kd.R_lt (by (with_reducible repeat (first | apply Kd.R_alloc | apply Kd.R_drewN | apply Kd.R_drew)); exact HO_938002.out))) (g := gb931) (o := .cells #[.int .i64 t925, .string t926, .string t927, .int .i64 t928, .int .i64 t929] 36 (0, 0)) (by (with_reducible repeat (first | refine blk_drewN ?_ _ | refine blk_drew ?_ | refine blk_alloc ?_ _)); exact BK931.out)) (g := gb944) (o := .cells #[.int .i64 t938, .string t939, .string t940, .int .i64 t941, .int .i64 t942] 36 (0, 0)) (by (with_reducible repeat (first | refine blk_drewN ?_ _ | refine blk_drew ?_ | refine blk_alloc ?_ _)); exact BK944.out)) (below_size (by repeat (first | (with_reducible first | exact HB.out | apply below_alloc | apply pw_below_drewN | apply below_drew1 | refine below_set ?_ GE918.out | refine below_set ?_ GE931.out | refine below_set ?_ GE937.out | refine below_set ?_ GE944.out) | exact HB.out))))
            have n2_ := Aside0.mk (blk_below (g := gb918) (o := .cells #[.int .i64 a0_0, .int .i64 a0_1, .slice A0_2 l0_2.length c0_2] 33 (0, 0)) (by (with_reducible repeat (first | refine blk_drewN ?_ _ | refine blk_drew ?_ | refine blk_alloc ?_ _)); exact BK918.out) hb)
            have n3_ := Aside0.mk (blk_below (g := gb931) (o := .cells #[.int .i64 t925, .string t926, .string t927, .int .i64 t928, .int .i64 t929] 36 (0, 0)) (by (with_reducible repeat (first | refine blk_drewN ?_ _ | refine blk_drew ?_ | refine blk_alloc ?_ _)); exact BK931.out) hb)
            have n4_ := Aside0.mk (blk_below (g := gb937) (o := .cells #[.int .i64 t932, .int .i64 t933, .slice Ao29 t934.length co29] 41 (0, 0)) (by (with_reducible repeat (first | refine blk_drewN ?_ _ | refine blk_drew ?_ | refine blk_alloc ?_ _)); exact BK937.out) hb)
            have n5_ := Aside0.mk (blk_below (g := gb944) (o := .cells #[.int .i64 t938, .string t939, .string t940, .int .i64 t941, .int .i64 t942] 36 (0, 0)) (by (with_reducible repeat (first | refine blk_drewN ?_ _ | refine blk_drew ?_ | refine blk_alloc ?_ _)); exact BK944.out) hb)
            have n6_ := Aside0.mk (below_step (by repeat (first | (with_reducible first | exact HB.out | apply below_alloc | apply pw_below_drewN | apply below_drew1 | refine below_set ?_ GE918.out | refine below_set ?_ GE931.out | refine below_set ?_ GE937.out | refine below_set ?_ GE944.out) | exact HB.out)) hb)
            clear HO_938002
            clear BK918
            clear BK931
            clear BK937
            clear BK944
            clear HB
            have HO_938002 := n0_
            have HO950 := n1_
            have BK918 := n2_
            have BK931 := n3_
            have BK937 := n4_
            have BK944 := n5_
            have HB := n6_
            clear n0_ n1_ n2_ n3_ n4_ n5_ n6_
            (try clear hb)
            (try clear hb2)
            (try clear hk)
            (try clear hi)
            (try clear ho0)
            obtain ⟨Ao64, co64, eo64⟩ := Kd.R_slice HO950.out
            (first | subst eo64 | (injection eo64 with f1_ f2_ f3_; have f4_ := f1_.symm; have f5_ := f3_.symm; clear f1_ f2_ f3_; subst f4_; subst f5_))
            refine hK.out _ _ ⟨(blk_cell BK937.out 0).trans rfl, (blk_cell BK937.out 1).trans rfl, (blk_cell BK937.out 2).trans rfl, (blk_cell BK918.out 0).trans rfl, (blk_cell BK918.out 1).trans rfl, (blk_cell BK918.out 2).trans rfl⟩ (fun hHeld => ?_)
            clear hK K
            refine norm_ (a' := ?_) ?_ ?_
            rotate_left
            · show Act.put _ (some 42) _ = _
              simp only [Act.put, List.setIfInBounds_toArray, List.set_cons_zero, List.set_cons_succ, i64_w, i32_w]
              rfl
            refine one_ (i := 3) (N := some 43) #[true, true, true, true, false] rfl rfl (by kernel_rfl) (by decide) (fun K hK => ?_)
            refine goes_ Try.func25 (by kernel_rfl) rfl #[.agg #[.int .i64 t932, .int .i64 t933, .slice Ao29 t934.length co29], .agg #[.int .i64 t946, .int .i64 t947, .slice Ao64 t948.length co64]] (by rfl) rfl rfl (by (try simp only [List.map_toArray, List.map_cons, List.map_nil]); first | done | rfl | (simp only [List.length_drop, List.length_take]; rfl)) ?_
            with_reducible refine (laws_eqRow.calls kj11 t932 t933 _ _ t934 t946 t947 _ _ t948 false _ ?side1 ?side2 ?side3 ?side4 A56.out).mono ?_
            (case side1 => repeat (first | exact (Kd.R_reads' HO_938002.out).2.2 | (with_reducible refine Kd.C_alloc ?_ _) | (with_reducible refine Kd.C_drewN ?_ _) | (with_reducible refine Kd.C_drew ?_)))
            (case side2 => exact (Kd.R_reads' HO_938002.out).2.1)
            (case side3 => repeat (first | exact (Kd.R_reads' HO950.out).2.2 | (with_reducible refine Kd.C_alloc ?_ _) | (with_reducible refine Kd.C_drewN ?_ _) | (with_reducible refine Kd.C_drew ?_)))
            (case side4 => exact (Kd.R_reads' HO950.out).2.1)
            rintro e w65 ⟨rfl, hb⟩
            refine ⟨_, rfl, ?_⟩
            have n0_ := Aside0.mk (Kd.R_below (by (with_reducible repeat (first | apply Kd.R_alloc | apply Kd.R_drewN | apply Kd.R_drew)); exact HO_938002.out) hb)
            have n1_ := Aside0.mk (Kd.R_below (by (with_reducible repeat (first | apply Kd.R_alloc | apply Kd.R_drewN | apply Kd.R_drew)); exact HO950.out) hb)
            have n2_ := Aside0.mk (blk_below (g := gb918) (o := .cells #[.int .i64 a0_0, .int .i64 a0_1, .slice A0_2 l0_2.length c0_2] 33 (0, 0)) (by (with_reducible repeat (first | refine blk_drewN ?_ _ | refine blk_drew ?_ | refine blk_alloc ?_ _)); exact BK918.out) hb)
            have n3_ := Aside0.mk (blk_below (g := gb931) (o := .cells #[.int .i64 t925, .string t926, .string t927, .int .i64 t928, .int .i64 t929] 36 (0, 0)) (by (with_reducible repeat (first | refine blk_drewN ?_ _ | refine blk_drew ?_ | refine blk_alloc ?_ _)); exact BK931.out) hb)
            have n4_ := Aside0.mk (blk_below (g := gb937) (o := .cells #[.int .i64 t932, .int .i64 t933, .slice Ao29 t934.length co29] 41 (0, 0)) (by (with_reducible repeat (first | refine blk_drewN ?_ _ | refine blk_drew ?_ | refine blk_alloc ?_ _)); exact BK937.out) hb)
            have n5_ := Aside0.mk (blk_below (g := gb944) (o := .cells #[.int .i64 t938, .string t939, .string t940, .int .i64 t941, .int .i64 t942] 36 (0, 0)) (by (with_reducible repeat (first | refine blk_drewN ?_ _ | refine blk_drew ?_ | refine blk_alloc ?_ _)); exact BK944.out) hb)
            have n6_ := Aside0.mk (below_step (by repeat (first | (with_reducible first | exact HB.out | apply below_alloc | apply pw_below_drewN | apply below_drew1 | refine below_set ?_ GE918.out | refine below_set ?_ GE931.out | refine below_set ?_ GE937.out | refine below_set ?_ GE944.out) | exact HB.out)) hb)
            clear HO_938002
            clear HO950
            clear BK918
            clear BK931
            clear BK937
            clear BK944
            clear HB
            have HO_938002 := n0_
            have HO950 := n1_
            have BK918 := n2_
            have BK931 := n3_
            have BK937 := n4_
            have BK944 := n5_
            have HB := n6_
            clear n0_ n1_ n2_ n3_ n4_ n5_ n6_
            (try clear hb)
            (try clear hb2)
            (try clear hk)
            (try clear hi)
            refine hK.out _ _ ⟨(blk_cell BK937.out 0).trans rfl, (blk_cell BK937.out 1).trans rfl, (blk_cell BK937.out 2).trans rfl, (blk_cell BK918.out 0).trans rfl, (blk_cell BK918.out 1).trans rfl, (blk_cell BK918.out 2).trans rfl⟩ (fun hHeld => ?_)
            clear hK K
            refine norm_ (a' := ?_) ?_ ?_
            rotate_left
            · show Act.put _ (some 43) _ = _
              simp only [Act.put, List.setIfInBounds_toArray, List.set_cons_zero, List.set_cons_succ, i64_w, i32_w]
              rfl
            refine pure_ (i := 4) (N := some 44) (v := ?_) (a' := ?_) #[true, true, true, true, true] rfl rfl (by kernel_rfl) (fun _ _ _ h => h) (Or.inl ⟨by rfl, ?_⟩) ?_ ?_
            rotate_left
            · intro w'
              go_simp
              with_reducible rfl
            rotate_left
            · simp only [Act.put, List.setIfInBounds_toArray, List.set_cons_zero, List.set_cons_succ, i64_w, i32_w]
              rfl
            refine done_ (by kernel_rfl) ?_
            try go_wp2
            go_ret
            exact ⟨by first | rfl | (simp [errW_none, errW_some] <;> rfl) | (simp [*, errW_none, errW_some] <;> rfl), by repeat (first | (with_reducible first | exact HB.out | apply below_alloc | apply pw_below_drewN | apply below_drew1 | refine below_set ?_ GE918.out | refine below_set ?_ GE931.out | refine below_set ?_ GE937.out | refine below_set ?_ GE944.out) | exact HB.out)⟩

end Go.Proofs.Ytgkeapbeogmfjaa.Q
