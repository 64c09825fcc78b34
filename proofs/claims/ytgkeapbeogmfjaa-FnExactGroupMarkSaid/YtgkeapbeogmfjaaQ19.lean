/- Made by a program of ours out of the print of the loaded functions: for each of some functions a plain function, and the walk that shows that a call comes to what it says. No condition but those of each theorem. -/
import Derived.Test.YtgkeapbeogmfjaaQ0
import Derived.Test.YtgkeapbeogmfjaaQA
import Derived.Test.YtgkeapbeogmfjaaQ4
import Derived.Test.YtgkeapbeogmfjaaQ17
import Derived.Test.YtgkeapbeogmfjaaQ18
namespace Go.Proofs.Ytgkeapbeogmfjaa.Q
open Go.RowKit Go.Proofs.YtgkeapbeogmfjaaW.PrintWords Go.Proofs.YtgkeapbeogmfjaaW.PrintLast Go.Proofs.YtgkeapbeogmfjaaW.PrintMore
attribute [local go_sem] max2_int min2_int max_two min_two max_three min_three max_four min_four   -- for this text's walks alone
set_option linter.unusedVariables false
set_option linter.unusedSimpArgs false

/-! ### spec_GroupMark: function 48 -/
def spec_GroupMark.j0 : Nat → Int → Int → Bool → Int → List Int → List Int → List Int → Option (Int × List Int × List Int × List Int × Bool)
 | 0, _, _, _, _, _, _, _ => none
 | k + 1, x3, x4, x43, x434000, x434001, x434002, x434003 => if x43 = true then (some (x434000, x434001, x434002, x434003, false)) else (if 0 ≤ x3 then (if x3 < (x434003.length : Int) then (some (x434000, x434001, x434002, (x434003.set (x3 : Int).toNat x4), true)) else (none)) else (none))
def spec_GroupMark.f (k : Nat) (a0_0 : Int) (l0_1 : List Int) (l0_2 : List Int) (l0_3 : List Int) (a1 : Int) (a2 : Int) (a3 : Int) (a4 : Int) : Option (Int × List Int × List Int × List Int × Bool) := (spec_l5Copy.f a0_0 l0_1 l0_2 l0_3).bind fun bt423 => (if a2 = a0_0 then ((spec_l1In.f a3 0 (wrap64 ((l0_3.length : Int) - 1))).bind fun t434 => (if t434 = true then ((spec_OwnerOf.f a0_0 l0_1 l0_2 l0_3 a3).bind fun t435 => (if t435 = a1 then (if 0 ≤ a3 then (if a3 < (l0_3.length : Int) then (spec_GroupMark.j0 k a3 a4 (decide (a4 < (rd l0_3 a3))) bt423.1 bt423.2.1 bt423.2.2.1 bt423.2.2.2) else (none)) else (none)) else (spec_GroupMark.j0 k a3 a4 true bt423.1 bt423.2.1 bt423.2.2.1 bt423.2.2.2))) else (spec_GroupMark.j0 k a3 a4 true bt423.1 bt423.2.1 bt423.2.2.1 bt423.2.2.2))) else (spec_GroupMark.j0 k a3 a4 true bt423.1 bt423.2.1 bt423.2.2.1 bt423.2.2.2))
theorem spec_GroupMark.mono_l : ∀ k, (∀ y0 y1 y2 y3 y4 y5 y6, LeO (spec_GroupMark.j0 k y0 y1 y2 y3 y4 y5 y6) (spec_GroupMark.j0 (k + 1) y0 y1 y2 y3 y4 y5 y6))
 | 0 => fun _ _ _ _ _ _ _ r h => by simp [spec_GroupMark.j0] at h
 | k + 1 => by
  have ih0 := spec_GroupMark.mono_l k
  ·
   intro y0 y1 y2 y3 y4 y5 y6
   unfold spec_GroupMark.j0
   repeat' first
   | (with_reducible exact ih0 _ _ _ _ _ _ _)
   | (with_reducible exact LeO.refl _)
   | (with_reducible exact LeO.none _)
   | (with_reducible refine LeO.ite ?_ ?_)
   | (with_reducible refine LeO.bind ?_ (fun _ => ?_))
   | exact ih0 _ _ _ _ _ _ _
   | exact LeO.none _
   | refine LeO.ite ?_ ?_
   | refine LeO.bind ?_ (fun _ => ?_)
theorem spec_GroupMark.mono : ∀ a0 a1 a2 a3 a4 a5 a6 a7 k, LeO (spec_GroupMark.f k a0 a1 a2 a3 a4 a5 a6 a7) (spec_GroupMark.f (k + 1) a0 a1 a2 a3 a4 a5 a6 a7) := by
 intro a0 a1 a2 a3 a4 a5 a6 a7 k
 have ih0 := spec_GroupMark.mono_l k
 unfold spec_GroupMark.f
 repeat' first
  | (with_reducible exact ih0 _ _ _ _ _ _ _)
  | (with_reducible exact LeO.refl _)
  | (with_reducible exact LeO.none _)
  | (with_reducible refine LeO.ite ?_ ?_)
  | (with_reducible refine LeO.bind ?_ (fun _ => ?_))
  | exact ih0 _ _ _ _ _ _ _
  | exact LeO.none _
  | refine LeO.ite ?_ ?_
  | refine LeO.bind ?_ (fun _ => ?_)
set_option maxHeartbeats 8000000 in
set_option maxRecDepth 100000 in
theorem spec_GroupMark.calls (k : Nat) (a0_0 : Int) (A0_1 : Option Addr) (c0_1 : Nat) (l0_1 : List Int) (A0_2 : Option Addr) (c0_2 : Nat) (l0_2 : List Int) (A0_3 : Option Addr) (c0_3 : Nat) (l0_3 : List Int) (a1 : Int) (a2 : Int) (a3 : Int) (a4 : Int) (r1 : Int) (r2 : List Int) (r3 : List Int) (r4 : List Int) (r5 : Bool) (w : World) (hr0_1 : Kd.C (Kd.int .i64) w A0_1 l0_1.length l0_1) (hc0_1 : l0_1.length ≤ c0_1) (hr0_2 : Kd.C (Kd.int .i64) w A0_2 l0_2.length l0_2) (hc0_2 : l0_2.length ≤ c0_2) (hr0_3 : Kd.C (Kd.int .i64) w A0_3 l0_3.length l0_3) (hc0_3 : l0_3.length ≤ c0_3) (h : spec_GroupMark.f k a0_0 l0_1 l0_2 l0_3 a1 a2 a3 a4 = some (r1, r2, r3, r4, r5)) :
 Calls Try.prog 48 #[.agg #[.int .i64 a0_0, .slice A0_1 l0_1.length c0_1, .slice A0_2 l0_2.length c0_2, .slice A0_3 l0_3.length c0_3], .int .i64 a1, .int .i64 a2, .int .i64 a3, .int .i64 a4] w fun e w' => ∃ v1_ v2_ v3_ : Value, e = .returned (.tuple #[.agg #[.int .i64 r1, v1_, v2_, v3_], .bool r5]) ∧ Kd.R (Kd.int .i64) 3 w' w.heap.size (fun k_ => some k_ ≠ (v2_ : Value).ownBlock ∧ some k_ ≠ (v3_ : Value).ownBlock) v1_ r2 ∧ Kd.R (Kd.int .i64) 3 w' w.heap.size (fun k_ => some k_ ≠ (v1_ : Value).ownBlock ∧ some k_ ≠ (v3_ : Value).ownBlock) v2_ r3 ∧ Kd.R (Kd.int .i64) 3 w' w.heap.size (fun k_ => some k_ ≠ (v1_ : Value).ownBlock ∧ some k_ ≠ (v2_ : Value).ownBlock) v3_ r4 ∧ Below w.heap.size w w' := by
 have hu27 := Try.underlying27
 have HR0_1 := Aside0.mk hr0_1
 have HC0_1 := Aside0.mk hc0_1
 clear hr0_1 hc0_1
 have HR0_2 := Aside0.mk hr0_2
 have HC0_2 := Aside0.mk hc0_2
 clear hr0_2 hc0_2
 have HR0_3 := Aside0.mk hr0_3
 have HC0_3 := Aside0.mk hc0_3
 clear hr0_3 hc0_3
 have HB := Aside0.mk (Below.refl w.heap.size w)
 have H : ((spec_l5Copy.f a0_0 l0_1 l0_2 l0_3).bind fun bt423 => (if a2 = a0_0 then ((spec_l1In.f a3 0 (wrap64 ((l0_3.length : Int) - 1))).bind fun t434 => (if t434 = true then ((spec_OwnerOf.f a0_0 l0_1 l0_2 l0_3 a3).bind fun t435 => (if t435 = a1 then (if 0 ≤ a3 then (if a3 < (l0_3.length : Int) then (spec_GroupMark.j0 k a3 a4 (decide (a4 < (rd l0_3 a3))) bt423.1 bt423.2.1 bt423.2.2.1 bt423.2.2.2) else (none)) else (none)) else (spec_GroupMark.j0 k a3 a4 true bt423.1 bt423.2.1 bt423.2.2.1 bt423.2.2.2))) else (spec_GroupMark.j0 k a3 a4 true bt423.1 bt423.2.1 bt423.2.2.1 bt423.2.2.2))) else (spec_GroupMark.j0 k a3 a4 true bt423.1 bt423.2.1 bt423.2.2.1 bt423.2.2.2))) = some (r1, r2, r3, r4, r5) := h
 clear h
 replace H := Option.bind_eq_some_iff.mp H
 obtain ⟨⟨t423, t424, t427, t430⟩, A60, H⟩ := H
 replace H : (if a2 = a0_0 then ((spec_l1In.f a3 0 (wrap64 ((l0_3.length : Int) - 1))).bind fun t434 => (if t434 = true then ((spec_OwnerOf.f a0_0 l0_1 l0_2 l0_3 a3).bind fun t435 => (if t435 = a1 then (if 0 ≤ a3 then (if a3 < (l0_3.length : Int) then (spec_GroupMark.j0 k a3 a4 (decide (a4 < (rd l0_3 a3))) t423 t424 t427 t430) else (none)) else (none)) else (spec_GroupMark.j0 k a3 a4 true t423 t424 t427 t430))) else (spec_GroupMark.j0 k a3 a4 true t423 t424 t427 t430))) else (spec_GroupMark.j0 k a3 a4 true t423 t424 t427 t430)) = some (r1, r2, r3, r4, r5) := H
 have A6 := Aside0.mk A60
 clear A60
 have HC7 := Aside0.mk H
 clear H
 go_enter Try.func48, Try.ntmps48
 go_upto_region 2 with (first | ((with_reducible refine gate_dst (N := 5) rfl ?_); (try (refine gate_guard (by rfl) ?_; dsimp only)); refine box_event ?hg (N := 5) ?hd (cs := #[.int .i64 a0_0, .slice A0_1 l0_1.length c0_1, .slice A0_2 l0_2.length c0_2, .slice A0_3 l0_3.length c0_3]) (t := 27) ?hr ?_; (case hd => rfl); (case hg => rfl); (case hr => first | (go_simp; done) | (go_simp; rfl)); intro gb421 hg w8 hbox hb; have n0_ := Aside0.mk (below_step (hb_ HB.out) hb); have n1_ := Aside0.mk (hbox); have n2_ := Aside0.mk ((by rw [hg]; exact (below_size (hb_ HB.out)) : w.heap.size ≤ gb421)); have n3_ := Aside0.mk ((by rw [hg]; exact (below_size (hb_ HB.out)) : w.heap.size ≤ gb421)); clear HB; have HB := n0_; have BK421 := n1_; have GW421 := n2_; have GE421 := n3_; clear n0_ n1_ n2_ n3_; clear hb hbox hg) | ((with_reducible refine gate_dst (N := 10) rfl ?_); (try (refine gate_guard (by rfl) ?_; dsimp only)); refine box_event ?hg (N := 10) ?hd (cs := #[.int .i64 0, .slice none 0 0, .slice none 0 0, .slice none 0 0]) (t := 27) ?hr ?_; (case hd => rfl); (case hg => rfl); (case hr => first | (go_simp; done) | (go_simp; rfl)); intro gb422 hg w9 hbox hb; have n0_ := Aside0.mk (bb_ BK421.out hb); have n1_ := Aside0.mk (below_step (hb_ HB.out) hb); have n2_ := Aside0.mk (hbox); have n3_ := Aside0.mk ((by rw [hg]; exact (below_size (hb_ HB.out)) : w.heap.size ≤ gb422)); have n4_ := Aside0.mk ((by rw [hg]; exact (below_size (hb_ HB.out)) : w.heap.size ≤ gb422)); have n5_ := Aside0.mk ((by rw [hg]; exact Nat.ne_of_lt (blk_lt (g := gb421) (o := .cells #[.int .i64 a0_0, .slice A0_1 l0_1.length c0_1, .slice A0_2 l0_2.length c0_2, .slice A0_3 l0_3.length c0_3] 27 (0, 0)) (bq_ BK421.out)) : gb421 ≠ gb422)); have n6_ := Aside0.mk ((by rw [hg]; exact Nat.ne_of_gt (blk_lt (g := gb421) (o := .cells #[.int .i64 a0_0, .slice A0_1 l0_1.length c0_1, .slice A0_2 l0_2.length c0_2, .slice A0_3 l0_3.length c0_3] 27 (0, 0)) (bq_ BK421.out)) : gb422 ≠ gb421)); clear BK421; clear HB; have BK421 := n0_; have HB := n1_; have BK422 := n2_; have GW422 := n3_; have GE422 := n4_; have NB421_422 := n5_; have NB422_421 := n6_; clear n0_ n1_ n2_ n3_ n4_ n5_ n6_; clear hb hbox hg; have hnb10 := NB421_422.out; have hnc10 := NB422_421.out; have hcz11_0 : w9.cell? ⟨gb421, 0, none⟩ = some (.int .i64 a0_0) := (blk_cell BK421.out 0).trans rfl; have hcz11_1 : w9.cell? ⟨gb421, 1, none⟩ = some (.slice A0_1 l0_1.length c0_1) := (blk_cell BK421.out 1).trans rfl; have hcz11_2 : w9.cell? ⟨gb421, 2, none⟩ = some (.slice A0_2 l0_2.length c0_2) := (blk_cell BK421.out 2).trans rfl; have hcz11_3 : w9.cell? ⟨gb421, 3, none⟩ = some (.slice A0_3 l0_3.length c0_3) := (blk_cell BK421.out 3).trans rfl; have hfz11_0 := blk_frozen BK421.out 0; have hfz11_1 := blk_frozen BK421.out 1; have hfz11_2 := blk_frozen BK421.out 2; have hfz11_3 := blk_frozen BK421.out 3) | ((with_reducible refine gate_callee (f := 97) rfl ?_); refine goesL_ (some 14) rfl rfl Try.func97 (by kernel_rfl) rfl #[.agg #[.int .i64 a0_0, .slice A0_1 l0_1.length c0_1, .slice A0_2 l0_2.length c0_2, .slice A0_3 l0_3.length c0_3]] rfl sm_ ?_; (with_reducible refine (spec_l5Copy.calls a0_0 _ _ l0_1 _ _ l0_2 _ _ l0_3 t423 t424 t427 t430 _ ?side1 ?side2 ?side3 ?side4 ?side5 ?side6 A6.out).mono ?_); (case side1 => repeat (first | exact (Kd.C_below HR0_1.out HB.out) | (with_reducible refine Kd.C_alloc ?_ _) | (with_reducible refine Kd.C_drewN ?_ _) | (with_reducible refine Kd.C_drew ?_))); (case side2 => exact HC0_1.out); (case side3 => repeat (first | exact (Kd.C_below HR0_2.out HB.out) | (with_reducible refine Kd.C_alloc ?_ _) | (with_reducible refine Kd.C_drewN ?_ _) | (with_reducible refine Kd.C_drew ?_))); (case side4 => exact HC0_2.out); (case side5 => repeat (first | exact (Kd.C_below HR0_3.out HB.out) | (with_reducible refine Kd.C_alloc ?_ _) | (with_reducible refine Kd.C_drewN ?_ _) | (with_reducible refine Kd.C_drew ?_))); (case side6 => exact HC0_3.out); rintro e w12 ⟨v425, v428, v431, rfl, ho0, ho1, ho2, hb⟩; refine ⟨_, rfl, ?_⟩; have n0_ := Aside0.mk (Kd.R_lower ho0 (below_size (hb_ HB.out))); have n1_ := Aside0.mk (Kd.R_lower ho1 (below_size (hb_ HB.out))); have n2_ := Aside0.mk (Kd.R_lower ho2 (below_size (hb_ HB.out))); have n3_ := Aside0.mk (bb_ BK421.out hb); have n4_ := Aside0.mk (bb_ BK422.out hb); have n5_ := Aside0.mk (below_step (hb_ HB.out) hb); clear BK421; clear BK422; clear HB; have HO426 := n0_; have HO429 := n1_; have HO432 := n2_; have BK421 := n3_; have BK422 := n4_; have HB := n5_; clear n0_ n1_ n2_ n3_ n4_ n5_; (try clear hb); (try clear hb2); (try clear hk); (try clear hi); (try clear ho0); (try clear ho1); (try clear ho2)) | ((with_reducible refine gate_dst (N := 12) rfl ?_); (try (refine gate_guard (by rfl) ?_; dsimp only)); refine box_event ?hg (N := 12) ?hd (cs := #[.int .i64 0, .slice none 0 0, .slice none 0 0, .slice none 0 0]) (t := 27) ?hr ?_; (case hd => rfl); (case hg => rfl); (case hr => first | (go_simp; done) | (go_simp; rfl)); intro gb433 hg w13 hbox hb; have n0_ := Aside0.mk (Kd.R_below (rq_ HO426.out) hb); have n1_ := Aside0.mk (Kd.R_below (rq_ HO429.out) hb); have n2_ := Aside0.mk (Kd.R_below (rq_ HO432.out) hb); have n3_ := Aside0.mk (bb_ BK421.out hb); have n4_ := Aside0.mk (bb_ BK422.out hb); have n5_ := Aside0.mk (below_step (hb_ HB.out) hb); have n6_ := Aside0.mk (hbox); have n7_ := Aside0.mk ((by rw [hg]; exact (below_size (hb_ HB.out)) : w.heap.size ≤ gb433)); have n8_ := Aside0.mk ((by rw [hg]; exact (below_size (hb_ HB.out)) : w.heap.size ≤ gb433)); have n9_ := Aside0.mk ((by rw [hg]; exact Nat.ne_of_lt (blk_lt (g := gb421) (o := .cells #[.int .i64 a0_0, .slice A0_1 l0_1.length c0_1, .slice A0_2 l0_2.length c0_2, .slice A0_3 l0_3.length c0_3] 27 (0, 0)) (bq_ BK421.out)) : gb421 ≠ gb433)); have n10_ := Aside0.mk ((by rw [hg]; exact Nat.ne_of_gt (blk_lt (g := gb421) (o := .cells #[.int .i64 a0_0, .slice A0_1 l0_1.length c0_1, .slice A0_2 l0_2.length c0_2, .slice A0_3 l0_3.length c0_3] 27 (0, 0)) (bq_ BK421.out)) : gb433 ≠ gb421)); have n11_ := Aside0.mk ((by rw [hg]; exact Nat.ne_of_lt (blk_lt (g := gb422) (o := .cells #[.int .i64 0, .slice none 0 0, .slice none 0 0, .slice none 0 0] 27 (0, 0)) (bq_ BK422.out)) : gb422 ≠ gb433)); have n12_ := Aside0.mk ((by rw [hg]; exact Nat.ne_of_gt (blk_lt (g := gb422) (o := .cells #[.int .i64 0, .slice none 0 0, .slice none 0 0, .slice none 0 0] 27 (0, 0)) (bq_ BK422.out)) : gb433 ≠ gb422)); clear HO426; clear HO429; clear HO432; clear BK421; clear BK422; clear HB; have HO426 := n0_; have HO429 := n1_; have HO432 := n2_; have BK421 := n3_; have BK422 := n4_; have HB := n5_; have BK433 := n6_; have GW433 := n7_; have GE433 := n8_; have NB421_433 := n9_; have NB433_421 := n10_; have NB422_433 := n11_; have NB433_422 := n12_; clear n0_ n1_ n2_ n3_ n4_ n5_ n6_ n7_ n8_ n9_ n10_ n11_ n12_; clear hb hbox hg; have hnb14 := NB433_421.out; have hnc14 := NB421_433.out; have hnb15 := NB433_422.out; have hnc15 := NB422_433.out; have hcz16_0 : w13.cell? ⟨gb433, 0, none⟩ = some (.int .i64 0) := (blk_cell BK433.out 0).trans rfl; have hcz16_1 : w13.cell? ⟨gb433, 1, none⟩ = some (.slice none 0 0) := (blk_cell BK433.out 1).trans rfl; have hcz16_2 : w13.cell? ⟨gb433, 2, none⟩ = some (.slice none 0 0) := (blk_cell BK433.out 2).trans rfl; have hcz16_3 : w13.cell? ⟨gb433, 3, none⟩ = some (.slice none 0 0) := (blk_cell BK433.out 3).trans rfl; have hfz16_0 := blk_frozen BK433.out 0; have hfz16_1 := blk_frozen BK433.out 1; have hfz16_2 := blk_frozen BK433.out 2; have hfz16_3 := blk_frozen BK433.out 3; obtain ⟨Ao17, co17, eo17⟩ := Kd.R_slice HO426.out; subst eo17; obtain ⟨Ao18, co18, eo18⟩ := Kd.R_slice HO429.out; subst eo18; obtain ⟨Ao19, co19, eo19⟩ := Kd.R_slice HO432.out; subst eo19))
 (try simp only [Act.put, List.setIfInBounds_toArray, List.set_cons_zero, List.set_cons_succ])
 go_cut [43] (fun v43 wc => ∃ (kq : Nat) (x43_6 : Bool), v43 = .bool x43_6 ∧ Aside0 (spec_GroupMark.j0 kq a3 a4 x43_6 t423 t424 t427 t430 = some (r1, r2, r3, r4, r5)) ∧ Aside0 (kq ≤ k) ∧ Aside0 (Kd.R (Kd.int .i64) 3 wc w.heap.size (fun k_ => some k_ ≠ ((.slice Ao18 t427.length co18) : Value).ownBlock ∧ some k_ ≠ ((.slice Ao19 t430.length co19) : Value).ownBlock) (.slice Ao17 t424.length co17) t424) ∧ Aside0 (Kd.R (Kd.int .i64) 3 wc w.heap.size (fun k_ => some k_ ≠ ((.slice Ao17 t424.length co17) : Value).ownBlock ∧ some k_ ≠ ((.slice Ao19 t430.length co19) : Value).ownBlock) (.slice Ao18 t427.length co18) t427) ∧ Aside0 (Kd.R (Kd.int .i64) 3 wc w.heap.size (fun k_ => some k_ ≠ ((.slice Ao17 t424.length co17) : Value).ownBlock ∧ some k_ ≠ ((.slice Ao18 t427.length co18) : Value).ownBlock) (.slice Ao19 t430.length co19) t430) ∧ Aside0 (wc.heap[gb421]? = some (.cells #[.int .i64 a0_0, (.slice A0_1 l0_1.length c0_1), (.slice A0_2 l0_2.length c0_2), (.slice A0_3 l0_3.length c0_3)] 27 (0, 0))) ∧ Aside0 (wc.heap[gb422]? = some (.cells #[.int .i64 0, (.slice none 0 0), (.slice none 0 0), (.slice none 0 0)] 27 (0, 0))) ∧ Aside0 (wc.heap[gb433]? = some (.cells #[.int .i64 t423, (.slice Ao17 t424.length co17), (.slice Ao18 t427.length co18), (.slice Ao19 t430.length co19)] 27 (0, 0))) ∧ Aside0 (Below w.heap.size w wc))
 case first =>
  have H := HC7.out
  clear HC7
  by_cases c20 : a2 = a0_0
  ·
   rw [if_pos c20] at H
   have c20b0 : (a2 == a0_0) = true := beq_iff_eq.mpr c20
   have c20b1 : (a2 != a0_0) = false := bne_eq_false_iff_eq.mpr c20
   clear c20
   (first | rw [c20b0] | (simp only [i64_w, i32_w]; rw [c20b0]) | rw [c20b4] | rw [c20b3] | skip)
   replace H := Option.bind_eq_some_iff.mp H
   obtain ⟨t434, A210, H⟩ := H
   replace H : (if t434 = true then ((spec_OwnerOf.f a0_0 l0_1 l0_2 l0_3 a3).bind fun t435 => (if t435 = a1 then (if 0 ≤ a3 then (if a3 < (l0_3.length : Int) then (spec_GroupMark.j0 k a3 a4 (decide (a4 < (rd l0_3 a3))) t423 t424 t427 t430) else (none)) else (none)) else (spec_GroupMark.j0 k a3 a4 true t423 t424 t427 t430))) else (spec_GroupMark.j0 k a3 a4 true t423 t424 t427 t430)) = some (r1, r2, r3, r4, r5) := H
   have A21 := Aside0.mk A210
   clear A210
   by_cases c22 : t434 = true
   ·
    subst c22
    have H1 : ((spec_OwnerOf.f a0_0 l0_1 l0_2 l0_3 a3).bind fun t435 => (if t435 = a1 then (if 0 ≤ a3 then (if a3 < (l0_3.length : Int) then (spec_GroupMark.j0 k a3 a4 (decide (a4 < (rd l0_3 a3))) t423 t424 t427 t430) else (none)) else (none)) else (spec_GroupMark.j0 k a3 a4 true t423 t424 t427 t430))) = some (r1, r2, r3, r4, r5) := by rw [if_pos rfl] at H; exact H
    clear H
    have H := H1
    clear H1
    replace H := Option.bind_eq_some_iff.mp H
    obtain ⟨t435, A230, H⟩ := H
    replace H : (if t435 = a1 then (if 0 ≤ a3 then (if a3 < (l0_3.length : Int) then (spec_GroupMark.j0 k a3 a4 (decide (a4 < (rd l0_3 a3))) t423 t424 t427 t430) else (none)) else (none)) else (spec_GroupMark.j0 k a3 a4 true t423 t424 t427 t430)) = some (r1, r2, r3, r4, r5) := H
    have A23 := Aside0.mk A230
    clear A230
    by_cases c24 : t435 = a1
    ·
     rw [if_pos c24] at H
     have c24b0 : (t435 == a1) = true := beq_iff_eq.mpr c24
     have c24b1 : (t435 != a1) = false := bne_eq_false_iff_eq.mpr c24
     clear c24
     by_cases c25 : 0 ≤ a3
     ·
      rw [if_pos c25] at H
      have c25b0 : decide (0 ≤ a3) = true := decide_eq_true c25
      clear c25
      by_cases c26 : a3 < (l0_3.length : Int)
      ·
       rw [if_pos c26] at H
       have c26b0 : decide (a3 < (l0_3.length : Int)) = true := decide_eq_true c26
       clear c26
       have H' := Aside0.mk H
       clear H
       have hnb27 := NB421_422.out
       have hnc27 := NB422_421.out
       have hnb28 := NB421_433.out
       have hnc28 := NB433_421.out
       have hcz29_0 : w13.cell? ⟨gb421, 0, none⟩ = some (.int .i64 a0_0) := (blk_cell BK421.out 0).trans rfl
       have hcz29_1 : w13.cell? ⟨gb421, 1, none⟩ = some (.slice A0_1 l0_1.length c0_1) := (blk_cell BK421.out 1).trans rfl
       have hcz29_2 : w13.cell? ⟨gb421, 2, none⟩ = some (.slice A0_2 l0_2.length c0_2) := (blk_cell BK421.out 2).trans rfl
       have hcz29_3 : w13.cell? ⟨gb421, 3, none⟩ = some (.slice A0_3 l0_3.length c0_3) := (blk_cell BK421.out 3).trans rfl
       have hfz29_0 := blk_frozen BK421.out 0
       have hfz29_1 := blk_frozen BK421.out 1
       have hfz29_2 := blk_frozen BK421.out 2
       have hfz29_3 := blk_frozen BK421.out 3
       go_wp2_with (first | (go_at_call 77; (with_reducible refine (spec_l1In.calls a3 0 (wrap64 ((l0_3.length : Int) - 1)) true _ A21.out).mono ?_); rintro e w' ⟨rfl, ⟨nd, rfl⟩⟩) | (go_at_call 98; (with_reducible refine (spec_OwnerOf.calls a0_0 _ _ l0_1 _ _ l0_2 _ _ l0_3 a3 t435 _ ?side1 ?side2 ?side3 ?side4 ?side5 ?side6 A23.out).mono ?_); (case side1 => exact Kd.C_below HR0_1.out (hb_ HB.out)); (case side2 => exact HC0_1.out); (case side3 => exact Kd.C_below HR0_2.out (hb_ HB.out)); (case side4 => exact HC0_2.out); (case side5 => exact Kd.C_below HR0_3.out (hb_ HB.out)); (case side6 => exact HC0_3.out); rintro e w30 ⟨rfl, hb⟩; have n0_ := Aside0.mk (Kd.R_below (rk_ HO426.out BK433.out) hb); have n1_ := Aside0.mk (Kd.R_below (rk_ HO429.out BK433.out) hb); have n2_ := Aside0.mk (Kd.R_below (rk_ HO432.out BK433.out) hb); have n3_ := Aside0.mk (blk_below (g := gb421) (o := .cells #[.int .i64 a0_0, .slice A0_1 l0_1.length c0_1, .slice A0_2 l0_2.length c0_2, .slice A0_3 l0_3.length c0_3] 27 (0, 0)) (bf_ NB421_433.out BK421.out) hb); have n4_ := Aside0.mk (blk_below (g := gb422) (o := .cells #[.int .i64 0, .slice none 0 0, .slice none 0 0, .slice none 0 0] 27 (0, 0)) (bf_ NB422_433.out BK422.out) hb); have n5_ := Aside0.mk (blk_below (g := gb433) (o := .cells #[.int .i64 t423, .slice Ao17 t424.length co17, .slice Ao18 t427.length co18, .slice Ao19 t430.length co19] 27 (0, 0)) (bp_ BK433.out) hb); have n6_ := Aside0.mk (below_step (hb_ HB.out) hb); clear HO426; clear HO429; clear HO432; clear BK421; clear BK422; clear BK433; clear HB; have HO426 := n0_; have HO429 := n1_; have HO432 := n2_; have BK421 := n3_; have BK422 := n4_; have BK433 := n5_; have HB := n6_; clear n0_ n1_ n2_ n3_ n4_ n5_ n6_; (try clear hb); (try clear hb2); (try clear hk); (try clear hi); have hcz31_0 : w30.cell? ⟨gb421, 0, none⟩ = some (.int .i64 a0_0) := (blk_cell BK421.out 0).trans rfl; have hcz31_1 : w30.cell? ⟨gb421, 1, none⟩ = some (.slice A0_1 l0_1.length c0_1) := (blk_cell BK421.out 1).trans rfl; have hcz31_2 : w30.cell? ⟨gb421, 2, none⟩ = some (.slice A0_2 l0_2.length c0_2) := (blk_cell BK421.out 2).trans rfl; have hcz31_3 : w30.cell? ⟨gb421, 3, none⟩ = some (.slice A0_3 l0_3.length c0_3) := (blk_cell BK421.out 3).trans rfl; have hfz31_0 := blk_frozen BK421.out 0; have hfz31_1 := blk_frozen BK421.out 1; have hfz31_2 := blk_frozen BK421.out 2; have hfz31_3 := blk_frozen BK421.out 3; have p436 : 0 ≤ (a3 : Int) := of_decide_eq_true (by first | (with_reducible assumption) | assumption); have q436 : a3 < (l0_3.length : Int) := of_decide_eq_true (by first | (with_reducible assumption) | assumption); obtain ⟨ad436, e436, hx436_0⟩ := Kd.at_int HR0_3.out a3 p436 q436; cases e436; replace hx436_0 := (HB.out.cell (World.block_lt_of_cell? w _ hx436_0)).trans hx436_0; replace p436 := eq_true p436; replace q436 := eq_true q436))
       go_meet
       case rel => exact ⟨_, (decide (a4 < (rd l0_3 a3))), (by first | rfl | (simp; done) | (simp [*]; done)), H', ⟨by first | omega | exact Nat.le_refl _⟩, ⟨rq_ HO426.out⟩, ⟨rq_ HO429.out⟩, ⟨rq_ HO432.out⟩, ⟨bq_ BK421.out⟩, ⟨bq_ BK422.out⟩, ⟨bq_ BK433.out⟩, ⟨hb_ HB.out⟩⟩
      ·
       rw [if_neg c26] at H
       exact absurd H (by simp)
     ·
      rw [if_neg c25] at H
      exact absurd H (by simp)
    ·
     rw [if_neg c24] at H
     have c24b0 : (t435 == a1) = false := beq_eq_false_iff_ne.mpr c24
     have c24b1 : (t435 != a1) = true := bne_iff_ne.mpr c24
     have H' := Aside0.mk H
     clear H
     have hnb32 := NB421_422.out
     have hnc32 := NB422_421.out
     have hnb33 := NB421_433.out
     have hnc33 := NB433_421.out
     have hcz34_0 : w13.cell? ⟨gb421, 0, none⟩ = some (.int .i64 a0_0) := (blk_cell BK421.out 0).trans rfl
     have hcz34_1 : w13.cell? ⟨gb421, 1, none⟩ = some (.slice A0_1 l0_1.length c0_1) := (blk_cell BK421.out 1).trans rfl
     have hcz34_2 : w13.cell? ⟨gb421, 2, none⟩ = some (.slice A0_2 l0_2.length c0_2) := (blk_cell BK421.out 2).trans rfl
     have hcz34_3 : w13.cell? ⟨gb421, 3, none⟩ = some (.slice A0_3 l0_3.length c0_3) := (blk_cell BK421.out 3).trans rfl
     have hfz34_0 := blk_frozen BK421.out 0
     have hfz34_1 := blk_frozen BK421.out 1
     have hfz34_2 := blk_frozen BK421.out 2
     have hfz34_3 := blk_frozen BK421.out 3
     go_wp2_with (first | (go_at_call 77; (with_reducible refine (spec_l1In.calls a3 0 (wrap64 ((l0_3.length : Int) - 1)) true _ A21.out).mono ?_); rintro e w' ⟨rfl, ⟨nd, rfl⟩⟩) | (go_at_call 98; (with_reducible refine (spec_OwnerOf.calls a0_0 _ _ l0_1 _ _ l0_2 _ _ l0_3 a3 t435 _ ?side1 ?side2 ?side3 ?side4 ?side5 ?side6 A23.out).mono ?_); (case side1 => exact Kd.C_below HR0_1.out (hb_ HB.out)); (case side2 => exact HC0_1.out); (case side3 => exact Kd.C_below HR0_2.out (hb_ HB.out)); (case side4 => exact HC0_2.out); (case side5 => exact Kd.C_below HR0_3.out (hb_ HB.out)); (case side6 => exact HC0_3.out); rintro e w35 ⟨rfl, hb⟩; have n0_ := Aside0.mk (Kd.R_below (rk_ HO426.out BK433.out) hb); have n1_ := Aside0.mk (Kd.R_below (rk_ HO429.out BK433.out) hb); have n2_ := Aside0.mk (Kd.R_below (rk_ HO432.out BK433.out) hb); have n3_ := Aside0.mk (blk_below (g := gb421) (o := .cells #[.int .i64 a0_0, .slice A0_1 l0_1.length c0_1, .slice A0_2 l0_2.length c0_2, .slice A0_3 l0_3.length c0_3] 27 (0, 0)) (bf_ NB421_433.out BK421.out) hb); have n4_ := Aside0.mk (blk_below (g := gb422) (o := .cells #[.int .i64 0, .slice none 0 0, .slice none 0 0, .slice none 0 0] 27 (0, 0)) (bf_ NB422_433.out BK422.out) hb); have n5_ := Aside0.mk (blk_below (g := gb433) (o := .cells #[.int .i64 t423, .slice Ao17 t424.length co17, .slice Ao18 t427.length co18, .slice Ao19 t430.length co19] 27 (0, 0)) (bp_ BK433.out) hb); have n6_ := Aside0.mk (below_step (hb_ HB.out) hb); clear HO426; clear HO429; clear HO432; clear BK421; clear BK422; clear BK433; clear HB; have HO426 := n0_; have HO429 := n1_; have HO432 := n2_; have BK421 := n3_; have BK422 := n4_; have BK433 := n5_; have HB := n6_; clear n0_ n1_ n2_ n3_ n4_ n5_ n6_; (try clear hb); (try clear hb2); (try clear hk); (try clear hi)))
     go_meet
     case rel => exact ⟨_, (true), (by first | rfl | (simp; done) | (simp [*]; done)), H', ⟨by first | omega | exact Nat.le_refl _⟩, ⟨rq_ HO426.out⟩, ⟨rq_ HO429.out⟩, ⟨rq_ HO432.out⟩, ⟨bq_ BK421.out⟩, ⟨bq_ BK422.out⟩, ⟨bq_ BK433.out⟩, ⟨hb_ HB.out⟩⟩
   ·
    replace c22 := Bool.eq_false_iff.mpr c22
    subst c22
    have H1 : (spec_GroupMark.j0 k a3 a4 true t423 t424 t427 t430) = some (r1, r2, r3, r4, r5) := by rw [if_neg (show ¬ (false = true) by decide)] at H; exact H
    clear H
    have H := H1
    clear H1
    have H' := Aside0.mk H
    clear H
    have hnb36 := NB421_422.out
    have hnc36 := NB422_421.out
    have hnb37 := NB421_433.out
    have hnc37 := NB433_421.out
    have hcz38_0 : w13.cell? ⟨gb421, 0, none⟩ = some (.int .i64 a0_0) := (blk_cell BK421.out 0).trans rfl
    have hcz38_1 : w13.cell? ⟨gb421, 1, none⟩ = some (.slice A0_1 l0_1.length c0_1) := (blk_cell BK421.out 1).trans rfl
    have hcz38_2 : w13.cell? ⟨gb421, 2, none⟩ = some (.slice A0_2 l0_2.length c0_2) := (blk_cell BK421.out 2).trans rfl
    have hcz38_3 : w13.cell? ⟨gb421, 3, none⟩ = some (.slice A0_3 l0_3.length c0_3) := (blk_cell BK421.out 3).trans rfl
    have hfz38_0 := blk_frozen BK421.out 0
    have hfz38_1 := blk_frozen BK421.out 1
    have hfz38_2 := blk_frozen BK421.out 2
    have hfz38_3 := blk_frozen BK421.out 3
    go_wp2_with (first | (go_at_call 77; (with_reducible refine (spec_l1In.calls a3 0 (wrap64 ((l0_3.length : Int) - 1)) false _ A21.out).mono ?_); rintro e w' ⟨rfl, ⟨nd, rfl⟩⟩))
    go_meet
    case rel => exact ⟨_, (true), (by first | rfl | (simp; done) | (simp [*]; done)), H', ⟨by first | omega | exact Nat.le_refl _⟩, ⟨by (with_reducible repeat (first | apply Kd.R_alloc | apply Kd.R_drewN | apply Kd.R_drew)); exact Kd.R_mono (Kd.R_far (p := ⟨gb433, 3, none⟩) (Kd.R_far (p := ⟨gb433, 2, none⟩) (Kd.R_far (p := ⟨gb433, 1, none⟩) (Kd.R_far (p := ⟨gb433, 0, none⟩) (Kd.R_types HO426.out BK433.out (by decide)) (fun _ hk => hk.2) (.int .i64 t423)) (fun _ hk => hk.2) (.slice Ao17 t424.length co17)) (fun _ hk => hk.2) (.slice Ao18 t427.length co18)) (fun _ hk => hk.2) (.slice Ao19 t430.length co19)) (fun _ hk => ⟨hk.1.1, hk.1.2⟩)⟩, ⟨by (with_reducible repeat (first | apply Kd.R_alloc | apply Kd.R_drewN | apply Kd.R_drew)); exact Kd.R_mono (Kd.R_far (p := ⟨gb433, 3, none⟩) (Kd.R_far (p := ⟨gb433, 2, none⟩) (Kd.R_far (p := ⟨gb433, 1, none⟩) (Kd.R_far (p := ⟨gb433, 0, none⟩) (Kd.R_types HO429.out BK433.out (by decide)) (fun _ hk => hk.2) (.int .i64 t423)) (fun _ hk => hk.2) (.slice Ao17 t424.length co17)) (fun _ hk => hk.2) (.slice Ao18 t427.length co18)) (fun _ hk => hk.2) (.slice Ao19 t430.length co19)) (fun _ hk => ⟨hk.1.1, hk.1.2⟩)⟩, ⟨by (with_reducible repeat (first | apply Kd.R_alloc | apply Kd.R_drewN | apply Kd.R_drew)); exact Kd.R_mono (Kd.R_far (p := ⟨gb433, 3, none⟩) (Kd.R_far (p := ⟨gb433, 2, none⟩) (Kd.R_far (p := ⟨gb433, 1, none⟩) (Kd.R_far (p := ⟨gb433, 0, none⟩) (Kd.R_types HO432.out BK433.out (by decide)) (fun _ hk => hk.2) (.int .i64 t423)) (fun _ hk => hk.2) (.slice Ao17 t424.length co17)) (fun _ hk => hk.2) (.slice Ao18 t427.length co18)) (fun _ hk => hk.2) (.slice Ao19 t430.length co19)) (fun _ hk => ⟨hk.1.1, hk.1.2⟩)⟩, ⟨by (with_reducible repeat (first | refine blk_drewN ?_ _ | refine blk_drew ?_ | refine blk_alloc ?_ _)); refine blk_far ?_ NB421_433.out _; (with_reducible repeat (first | refine blk_drewN ?_ _ | refine blk_drew ?_ | refine blk_alloc ?_ _)); refine blk_far ?_ NB421_433.out _; (with_reducible repeat (first | refine blk_drewN ?_ _ | refine blk_drew ?_ | refine blk_alloc ?_ _)); refine blk_far ?_ NB421_433.out _; (with_reducible repeat (first | refine blk_drewN ?_ _ | refine blk_drew ?_ | refine blk_alloc ?_ _)); refine blk_far ?_ NB421_433.out _; (with_reducible repeat (first | refine blk_drewN ?_ _ | refine blk_drew ?_ | refine blk_alloc ?_ _)); exact BK421.out⟩, ⟨by (with_reducible repeat (first | refine blk_drewN ?_ _ | refine blk_drew ?_ | refine blk_alloc ?_ _)); refine blk_far ?_ NB422_433.out _; (with_reducible repeat (first | refine blk_drewN ?_ _ | refine blk_drew ?_ | refine blk_alloc ?_ _)); refine blk_far ?_ NB422_433.out _; (with_reducible repeat (first | refine blk_drewN ?_ _ | refine blk_drew ?_ | refine blk_alloc ?_ _)); refine blk_far ?_ NB422_433.out _; (with_reducible repeat (first | refine blk_drewN ?_ _ | refine blk_drew ?_ | refine blk_alloc ?_ _)); refine blk_far ?_ NB422_433.out _; (with_reducible repeat (first | refine blk_drewN ?_ _ | refine blk_drew ?_ | refine blk_alloc ?_ _)); exact BK422.out⟩, ⟨by (with_reducible repeat (first | refine blk_drewN ?_ _ | refine blk_drew ?_ | refine blk_alloc ?_ _)); refine blk_put (cs := #[.int .i64 t423, .slice Ao17 t424.length co17, .slice Ao18 t427.length co18, .slice none 0 0]) ?_ 3 _ rfl; (with_reducible repeat (first | refine blk_drewN ?_ _ | refine blk_drew ?_ | refine blk_alloc ?_ _)); refine blk_put (cs := #[.int .i64 t423, .slice Ao17 t424.length co17, .slice none 0 0, .slice none 0 0]) ?_ 2 _ rfl; (with_reducible repeat (first | refine blk_drewN ?_ _ | refine blk_drew ?_ | refine blk_alloc ?_ _)); refine blk_put (cs := #[.int .i64 t423, .slice none 0 0, .slice none 0 0, .slice none 0 0]) ?_ 1 _ rfl; (with_reducible repeat (first | refine blk_drewN ?_ _ | refine blk_drew ?_ | refine blk_alloc ?_ _)); refine blk_put (cs := #[.int .i64 0, .slice none 0 0, .slice none 0 0, .slice none 0 0]) ?_ 0 _ rfl; (with_reducible repeat (first | refine blk_drewN ?_ _ | refine blk_drew ?_ | refine blk_alloc ?_ _)); exact BK433.out⟩, ⟨hb_ HB.out⟩⟩
  ·
   rw [if_neg c20] at H
   have c20b0 : (a2 == a0_0) = false := beq_eq_false_iff_ne.mpr c20
   have c20b1 : (a2 != a0_0) = true := bne_iff_ne.mpr c20
   (first | rw [c20b0] | (simp only [i64_w, i32_w]; rw [c20b0]) | rw [c20b4] | rw [c20b3] | skip)
   have H' := Aside0.mk H
   clear H
   have hnb39 := NB421_422.out
   have hnc39 := NB422_421.out
   have hnb40 := NB421_433.out
   have hnc40 := NB433_421.out
   have hcz41_0 : w13.cell? ⟨gb421, 0, none⟩ = some (.int .i64 a0_0) := (blk_cell BK421.out 0).trans rfl
   have hcz41_1 : w13.cell? ⟨gb421, 1, none⟩ = some (.slice A0_1 l0_1.length c0_1) := (blk_cell BK421.out 1).trans rfl
   have hcz41_2 : w13.cell? ⟨gb421, 2, none⟩ = some (.slice A0_2 l0_2.length c0_2) := (blk_cell BK421.out 2).trans rfl
   have hcz41_3 : w13.cell? ⟨gb421, 3, none⟩ = some (.slice A0_3 l0_3.length c0_3) := (blk_cell BK421.out 3).trans rfl
   have hfz41_0 := blk_frozen BK421.out 0
   have hfz41_1 := blk_frozen BK421.out 1
   have hfz41_2 := blk_frozen BK421.out 2
   have hfz41_3 := blk_frozen BK421.out 3
   go_wp2
   go_meet
   case rel => exact ⟨_, (true), (by first | rfl | (simp; done) | (simp [*]; done)), H', ⟨by first | omega | exact Nat.le_refl _⟩, ⟨by (with_reducible repeat (first | apply Kd.R_alloc | apply Kd.R_drewN | apply Kd.R_drew)); exact Kd.R_mono (Kd.R_far (p := ⟨gb433, 3, none⟩) (Kd.R_far (p := ⟨gb433, 2, none⟩) (Kd.R_far (p := ⟨gb433, 1, none⟩) (Kd.R_far (p := ⟨gb433, 0, none⟩) (Kd.R_types HO426.out BK433.out (by decide)) (fun _ hk => hk.2) (.int .i64 t423)) (fun _ hk => hk.2) (.slice Ao17 t424.length co17)) (fun _ hk => hk.2) (.slice Ao18 t427.length co18)) (fun _ hk => hk.2) (.slice Ao19 t430.length co19)) (fun _ hk => ⟨hk.1.1, hk.1.2⟩)⟩, ⟨by (with_reducible repeat (first | apply Kd.R_alloc | apply Kd.R_drewN | apply Kd.R_drew)); exact Kd.R_mono (Kd.R_far (p := ⟨gb433, 3, none⟩) (Kd.R_far (p := ⟨gb433, 2, none⟩) (Kd.R_far (p := ⟨gb433, 1, none⟩) (Kd.R_far (p := ⟨gb433, 0, none⟩) (Kd.R_types HO429.out BK433.out (by decide)) (fun _ hk => hk.2) (.int .i64 t423)) (fun _ hk => hk.2) (.slice Ao17 t424.length co17)) (fun _ hk => hk.2) (.slice Ao18 t427.length co18)) (fun _ hk => hk.2) (.slice Ao19 t430.length co19)) (fun _ hk => ⟨hk.1.1, hk.1.2⟩)⟩, ⟨by (with_reducible repeat (first | apply Kd.R_alloc | apply Kd.R_drewN | apply Kd.R_drew)); exact Kd.R_mono (Kd.R_far (p := ⟨gb433, 3, none⟩) (Kd.R_far (p := ⟨gb433, 2, none⟩) (Kd.R_far (p := ⟨gb433, 1, none⟩) (Kd.R_far (p := ⟨gb433, 0, none⟩) (Kd.R_types HO432.out BK433.out (by decide)) (fun _ hk => hk.2) (.int .i64 t423)) (fun _ hk => hk.2) (.slice Ao17 t424.length co17)) (fun _ hk => hk.2) (.slice Ao18 t427.length co18)) (fun _ hk => hk.2) (.slice Ao19 t430.length co19)) (fun _ hk => ⟨hk.1.1, hk.1.2⟩)⟩, ⟨by (with_reducible repeat (first | refine blk_drewN ?_ _ | refine blk_drew ?_ | refine blk_alloc ?_ _)); refine blk_far ?_ NB421_433.out _; (with_reducible repeat (first | refine blk_drewN ?_ _ | refine blk_drew ?_ | refine blk_alloc ?_ _)); refine blk_far ?_ NB421_433.out _; (with_reducible repeat (first | refine blk_drewN ?_ _ | refine blk_drew ?_ | refine blk_alloc ?_ _)); refine blk_far ?_ NB421_433.out _; (with_reducible repeat (first | refine blk_drewN ?_ _ | refine blk_drew ?_ | refine blk_alloc ?_ _)); refine blk_far ?_ NB421_433.out _; (with_reducible repeat (first | refine blk_drewN ?_ _ | refine blk_drew ?_ | refine blk_alloc ?_ _)); exact BK421.out⟩, ⟨by (with_reducible repeat (first | refine blk_drewN ?_ _ | refine blk_drew ?_ | refine blk_alloc ?_ _)); refine blk_far ?_ NB422_433.out _; (with_reducible repeat (first | refine blk_drewN ?_ _ | refine blk_drew ?_ | refine blk_alloc ?_ _)); refine blk_far ?_ NB422_433.out _; (with_reducible repeat (first | refine blk_drewN ?_ _ | refine blk_drew ?_ | refine blk_alloc ?_ _)); refine blk_far ?_ NB422_433.out _; (with_reducible repeat (first | refine blk_drewN ?_ _ | refine blk_drew ?_ | refine blk_alloc ?_ _)); refine blk_far ?_ NB422_433.out _; (with_reducible repeat (first | refine blk_drewN ?_ _ | refine blk_drew ?_ | refine blk_alloc ?_ _)); exact BK422.out⟩, ⟨by (with_reducible repeat (first | refine blk_drewN ?_ _ | refine blk_drew ?_ | refine blk_alloc ?_ _)); refine blk_put (cs := #[.int .i64 t423, .slice Ao17 t424.length co17, .slice Ao18 t427.length co18, .slice none 0 0]) ?_ 3 _ rfl; (with_reducible repeat (first | refine blk_drewN ?_ _ | refine blk_drew ?_ | refine blk_alloc ?_ _)); refine blk_put (cs := #[.int .i64 t423, .slice Ao17 t424.length co17, .slice none 0 0, .slice none 0 0]) ?_ 2 _ rfl; (with_reducible repeat (first | refine blk_drewN ?_ _ | refine blk_drew ?_ | refine blk_alloc ?_ _)); refine blk_put (cs := #[.int .i64 t423, .slice none 0 0, .slice none 0 0, .slice none 0 0]) ?_ 1 _ rfl; (with_reducible repeat (first | refine blk_drewN ?_ _ | refine blk_drew ?_ | refine blk_alloc ?_ _)); refine blk_put (cs := #[.int .i64 0, .slice none 0 0, .slice none 0 0, .slice none 0 0]) ?_ 0 _ rfl; (with_reducible repeat (first | refine blk_drewN ?_ _ | refine blk_drew ?_ | refine blk_alloc ?_ _)); exact BK433.out⟩, ⟨hb_ HB.out⟩⟩
 case rest =>
  clear HC7
  (try clear c1); (try clear c2); (try clear p2); (try clear c3); (try clear c4); (try clear p4); (try clear q4); (try clear hx4); (try clear p6); (try clear c9); (try clear c10); (try clear c14); (try clear c15); (try clear c20); (try clear c20b0); (try clear c20b1); (try clear c22); (try clear c24); (try clear c24b0); (try clear c24b1); (try clear c25); (try clear c25b0); (try clear c26); (try clear c26b0); (try clear c27); (try clear c28); (try clear c32); (try clear c33); (try clear c36); (try clear c37); (try clear c39); (try clear c40); (try clear hcz11_0); (try clear hcz11_1); (try clear hcz11_2); (try clear hcz11_3); (try clear hcz16_0); (try clear hcz16_1); (try clear hcz16_2); (try clear hcz16_3); (try clear hcz29_0); (try clear hcz29_1); (try clear hcz29_2); (try clear hcz29_3); (try clear hcz31_0); (try clear hcz31_1); (try clear hcz31_2); (try clear hcz31_3); (try clear hcz34_0); (try clear hcz34_1); (try clear hcz34_2); (try clear hcz34_3); (try clear hcz38_0); (try clear hcz38_1); (try clear hcz38_2); (try clear hcz38_3); (try clear hcz41_0); (try clear hcz41_1); (try clear hcz41_2); (try clear hcz41_3); (try clear hfz11_0); (try clear hfz11_1); (try clear hfz11_2); (try clear hfz11_3); (try clear hfz16_0); (try clear hfz16_1); (try clear hfz16_2); (try clear hfz16_3); (try clear hfz29_0); (try clear hfz29_1); (try clear hfz29_2); (try clear hfz29_3); (try clear hfz31_0); (try clear hfz31_1); (try clear hfz31_2); (try clear hfz31_3); (try clear hfz34_0); (try clear hfz34_1); (try clear hfz34_2); (try clear hfz34_3); (try clear hfz38_0); (try clear hfz38_1); (try clear hfz38_2); (try clear hfz38_3); (try clear hfz41_0); (try clear hfz41_1); (try clear hfz41_2); (try clear hfz41_3); (try clear hx436_0); (try clear p436); (try clear q436)
  obtain ⟨kq, x43_6, rfl, HA, HJ6, HO_434001, HO_434002, HO_434003, BK421, BK422, BK433, HB⟩ := hcut
  cases kq with
  | zero => exact absurd HA.out (by simp [spec_GroupMark.j0])
  | succ kj6 =>
   have H := HA.out
   clear HA
   simp only [spec_GroupMark.j0] at H
   by_cases c42 : x43_6 = true
   ·
    subst c42
    have H1 : (some (t423, t424, t427, t430, false)) = some (r1, r2, r3, r4, r5) := by rw [if_pos rfl] at H; exact H
    clear H
    have H := H1
    clear H1
    simp only [Option.some.injEq, Prod.mk.injEq] at H
    obtain ⟨rfl, rfl, rfl, rfl, rfl⟩ := H
    have hnb43 := NB433_421.out
    have hnc43 := NB421_433.out
    have hnb44 := NB433_422.out
    have hnc44 := NB422_433.out
    have hcz45_0 : wc.cell? ⟨gb433, 0, none⟩ = some (.int .i64 t423) := (blk_cell BK433.out 0).trans rfl
    have hcz45_1 : wc.cell? ⟨gb433, 1, none⟩ = some (.slice Ao17 t424.length co17) := (blk_cell BK433.out 1).trans rfl
    have hcz45_2 : wc.cell? ⟨gb433, 2, none⟩ = some (.slice Ao18 t427.length co18) := (blk_cell BK433.out 2).trans rfl
    have hcz45_3 : wc.cell? ⟨gb433, 3, none⟩ = some (.slice Ao19 t430.length co19) := (blk_cell BK433.out 3).trans rfl
    have hfz45_0 := blk_frozen BK433.out 0
    have hfz45_1 := blk_frozen BK433.out 1
    have hfz45_2 := blk_frozen BK433.out 2
    have hfz45_3 := blk_frozen BK433.out 3
    have hnb46 := NB422_421.out
    have hnc46 := NB421_422.out
    have hcz47_0 : wc.cell? ⟨gb422, 0, none⟩ = some (.int .i64 0) := (blk_cell BK422.out 0).trans rfl
    have hcz47_1 : wc.cell? ⟨gb422, 1, none⟩ = some (.slice none 0 0) := (blk_cell BK422.out 1).trans rfl
    have hcz47_2 : wc.cell? ⟨gb422, 2, none⟩ = some (.slice none 0 0) := (blk_cell BK422.out 2).trans rfl
    have hcz47_3 : wc.cell? ⟨gb422, 3, none⟩ = some (.slice none 0 0) := (blk_cell BK422.out 3).trans rfl
    have hfz47_0 := blk_frozen BK422.out 0
    have hfz47_1 := blk_frozen BK422.out 1
    have hfz47_2 := blk_frozen BK422.out 2
    have hfz47_3 := blk_frozen BK422.out 3
    go_wp2
    refine bodyPost_ret (results_ct rfl _ _ gb422 27 #[.int .i64 t423, .slice Ao17 t424.length co17, .slice Ao18 t427.length co18, .slice Ao19 t430.length co19] (0, 0) _ rfl (bp_ BK422.out) Try.underlying27 rfl (by kernel_rfl)) rfl ?_
    exact ⟨_, _, _, by first | rfl | (simp [errW_none, errW_some] <;> rfl) | (simp [*, errW_none, errW_some] <;> rfl), by (with_reducible repeat (first | apply Kd.R_alloc | apply Kd.R_drewN | apply Kd.R_drew)); exact Kd.R_mono (Kd.R_far (p := ⟨gb422, 3, none⟩) (Kd.R_far (p := ⟨gb422, 2, none⟩) (Kd.R_far (p := ⟨gb422, 1, none⟩) (Kd.R_far (p := ⟨gb422, 0, none⟩) (Kd.R_types HO_434001.out BK422.out (by decide)) (fun _ hk => hk.2) (.int .i64 t423)) (fun _ hk => hk.2) (.slice Ao17 t424.length co17)) (fun _ hk => hk.2) (.slice Ao18 t427.length co18)) (fun _ hk => hk.2) (.slice Ao19 t430.length co19)) (fun _ hk => ⟨hk.1.1, hk.1.2⟩), by (with_reducible repeat (first | apply Kd.R_alloc | apply Kd.R_drewN | apply Kd.R_drew)); exact Kd.R_mono (Kd.R_far (p := ⟨gb422, 3, none⟩) (Kd.R_far (p := ⟨gb422, 2, none⟩) (Kd.R_far (p := ⟨gb422, 1, none⟩) (Kd.R_far (p := ⟨gb422, 0, none⟩) (Kd.R_types HO_434002.out BK422.out (by decide)) (fun _ hk => hk.2) (.int .i64 t423)) (fun _ hk => hk.2) (.slice Ao17 t424.length co17)) (fun _ hk => hk.2) (.slice Ao18 t427.length co18)) (fun _ hk => hk.2) (.slice Ao19 t430.length co19)) (fun _ hk => ⟨hk.1.1, hk.1.2⟩), by (with_reducible repeat (first | apply Kd.R_alloc | apply Kd.R_drewN | apply Kd.R_drew)); exact Kd.R_mono (Kd.R_far (p := ⟨gb422, 3, none⟩) (Kd.R_far (p := ⟨gb422, 2, none⟩) (Kd.R_far (p := ⟨gb422, 1, none⟩) (Kd.R_far (p := ⟨gb422, 0, none⟩) (Kd.R_types HO_434003.out BK422.out (by decide)) (fun _ hk => hk.2) (.int .i64 t423)) (fun _ hk => hk.2) (.slice Ao17 t424.length co17)) (fun _ hk => hk.2) (.slice Ao18 t427.length co18)) (fun _ hk => hk.2) (.slice Ao19 t430.length co19)) (fun _ hk => ⟨hk.1.1, hk.1.2⟩), hb_ HB.out⟩
   ·
    replace c42 := Bool.eq_false_iff.mpr c42
    subst c42
    have H1 : (if 0 ≤ a3 then (if a3 < (t430.length : Int) then (some (t423, t424, t427, (t430.set (a3 : Int).toNat a4), true)) else (none)) else (none)) = some (r1, r2, r3, r4, r5) := by rw [if_neg (show ¬ (false = true) by decide)] at H; exact H
    clear H
    have H := H1
    clear H1
    by_cases c48 : 0 ≤ a3
    ·
     rw [if_pos c48] at H
     have c48b0 : decide (0 ≤ a3) = true := decide_eq_true c48
     clear c48
     by_cases c49 : a3 < (t430.length : Int)
     ·
      rw [if_pos c49] at H
      have c49b0 : decide (a3 < (t430.length : Int)) = true := decide_eq_true c49
      clear c49
      obtain ⟨y437, hy437⟩ : ∃ y_ : List Int, y_ = (t430.set (a3 : Int).toNat a4) := ⟨_, rfl⟩
      replace H : (some (t423, t424, t427, y437, true)) = some (r1, r2, r3, r4, r5) := by first | (rw [hy437]; with_reducible exact H) | (have H2_ := (Option.bind_some _ _).symm.trans H; rw [hy437]; with_reducible exact H2_) | (have H2_ := (Option.bind_some _ _).symm.trans H; with_reducible exact H2_) | with_reducible exact H | (rw [hy437]; exact H) | exact H
      have Ny437 := Aside0.mk hy437
      clear hy437
      simp only [Option.some.injEq, Prod.mk.injEq] at H
      obtain ⟨rfl, rfl, rfl, rfl, rfl⟩ := H
      have hnb51 := NB433_421.out
      have hnc51 := NB421_433.out
      have hnb52 := NB433_422.out
      have hnc52 := NB422_433.out
      have hcz53_0 : wc.cell? ⟨gb433, 0, none⟩ = some (.int .i64 t423) := (blk_cell BK433.out 0).trans rfl
      have hcz53_1 : wc.cell? ⟨gb433, 1, none⟩ = some (.slice Ao17 t424.length co17) := (blk_cell BK433.out 1).trans rfl
      have hcz53_2 : wc.cell? ⟨gb433, 2, none⟩ = some (.slice Ao18 t427.length co18) := (blk_cell BK433.out 2).trans rfl
      have hcz53_3 : wc.cell? ⟨gb433, 3, none⟩ = some (.slice Ao19 t430.length co19) := (blk_cell BK433.out 3).trans rfl
      have hfz53_0 := blk_frozen BK433.out 0
      have hfz53_1 := blk_frozen BK433.out 1
      have hfz53_2 := blk_frozen BK433.out 2
      have hfz53_3 := blk_frozen BK433.out 3
      have p50 : 0 ≤ (a3 : Int) := of_decide_eq_true (by first | (with_reducible assumption) | assumption)
      have q50 : (a3 : Int) < ((t430.length : Int) : Int) := of_decide_eq_true (by first | (with_reducible assumption) | assumption)
      obtain ⟨go50, co50, eo50, gb50, gl50, cl50, HG50⟩ := Kd.R_form HO_434003.out (by omega)
      (first | cases eo50 | (injection eo50 with ea_ en_ ec_; (first | subst ea_ | (injection ea_ with ea_; subst ea_)); subst ec_; clear en_))
      have GB50 := Aside0.mk gb50
      have GG50 := Aside0.mk HG50
      clear gb50 gl50 HG50
      obtain ⟨hx50_0, hf50_0⟩ := Kd.R_celln 0 HO_434003.out (a3 : Int) p50 q50
      replace p50 := eq_true p50
      replace q50 := eq_true q50
      have HP54 := Kd.R_putg HO_434003.out (a3 : Int) a4
      go_wp2_with (first | ((with_reducible refine gate_store (t := 3) (p := 49) rfl ?_); refine store_event (t := 3) (p := 49) (v := ?vo_w55) (w1 := (wc.setCell ⟨go50, (a3 : Int).toNat, none⟩ (.int .i64 a4))) ?hg ?ho ?hn ?hr ?_; (case ho => rfl); (case hg => rfl); (case hn => rfl); (case hr => first | (go_simp; done) | (go_simp; rfl)); intro w55 hw; have hg : wc.grownBy w55 (some go50) := (by rw [hw]; exact HP54.2); have hp_ : Kd.R (Kd.int .i64) 3 w55 w.heap.size (fun k_ => some k_ ≠ (.slice Ao17 t424.length co17 : Value).ownBlock ∧ some k_ ≠ (.slice Ao18 t427.length co18 : Value).ownBlock) (.slice (some ⟨go50, 0, none⟩) t430.length co19) y437 := (by rw [hw, Ny437.out]; exact HP54.1); clear HP54; have n0_ := Aside0.mk (Kd.R_after (v := (.slice (some ⟨go50, 0, none⟩) t430.length co19)) (v1 := (.slice (some ⟨go50, 0, none⟩) t430.length co19)) (ok := (fun k_ => some k_ ≠ (.slice Ao18 t427.length co18 : Value).ownBlock)) (rq_ HO_434001.out) hg (.inl rfl)); have n1_ := Aside0.mk (Kd.R_after (v := (.slice (some ⟨go50, 0, none⟩) t430.length co19)) (v1 := (.slice (some ⟨go50, 0, none⟩) t430.length co19)) (ok := (fun k_ => some k_ ≠ (.slice Ao17 t424.length co17 : Value).ownBlock)) (rq_ HO_434002.out) hg (.inl rfl)); have n2_ := Aside0.mk (hp_); have n3_ := Aside0.mk (blk_grown (g := gb421) (o := .cells #[.int .i64 a0_0, .slice A0_1 l0_1.length c0_1, .slice A0_2 l0_2.length c0_2, .slice A0_3 l0_3.length c0_3] 27 (0, 0)) (bq_ BK421.out) hg (Kd.R_ne HO_434003.out BK421.out (by decide))); have n4_ := Aside0.mk (blk_grown (g := gb422) (o := .cells #[.int .i64 0, .slice none 0 0, .slice none 0 0, .slice none 0 0] 27 (0, 0)) (bq_ BK422.out) hg (Kd.R_ne HO_434003.out BK422.out (by decide))); have n5_ := Aside0.mk (blk_grown (g := gb433) (o := .cells #[.int .i64 t423, .slice Ao17 t424.length co17, .slice Ao18 t427.length co18, .slice (some ⟨go50, 0, none⟩) t430.length co19] 27 (0, 0)) (bq_ BK433.out) hg (Kd.R_ne HO_434003.out BK433.out (by decide))); have n6_ := Aside0.mk ((by rw [hw]; exact below_set (HB.out) GB50.out : Below w.heap.size w w55)); clear HO_434001; clear HO_434002; clear HO_434003; clear BK421; clear BK422; clear BK433; clear HB; have HO_434001 := n0_; have HO_434002 := n1_; have HO_434003 := n2_; have BK421 := n3_; have BK422 := n4_; have BK433 := n5_; have HB := n6_; clear n0_ n1_ n2_ n3_ n4_ n5_ n6_; clear hg hw hp_; have hcz56_0 : w55.cell? ⟨gb433, 0, none⟩ = some (.int .i64 t423) := (blk_cell BK433.out 0).trans rfl; have hcz56_1 : w55.cell? ⟨gb433, 1, none⟩ = some (.slice Ao17 t424.length co17) := (blk_cell BK433.out 1).trans rfl; have hcz56_2 : w55.cell? ⟨gb433, 2, none⟩ = some (.slice Ao18 t427.length co18) := (blk_cell BK433.out 2).trans rfl; have hcz56_3 : w55.cell? ⟨gb433, 3, none⟩ = some (.slice (some ⟨go50, 0, none⟩) t430.length co19) := (blk_cell BK433.out 3).trans rfl; have hfz56_0 := blk_frozen BK433.out 0; have hfz56_1 := blk_frozen BK433.out 1; have hfz56_2 := blk_frozen BK433.out 2; have hfz56_3 := blk_frozen BK433.out 3; have hnb57 := NB422_421.out; have hnc57 := NB421_422.out; have hcz58_0 : w55.cell? ⟨gb422, 0, none⟩ = some (.int .i64 0) := (blk_cell BK422.out 0).trans rfl; have hcz58_1 : w55.cell? ⟨gb422, 1, none⟩ = some (.slice none 0 0) := (blk_cell BK422.out 1).trans rfl; have hcz58_2 : w55.cell? ⟨gb422, 2, none⟩ = some (.slice none 0 0) := (blk_cell BK422.out 2).trans rfl; have hcz58_3 : w55.cell? ⟨gb422, 3, none⟩ = some (.slice none 0 0) := (blk_cell BK422.out 3).trans rfl; have hfz58_0 := blk_frozen BK422.out 0; have hfz58_1 := blk_frozen BK422.out 1; have hfz58_2 := blk_frozen BK422.out 2; have hfz58_3 := blk_frozen BK422.out 3))
      refine bodyPost_ret (results_ct rfl _ _ gb422 27 #[.int .i64 t423, .slice Ao17 t424.length co17, .slice Ao18 t427.length co18, .slice (some ⟨go50, 0, none⟩) t430.length co19] (0, 0) _ rfl (bp_ BK422.out) Try.underlying27 rfl (by kernel_rfl)) rfl ?_
      exact ⟨_, _, _, by first | rfl | (simp [errW_none, errW_some] <;> rfl) | (simp [*, errW_none, errW_some] <;> rfl), by (with_reducible repeat (first | apply Kd.R_alloc | apply Kd.R_drewN | apply Kd.R_drew)); exact Kd.R_mono (Kd.R_far (p := ⟨gb422, 3, none⟩) (Kd.R_far (p := ⟨gb422, 2, none⟩) (Kd.R_far (p := ⟨gb422, 1, none⟩) (Kd.R_far (p := ⟨gb422, 0, none⟩) (Kd.R_types HO_434001.out BK422.out (by decide)) (fun _ hk => hk.2) (.int .i64 t423)) (fun _ hk => hk.2) (.slice Ao17 t424.length co17)) (fun _ hk => hk.2) (.slice Ao18 t427.length co18)) (fun _ hk => hk.2) (.slice (some ⟨go50, 0, none⟩) t430.length co19)) (fun _ hk => ⟨hk.1.1, hk.1.2⟩), by (with_reducible repeat (first | apply Kd.R_alloc | apply Kd.R_drewN | apply Kd.R_drew)); exact Kd.R_mono (Kd.R_far (p := ⟨gb422, 3, none⟩) (Kd.R_far (p := ⟨gb422, 2, none⟩) (Kd.R_far (p := ⟨gb422, 1, none⟩) (Kd.R_far (p := ⟨gb422, 0, none⟩) (Kd.R_types HO_434002.out BK422.out (by decide)) (fun _ hk => hk.2) (.int .i64 t423)) (fun _ hk => hk.2) (.slice Ao17 t424.length co17)) (fun _ hk => hk.2) (.slice Ao18 t427.length co18)) (fun _ hk => hk.2) (.slice (some ⟨go50, 0, none⟩) t430.length co19)) (fun _ hk => ⟨hk.1.1, hk.1.2⟩), by (with_reducible repeat (first | apply Kd.R_alloc | apply Kd.R_drewN | apply Kd.R_drew)); exact Kd.R_mono (Kd.R_far (p := ⟨gb422, 3, none⟩) (Kd.R_far (p := ⟨gb422, 2, none⟩) (Kd.R_far (p := ⟨gb422, 1, none⟩) (Kd.R_far (p := ⟨gb422, 0, none⟩) (Kd.R_types HO_434003.out BK422.out (by decide)) (fun _ hk => hk.2) (.int .i64 t423)) (fun _ hk => hk.2) (.slice Ao17 t424.length co17)) (fun _ hk => hk.2) (.slice Ao18 t427.length co18)) (fun _ hk => hk.2) (.slice (some ⟨go50, 0, none⟩) t430.length co19)) (fun _ hk => ⟨hk.1.1, hk.1.2⟩), hb_ HB.out⟩
     ·
      rw [if_neg c49] at H
      exact absurd H (by simp)
    ·
     rw [if_neg c48] at H
     exact absurd H (by simp)

end Go.Proofs.Ytgkeapbeogmfjaa.Q
