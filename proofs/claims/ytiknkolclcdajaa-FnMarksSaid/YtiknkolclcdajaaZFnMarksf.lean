/- Made by a program of ours out of the print of the loaded functions: for each of some functions a plain function, and the walk that shows that a call comes to what it says. No condition but those of each theorem. -/
import Derived.Test.YtiknkolclcdajaaZFnMarks0
import Derived.Test.YtiknkolclcdajaaZFnMarksa
import Derived.Test.YtiknkolclcdajaaZFnMarkse
namespace Go.Proofs.Ytiknkolclcdajaa.Q
open Go.RowKit Go.Proofs.YtiknkolclcdajaaW.PrintWords Go.Proofs.YtiknkolclcdajaaW.PrintLast Go.Proofs.YtiknkolclcdajaaW.PrintMore
attribute [local go_sem] max2_int min2_int max_two min_two max_three min_three max_four min_four   -- for this text's walks alone
set_option linter.unusedVariables false
set_option linter.unusedSimpArgs false

/-! ### impl_GroupMark: function 14 -/
def impl_GroupMark.j0 : Nat → Int → Int → Bool → Int → List Int → List Int → List Int → Option (Int × List Int × List Int × List Int × Bool)
 | 0, _, _, _, _, _, _, _ => none
 | k + 1, x3, x4, x43, x1702000, x1702001, x1702002, x1702003 => if x43 = true then (some (x1702000, x1702001, x1702002, x1702003, false)) else (if 0 ≤ x3 then (if x3 < (x1702003.length : Int) then (some (x1702000, x1702001, x1702002, (x1702003.set (x3 : Int).toNat x4), true)) else (none)) else (none))
def impl_GroupMark.f (k : Nat) (a0_0 : Int) (l0_1 : List Int) (l0_2 : List Int) (l0_3 : List Int) (a1 : Int) (a2 : Int) (a3 : Int) (a4 : Int) : Option (Int × List Int × List Int × List Int × Bool) := (impl_copyGroup.f a0_0 l0_1 l0_2 l0_3).bind fun bt1691 => (if a2 = a0_0 then ((impl_within.f a3 0 (wrap64 ((l0_3.length : Int) - 1))).bind fun t1702 => (if t1702 = true then ((impl_OwnerOf.f a0_0 l0_1 l0_2 l0_3 a3).bind fun t1703 => (if t1703 = a1 then (if 0 ≤ a3 then (if a3 < (l0_3.length : Int) then (impl_GroupMark.j0 k a3 a4 (decide (a4 < (rd l0_3 a3))) bt1691.1 bt1691.2.1 bt1691.2.2.1 bt1691.2.2.2) else (none)) else (none)) else (impl_GroupMark.j0 k a3 a4 true bt1691.1 bt1691.2.1 bt1691.2.2.1 bt1691.2.2.2))) else (impl_GroupMark.j0 k a3 a4 true bt1691.1 bt1691.2.1 bt1691.2.2.1 bt1691.2.2.2))) else (impl_GroupMark.j0 k a3 a4 true bt1691.1 bt1691.2.1 bt1691.2.2.1 bt1691.2.2.2))
theorem impl_GroupMark.mono_l : ∀ k, (∀ y0 y1 y2 y3 y4 y5 y6, LeO (impl_GroupMark.j0 k y0 y1 y2 y3 y4 y5 y6) (impl_GroupMark.j0 (k + 1) y0 y1 y2 y3 y4 y5 y6))
 | 0 => fun _ _ _ _ _ _ _ r h => by simp [impl_GroupMark.j0] at h
 | k + 1 => by
  have ih0 := impl_GroupMark.mono_l k
  ·
   intro y0 y1 y2 y3 y4 y5 y6
   unfold impl_GroupMark.j0
   repeat' first
   | (with_reducible exact ih0 _ _ _ _ _ _ _)
   | (with_reducible exact LeO.refl _)
   | (with_reducible exact LeO.none _)
   | (with_reducible refine LeO.ite ?_ ?_)
   | (with_reducible refine LeO.bind ?_ (fun _ => ?_))
   | exact ih0 _ _ _ _ _ _ _
   | exact LeO.none _
   | refine LeO.ite ?_ ?_
   | refine LeO.bind ?_ (fun _ => ?_)
theorem impl_GroupMark.mono : ∀ a0 a1 a2 a3 a4 a5 a6 a7 k, LeO (impl_GroupMark.f k a0 a1 a2 a3 a4 a5 a6 a7) (impl_GroupMark.f (k + 1) a0 a1 a2 a3 a4 a5 a6 a7) := by
 intro a0 a1 a2 a3 a4 a5 a6 a7 k
 have ih0 := impl_GroupMark.mono_l k
 unfold impl_GroupMark.f
 repeat' first
  | (with_reducible exact ih0 _ _ _ _ _ _ _)
  | (with_reducible exact LeO.refl _)
  | (with_reducible exact LeO.none _)
  | (with_reducible refine LeO.ite ?_ ?_)
  | (with_reducible refine LeO.bind ?_ (fun _ => ?_))
  | exact ih0 _ _ _ _ _ _ _
  | exact LeO.none _
  | refine LeO.ite ?_ ?_
  | refine LeO.bind ?_ (fun _ => ?_)
set_option maxHeartbeats 8000000 in
set_option maxRecDepth 100000 in
theorem impl_GroupMark.calls (k : Nat) (a0_0 : Int) (A0_1 : Option Addr) (c0_1 : Nat) (l0_1 : List Int) (A0_2 : Option Addr) (c0_2 : Nat) (l0_2 : List Int) (A0_3 : Option Addr) (c0_3 : Nat) (l0_3 : List Int) (a1 : Int) (a2 : Int) (a3 : Int) (a4 : Int) (r1 : Int) (r2 : List Int) (r3 : List Int) (r4 : List Int) (r5 : Bool) (w : World) (hr0_1 : Kd.C (Kd.int .i64) w A0_1 l0_1.length l0_1) (hc0_1 : l0_1.length ≤ c0_1) (hr0_2 : Kd.C (Kd.int .i64) w A0_2 l0_2.length l0_2) (hc0_2 : l0_2.length ≤ c0_2) (hr0_3 : Kd.C (Kd.int .i64) w A0_3 l0_3.length l0_3) (hc0_3 : l0_3.length ≤ c0_3) (h : impl_GroupMark.f k a0_0 l0_1 l0_2 l0_3 a1 a2 a3 a4 = some (r1, r2, r3, r4, r5)) :
 Calls Try.prog 14 #[.agg #[.int .i64 a0_0, .slice A0_1 l0_1.length c0_1, .slice A0_2 l0_2.length c0_2, .slice A0_3 l0_3.length c0_3], .int .i64 a1, .int .i64 a2, .int .i64 a3, .int .i64 a4] w fun e w' => ∃ v1_ v2_ v3_ : Value, e = .returned (.tuple #[.agg #[.int .i64 r1, v1_, v2_, v3_], .bool r5]) ∧ Kd.R (Kd.int .i64) 3 w' w.heap.size (fun k_ => some k_ ≠ (v2_ : Value).ownBlock ∧ some k_ ≠ (v3_ : Value).ownBlock) v1_ r2 ∧ Kd.R (Kd.int .i64) 3 w' w.heap.size (fun k_ => some k_ ≠ (v1_ : Value).ownBlock ∧ some k_ ≠ (v3_ : Value).ownBlock) v2_ r3 ∧ Kd.R (Kd.int .i64) 3 w' w.heap.size (fun k_ => some k_ ≠ (v1_ : Value).ownBlock ∧ some k_ ≠ (v2_ : Value).ownBlock) v3_ r4 ∧ Below w.heap.size w w' := by
 have hu26 := Try.underlying26
 have HR0_1 := Aside0.mk hr0_1
 have HC0_1 := Aside0.mk hc0_1
 clear hr0_1 hc0_1
 have HR0_2 := Aside0.mk hr0_2
 have HC0_2 := Aside0.mk hc0_2
 clear hr0_2 hc0_2
 have HR0_3 := Aside0.mk hr0_3
 have HC0_3 := Aside0.mk hc0_3
 clear hr0_3 hc0_3
 have HB := Aside0.mk (Below.refl w.heap.size w)
 have H : ((impl_copyGroup.f a0_0 l0_1 l0_2 l0_3).bind fun bt1691 => (if a2 = a0_0 then ((impl_within.f a3 0 (wrap64 ((l0_3.length : Int) - 1))).bind fun t1702 => (if t1702 = true then ((impl_OwnerOf.f a0_0 l0_1 l0_2 l0_3 a3).bind fun t1703 => (if t1703 = a1 then (if 0 ≤ a3 then (if a3 < (l0_3.length : Int) then (impl_GroupMark.j0 k a3 a4 (decide (a4 < (rd l0_3 a3))) bt1691.1 bt1691.2.1 bt1691.2.2.1 bt1691.2.2.2) else (none)) else (none)) else (impl_GroupMark.j0 k a3 a4 true bt1691.1 bt1691.2.1 bt1691.2.2.1 bt1691.2.2.2))) else (impl_GroupMark.j0 k a3 a4 true bt1691.1 bt1691.2.1 bt1691.2.2.1 bt1691.2.2.2))) else (impl_GroupMark.j0 k a3 a4 true bt1691.1 bt1691.2.1 bt1691.2.2.1 bt1691.2.2.2))) = some (r1, r2, r3, r4, r5) := h
 clear h
 replace H := Option.bind_eq_some_iff.mp H
 obtain ⟨⟨t1691, t1692, t1695, t1698⟩, A60, H⟩ := H
 replace H : (if a2 = a0_0 then ((impl_within.f a3 0 (wrap64 ((l0_3.length : Int) - 1))).bind fun t1702 => (if t1702 = true then ((impl_OwnerOf.f a0_0 l0_1 l0_2 l0_3 a3).bind fun t1703 => (if t1703 = a1 then (if 0 ≤ a3 then (if a3 < (l0_3.length : Int) then (impl_GroupMark.j0 k a3 a4 (decide (a4 < (rd l0_3 a3))) t1691 t1692 t1695 t1698) else (none)) else (none)) else (impl_GroupMark.j0 k a3 a4 true t1691 t1692 t1695 t1698))) else (impl_GroupMark.j0 k a3 a4 true t1691 t1692 t1695 t1698))) else (impl_GroupMark.j0 k a3 a4 true t1691 t1692 t1695 t1698)) = some (r1, r2, r3, r4, r5) := H
 have A6 := Aside0.mk A60
 clear A60
 have HC7 := Aside0.mk H
 clear H
 go_enter Try.func14, Try.ntmps14
 go_upto_region 2 with (first | ((with_reducible refine gate_dst (N := 5) rfl ?_); (try (refine gate_guard (by rfl) ?_; dsimp only)); refine box_event ?hg (N := 5) ?hd (cs := #[.int .i64 a0_0, .slice A0_1 l0_1.length c0_1, .slice A0_2 l0_2.length c0_2, .slice A0_3 l0_3.length c0_3]) (t := 26) ?hr ?_; (case hd => rfl); (case hg => rfl); (case hr => first | (go_simp; done) | (go_simp; rfl)); intro gb1689 hg w8 hbox hb; have n0_ := Aside0.mk (below_step (hb_ HB.out) hb); have n1_ := Aside0.mk (hbox); have n2_ := Aside0.mk ((by rw [hg]; exact (below_size (hb_ HB.out)) : w.heap.size ≤ gb1689)); have n3_ := Aside0.mk ((by rw [hg]; exact (below_size (hb_ HB.out)) : w.heap.size ≤ gb1689)); clear HB; have HB := n0_; have BK1689 := n1_; have GW1689 := n2_; have GE1689 := n3_; clear n0_ n1_ n2_ n3_; clear hb hbox hg) | ((with_reducible refine gate_dst (N := 10) rfl ?_); (try (refine gate_guard (by rfl) ?_; dsimp only)); refine box_event ?hg (N := 10) ?hd (cs := #[.int .i64 0, .slice none 0 0, .slice none 0 0, .slice none 0 0]) (t := 26) ?hr ?_; (case hd => rfl); (case hg => rfl); (case hr => first | (go_simp; done) | (go_simp; rfl)); intro gb1690 hg w9 hbox hb; have n0_ := Aside0.mk (bb_ BK1689.out hb); have n1_ := Aside0.mk (below_step (hb_ HB.out) hb); have n2_ := Aside0.mk (hbox); have n3_ := Aside0.mk ((by rw [hg]; exact (below_size (hb_ HB.out)) : w.heap.size ≤ gb1690)); have n4_ := Aside0.mk ((by rw [hg]; exact (below_size (hb_ HB.out)) : w.heap.size ≤ gb1690)); have n5_ := Aside0.mk ((nl_ BK1689.out hg : gb1689 ≠ gb1690)); have n6_ := Aside0.mk ((ng_ BK1689.out hg : gb1690 ≠ gb1689)); clear BK1689; clear HB; have BK1689 := n0_; have HB := n1_; have BK1690 := n2_; have GW1690 := n3_; have GE1690 := n4_; have NB1689_1690 := n5_; have NB1690_1689 := n6_; clear n0_ n1_ n2_ n3_ n4_ n5_ n6_; clear hb hbox hg; have hnb10 := NB1689_1690.out; have hnc10 := NB1690_1689.out; have hcz11_0 : w9.cell? ⟨gb1689, 0, none⟩ = some (.int .i64 a0_0) := (blk_cell BK1689.out 0).trans rfl; have hcz11_1 : w9.cell? ⟨gb1689, 1, none⟩ = some (.slice A0_1 l0_1.length c0_1) := (blk_cell BK1689.out 1).trans rfl; have hcz11_2 : w9.cell? ⟨gb1689, 2, none⟩ = some (.slice A0_2 l0_2.length c0_2) := (blk_cell BK1689.out 2).trans rfl; have hcz11_3 : w9.cell? ⟨gb1689, 3, none⟩ = some (.slice A0_3 l0_3.length c0_3) := (blk_cell BK1689.out 3).trans rfl; have hfz11_0 := blk_frozen BK1689.out 0; have hfz11_1 := blk_frozen BK1689.out 1; have hfz11_2 := blk_frozen BK1689.out 2; have hfz11_3 := blk_frozen BK1689.out 3) | ((with_reducible refine gate_callee (f := 81) rfl ?_); refine goesL_ (some 14) rfl rfl Try.func81 (by kernel_rfl) rfl #[.agg #[.int .i64 a0_0, .slice A0_1 l0_1.length c0_1, .slice A0_2 l0_2.length c0_2, .slice A0_3 l0_3.length c0_3]] rfl sm_ ?_; (with_reducible refine (impl_copyGroup.calls a0_0 _ _ l0_1 _ _ l0_2 _ _ l0_3 t1691 t1692 t1695 t1698 _ ?side1 ?side2 ?side3 ?side4 ?side5 ?side6 A6.out).mono ?_); (case side1 => repeat (first | exact (Kd.C_below HR0_1.out HB.out) | (with_reducible refine Kd.C_alloc ?_ _) | (with_reducible refine Kd.C_drewN ?_ _) | (with_reducible refine Kd.C_drew ?_))); (case side2 => exact HC0_1.out); (case side3 => repeat (first | exact (Kd.C_below HR0_2.out HB.out) | (with_reducible refine Kd.C_alloc ?_ _) | (with_reducible refine Kd.C_drewN ?_ _) | (with_reducible refine Kd.C_drew ?_))); (case side4 => exact HC0_2.out); (case side5 => repeat (first | exact (Kd.C_below HR0_3.out HB.out) | (with_reducible refine Kd.C_alloc ?_ _) | (with_reducible refine Kd.C_drewN ?_ _) | (with_reducible refine Kd.C_drew ?_))); (case side6 => exact HC0_3.out); rintro e w12 ⟨v1693, v1696, v1699, rfl, ho0, ho1, ho2, hb⟩; refine ⟨_, rfl, ?_⟩; have n0_ := Aside0.mk (Kd.R_lower ho0 (below_size (hb_ HB.out))); have n1_ := Aside0.mk (Kd.R_lower ho1 (below_size (hb_ HB.out))); have n2_ := Aside0.mk (Kd.R_lower ho2 (below_size (hb_ HB.out))); have n3_ := Aside0.mk (bb_ BK1689.out hb); have n4_ := Aside0.mk (bb_ BK1690.out hb); have n5_ := Aside0.mk (below_step (hb_ HB.out) hb); clear BK1689; clear BK1690; clear HB; have HO1694 := n0_; have HO1697 := n1_; have HO1700 := n2_; have BK1689 := n3_; have BK1690 := n4_; have HB := n5_; clear n0_ n1_ n2_ n3_ n4_ n5_; (try clear hb); (try clear hb2); (try clear hk); (try clear hi); (try clear ho0); (try clear ho1); (try clear ho2)) | ((with_reducible refine gate_dst (N := 12) rfl ?_); (try (refine gate_guard (by rfl) ?_; dsimp only)); refine box_event ?hg (N := 12) ?hd (cs := #[.int .i64 0, .slice none 0 0, .slice none 0 0, .slice none 0 0]) (t := 26) ?hr ?_; (case hd => rfl); (case hg => rfl); (case hr => first | (go_simp; done) | (go_simp; rfl)); intro gb1701 hg w13 hbox hb; have n0_ := Aside0.mk (Kd.R_below (rq_ HO1694.out) hb); have n1_ := Aside0.mk (Kd.R_below (rq_ HO1697.out) hb); have n2_ := Aside0.mk (Kd.R_below (rq_ HO1700.out) hb); have n3_ := Aside0.mk (bb_ BK1689.out hb); have n4_ := Aside0.mk (bb_ BK1690.out hb); have n5_ := Aside0.mk (below_step (hb_ HB.out) hb); have n6_ := Aside0.mk (hbox); have n7_ := Aside0.mk ((by rw [hg]; exact (below_size (hb_ HB.out)) : w.heap.size ≤ gb1701)); have n8_ := Aside0.mk ((by rw [hg]; exact (below_size (hb_ HB.out)) : w.heap.size ≤ gb1701)); have n9_ := Aside0.mk ((nl_ BK1689.out hg : gb1689 ≠ gb1701)); have n10_ := Aside0.mk ((ng_ BK1689.out hg : gb1701 ≠ gb1689)); have n11_ := Aside0.mk ((nl_ BK1690.out hg : gb1690 ≠ gb1701)); have n12_ := Aside0.mk ((ng_ BK1690.out hg : gb1701 ≠ gb1690)); clear HO1694; clear HO1697; clear HO1700; clear BK1689; clear BK1690; clear HB; have HO1694 := n0_; have HO1697 := n1_; have HO1700 := n2_; have BK1689 := n3_; have BK1690 := n4_; have HB := n5_; have BK1701 := n6_; have GW1701 := n7_; have GE1701 := n8_; have NB1689_1701 := n9_; have NB1701_1689 := n10_; have NB1690_1701 := n11_; have NB1701_1690 := n12_; clear n0_ n1_ n2_ n3_ n4_ n5_ n6_ n7_ n8_ n9_ n10_ n11_ n12_; clear hb hbox hg; have hnb14 := NB1701_1689.out; have hnc14 := NB1689_1701.out; have hnb15 := NB1701_1690.out; have hnc15 := NB1690_1701.out; have hcz16_0 : w13.cell? ⟨gb1701, 0, none⟩ = some (.int .i64 0) := (blk_cell BK1701.out 0).trans rfl; have hcz16_1 : w13.cell? ⟨gb1701, 1, none⟩ = some (.slice none 0 0) := (blk_cell BK1701.out 1).trans rfl; have hcz16_2 : w13.cell? ⟨gb1701, 2, none⟩ = some (.slice none 0 0) := (blk_cell BK1701.out 2).trans rfl; have hcz16_3 : w13.cell? ⟨gb1701, 3, none⟩ = some (.slice none 0 0) := (blk_cell BK1701.out 3).trans rfl; have hfz16_0 := blk_frozen BK1701.out 0; have hfz16_1 := blk_frozen BK1701.out 1; have hfz16_2 := blk_frozen BK1701.out 2; have hfz16_3 := blk_frozen BK1701.out 3; obtain ⟨Ao17, co17, eo17⟩ := Kd.R_slice HO1694.out; subst eo17; obtain ⟨Ao18, co18, eo18⟩ := Kd.R_slice HO1697.out; subst eo18; obtain ⟨Ao19, co19, eo19⟩ := Kd.R_slice HO1700.out; subst eo19))
 (try simp only [Act.put, List.setIfInBounds_toArray, List.set_cons_zero, List.set_cons_succ])
 go_cut [43] (fun v43 wc => ∃ (kq : Nat) (x43_6 : Bool), v43 = .bool x43_6 ∧ Aside0 (impl_GroupMark.j0 kq a3 a4 x43_6 t1691 t1692 t1695 t1698 = some (r1, r2, r3, r4, r5)) ∧ Aside0 (kq ≤ k) ∧ Aside0 (Kd.R (Kd.int .i64) 3 wc w.heap.size (fun k_ => some k_ ≠ ((.slice Ao18 t1695.length co18) : Value).ownBlock ∧ some k_ ≠ ((.slice Ao19 t1698.length co19) : Value).ownBlock) (.slice Ao17 t1692.length co17) t1692) ∧ Aside0 (Kd.R (Kd.int .i64) 3 wc w.heap.size (fun k_ => some k_ ≠ ((.slice Ao17 t1692.length co17) : Value).ownBlock ∧ some k_ ≠ ((.slice Ao19 t1698.length co19) : Value).ownBlock) (.slice Ao18 t1695.length co18) t1695) ∧ Aside0 (Kd.R (Kd.int .i64) 3 wc w.heap.size (fun k_ => some k_ ≠ ((.slice Ao17 t1692.length co17) : Value).ownBlock ∧ some k_ ≠ ((.slice Ao18 t1695.length co18) : Value).ownBlock) (.slice Ao19 t1698.length co19) t1698) ∧ Aside0 (wc.heap[gb1689]? = some (.cells #[.int .i64 a0_0, (.slice A0_1 l0_1.length c0_1), (.slice A0_2 l0_2.length c0_2), (.slice A0_3 l0_3.length c0_3)] 26 (0, 0))) ∧ Aside0 (wc.heap[gb1690]? = some (.cells #[.int .i64 0, (.slice none 0 0), (.slice none 0 0), (.slice none 0 0)] 26 (0, 0))) ∧ Aside0 (wc.heap[gb1701]? = some (.cells #[.int .i64 t1691, (.slice Ao17 t1692.length co17), (.slice Ao18 t1695.length co18), (.slice Ao19 t1698.length co19)] 26 (0, 0))) ∧ Aside0 (Below w.heap.size w wc))
 case first =>
  have H := HC7.out
  clear HC7
  by_cases c20 : a2 = a0_0
  ·
   rw [if_pos c20] at H
   have c20b0 : (a2 == a0_0) = true := beq_iff_eq.mpr c20
   have c20b1 : (a2 != a0_0) = false := bne_eq_false_iff_eq.mpr c20
   clear c20
   (first | rw [c20b0] | (simp only [i64_w, i32_w]; rw [c20b0]) | rw [c20b4] | rw [c20b3] | skip)
   replace H := Option.bind_eq_some_iff.mp H
   obtain ⟨t1702, A210, H⟩ := H
   replace H : (if t1702 = true then ((impl_OwnerOf.f a0_0 l0_1 l0_2 l0_3 a3).bind fun t1703 => (if t1703 = a1 then (if 0 ≤ a3 then (if a3 < (l0_3.length : Int) then (impl_GroupMark.j0 k a3 a4 (decide (a4 < (rd l0_3 a3))) t1691 t1692 t1695 t1698) else (none)) else (none)) else (impl_GroupMark.j0 k a3 a4 true t1691 t1692 t1695 t1698))) else (impl_GroupMark.j0 k a3 a4 true t1691 t1692 t1695 t1698)) = some (r1, r2, r3, r4, r5) := H
   have A21 := Aside0.mk A210
   clear A210
   by_cases c22 : t1702 = true
   ·
    subst c22
    have H1 : ((impl_OwnerOf.f a0_0 l0_1 l0_2 l0_3 a3).bind fun t1703 => (if t1703 = a1 then (if 0 ≤ a3 then (if a3 < (l0_3.length : Int) then (impl_GroupMark.j0 k a3 a4 (decide (a4 < (rd l0_3 a3))) t1691 t1692 t1695 t1698) else (none)) else (none)) else (impl_GroupMark.j0 k a3 a4 true t1691 t1692 t1695 t1698))) = some (r1, r2, r3, r4, r5) := by rw [if_pos rfl] at H; exact H
    clear H
    have H := H1
    clear H1
    replace H := Option.bind_eq_some_iff.mp H
    obtain ⟨t1703, A230, H⟩ := H
    replace H : (if t1703 = a1 then (if 0 ≤ a3 then (if a3 < (l0_3.length : Int) then (impl_GroupMark.j0 k a3 a4 (decide (a4 < (rd l0_3 a3))) t1691 t1692 t1695 t1698) else (none)) else (none)) else (impl_GroupMark.j0 k a3 a4 true t1691 t1692 t1695 t1698)) = some (r1, r2, r3, r4, r5) := H
    have A23 := Aside0.mk A230
    clear A230
    by_cases c24 : t1703 = a1
    ·
     rw [if_pos c24] at H
     have c24b0 : (t1703 == a1) = true := beq_iff_eq.mpr c24
     have c24b1 : (t1703 != a1) = false := bne_eq_false_iff_eq.mpr c24
     clear c24
     by_cases c25 : 0 ≤ a3
     ·
      rw [if_pos c25] at H
      have c25b0 : decide (0 ≤ a3) = true := decide_eq_true c25
      clear c25
      by_cases c26 : a3 < (l0_3.length : Int)
      ·
       rw [if_pos c26] at H
       have c26b0 : decide (a3 < (l0_3.length : Int)) = true := decide_eq_true c26
       clear c26
       have H' := Aside0.mk H
       clear H
       have hnb27 := NB1689_1690.out
       have hnc27 := NB1690_1689.out
       have hnb28 := NB1689_1701.out
       have hnc28 := NB1701_1689.out
       have hcz29_0 : w13.cell? ⟨gb1689, 0, none⟩ = some (.int .i64 a0_0) := (blk_cell BK1689.out 0).trans rfl
       have hcz29_1 : w13.cell? ⟨gb1689, 1, none⟩ = some (.slice A0_1 l0_1.length c0_1) := (blk_cell BK1689.out 1).trans rfl
       have hcz29_2 : w13.cell? ⟨gb1689, 2, none⟩ = some (.slice A0_2 l0_2.length c0_2) := (blk_cell BK1689.out 2).trans rfl
       have hcz29_3 : w13.cell? ⟨gb1689, 3, none⟩ = some (.slice A0_3 l0_3.length c0_3) := (blk_cell BK1689.out 3).trans rfl
       have hfz29_0 := blk_frozen BK1689.out 0
       have hfz29_1 := blk_frozen BK1689.out 1
       have hfz29_2 := blk_frozen BK1689.out 2
       have hfz29_3 := blk_frozen BK1689.out 3
       go_wp2_with (first | (go_at_call 82; (with_reducible refine (impl_within.calls a3 0 (wrap64 ((l0_3.length : Int) - 1)) true _ A21.out).mono ?_); rintro e w' ⟨rfl, ⟨nd, rfl⟩⟩) | (go_at_call 17; (with_reducible refine (impl_OwnerOf.calls a0_0 _ _ l0_1 _ _ l0_2 _ _ l0_3 a3 t1703 _ ?side1 ?side2 ?side3 ?side4 ?side5 ?side6 A23.out).mono ?_); (case side1 => exact Kd.C_below HR0_1.out (hb_ HB.out)); (case side2 => exact HC0_1.out); (case side3 => exact Kd.C_below HR0_2.out (hb_ HB.out)); (case side4 => exact HC0_2.out); (case side5 => exact Kd.C_below HR0_3.out (hb_ HB.out)); (case side6 => exact HC0_3.out); rintro e w30 ⟨rfl, hb⟩; have n0_ := Aside0.mk (Kd.R_below (rk_ HO1694.out BK1701.out) hb); have n1_ := Aside0.mk (Kd.R_below (rk_ HO1697.out BK1701.out) hb); have n2_ := Aside0.mk (Kd.R_below (rk_ HO1700.out BK1701.out) hb); have n3_ := Aside0.mk (blk_below (g := gb1689) (o := .cells #[.int .i64 a0_0, .slice A0_1 l0_1.length c0_1, .slice A0_2 l0_2.length c0_2, .slice A0_3 l0_3.length c0_3] 26 (0, 0)) (bf_ NB1689_1701.out BK1689.out) hb); have n4_ := Aside0.mk (blk_below (g := gb1690) (o := .cells #[.int .i64 0, .slice none 0 0, .slice none 0 0, .slice none 0 0] 26 (0, 0)) (bf_ NB1690_1701.out BK1690.out) hb); have n5_ := Aside0.mk (blk_below (g := gb1701) (o := .cells #[.int .i64 t1691, .slice Ao17 t1692.length co17, .slice Ao18 t1695.length co18, .slice Ao19 t1698.length co19] 26 (0, 0)) (bp_ BK1701.out) hb); have n6_ := Aside0.mk (below_step (hb_ HB.out) hb); clear HO1694; clear HO1697; clear HO1700; clear BK1689; clear BK1690; clear BK1701; clear HB; have HO1694 := n0_; have HO1697 := n1_; have HO1700 := n2_; have BK1689 := n3_; have BK1690 := n4_; have BK1701 := n5_; have HB := n6_; clear n0_ n1_ n2_ n3_ n4_ n5_ n6_; (try clear hb); (try clear hb2); (try clear hk); (try clear hi); have hcz31_0 : w30.cell? ⟨gb1689, 0, none⟩ = some (.int .i64 a0_0) := (blk_cell BK1689.out 0).trans rfl; have hcz31_1 : w30.cell? ⟨gb1689, 1, none⟩ = some (.slice A0_1 l0_1.length c0_1) := (blk_cell BK1689.out 1).trans rfl; have hcz31_2 : w30.cell? ⟨gb1689, 2, none⟩ = some (.slice A0_2 l0_2.length c0_2) := (blk_cell BK1689.out 2).trans rfl; have hcz31_3 : w30.cell? ⟨gb1689, 3, none⟩ = some (.slice A0_3 l0_3.length c0_3) := (blk_cell BK1689.out 3).trans rfl; have hfz31_0 := blk_frozen BK1689.out 0; have hfz31_1 := blk_frozen BK1689.out 1; have hfz31_2 := blk_frozen BK1689.out 2; have hfz31_3 := blk_frozen BK1689.out 3; have p1704 : 0 ≤ (a3 : Int) := of_decide_eq_true (by first | (with_reducible assumption) | assumption); have q1704 : a3 < (l0_3.length : Int) := of_decide_eq_true (by first | (with_reducible assumption) | assumption); obtain ⟨ad1704, e1704, hx1704_0⟩ := Kd.at_int HR0_3.out a3 p1704 q1704; cases e1704; replace hx1704_0 := (HB.out.cell (World.block_lt_of_cell? w _ hx1704_0)).trans hx1704_0; replace p1704 := eq_true p1704; replace q1704 := eq_true q1704))
       go_meet
       case rel => exact ⟨_, (decide (a4 < (rd l0_3 a3))), (by first | rfl | (simp; done) | (simp [*]; done)), H', ⟨by first | omega | exact Nat.le_refl _⟩, ⟨rq_ HO1694.out⟩, ⟨rq_ HO1697.out⟩, ⟨rq_ HO1700.out⟩, ⟨bq_ BK1689.out⟩, ⟨bq_ BK1690.out⟩, ⟨bq_ BK1701.out⟩, ⟨hb_ HB.out⟩⟩
      ·
       rw [if_neg c26] at H
       exact absurd H (by simp)
     ·
      rw [if_neg c25] at H
      exact absurd H (by simp)
    ·
     rw [if_neg c24] at H
     have c24b0 : (t1703 == a1) = false := beq_eq_false_iff_ne.mpr c24
     have c24b1 : (t1703 != a1) = true := bne_iff_ne.mpr c24
     have H' := Aside0.mk H
     clear H
     have hnb32 := NB1689_1690.out
     have hnc32 := NB1690_1689.out
     have hnb33 := NB1689_1701.out
     have hnc33 := NB1701_1689.out
     have hcz34_0 : w13.cell? ⟨gb1689, 0, none⟩ = some (.int .i64 a0_0) := (blk_cell BK1689.out 0).trans rfl
     have hcz34_1 : w13.cell? ⟨gb1689, 1, none⟩ = some (.slice A0_1 l0_1.length c0_1) := (blk_cell BK1689.out 1).trans rfl
     have hcz34_2 : w13.cell? ⟨gb1689, 2, none⟩ = some (.slice A0_2 l0_2.length c0_2) := (blk_cell BK1689.out 2).trans rfl
     have hcz34_3 : w13.cell? ⟨gb1689, 3, none⟩ = some (.slice A0_3 l0_3.length c0_3) := (blk_cell BK1689.out 3).trans rfl
     have hfz34_0 := blk_frozen BK1689.out 0
     have hfz34_1 := blk_frozen BK1689.out 1
     have hfz34_2 := blk_frozen BK1689.out 2
     have hfz34_3 := blk_frozen BK1689.out 3
     go_wp2_with (first | (go_at_call 82; (with_reducible refine (impl_within.calls a3 0 (wrap64 ((l0_3.length : Int) - 1)) true _ A21.out).mono ?_); rintro e w' ⟨rfl, ⟨nd, rfl⟩⟩) | (go_at_call 17; (with_reducible refine (impl_OwnerOf.calls a0_0 _ _ l0_1 _ _ l0_2 _ _ l0_3 a3 t1703 _ ?side1 ?side2 ?side3 ?side4 ?side5 ?side6 A23.out).mono ?_); (case side1 => exact Kd.C_below HR0_1.out (hb_ HB.out)); (case side2 => exact HC0_1.out); (case side3 => exact Kd.C_below HR0_2.out (hb_ HB.out)); (case side4 => exact HC0_2.out); (case side5 => exact Kd.C_below HR0_3.out (hb_ HB.out)); (case side6 => exact HC0_3.out); rintro e w35 ⟨rfl, hb⟩; have n0_ := Aside0.mk (Kd.R_below (rk_ HO1694.out BK1701.out) hb); have n1_ := Aside0.mk (Kd.R_below (rk_ HO1697.out BK1701.out) hb); have n2_ := Aside0.mk (Kd.R_below (rk_ HO1700.out BK1701.out) hb); have n3_ := Aside0.mk (blk_below (g := gb1689) (o := .cells #[.int .i64 a0_0, .slice A0_1 l0_1.length c0_1, .slice A0_2 l0_2.length c0_2, .slice A0_3 l0_3.length c0_3] 26 (0, 0)) (bf_ NB1689_1701.out BK1689.out) hb); have n4_ := Aside0.mk (blk_below (g := gb1690) (o := .cells #[.int .i64 0, .slice none 0 0, .slice none 0 0, .slice none 0 0] 26 (0, 0)) (bf_ NB1690_1701.out BK1690.out) hb); have n5_ := Aside0.mk (blk_below (g := gb1701) (o := .cells #[.int .i64 t1691, .slice Ao17 t1692.length co17, .slice Ao18 t1695.length co18, .slice Ao19 t1698.length co19] 26 (0, 0)) (bp_ BK1701.out) hb); have n6_ := Aside0.mk (below_step (hb_ HB.out) hb); clear HO1694; clear HO1697; clear HO1700; clear BK1689; clear BK1690; clear BK1701; clear HB; have HO1694 := n0_; have HO1697 := n1_; have HO1700 := n2_; have BK1689 := n3_; have BK1690 := n4_; have BK1701 := n5_; have HB := n6_; clear n0_ n1_ n2_ n3_ n4_ n5_ n6_; (try clear hb); (try clear hb2); (try clear hk); (try clear hi)))
     go_meet
     case rel => exact ⟨_, (true), (by first | rfl | (simp; done) | (simp [*]; done)), H', ⟨by first | omega | exact Nat.le_refl _⟩, ⟨rq_ HO1694.out⟩, ⟨rq_ HO1697.out⟩, ⟨rq_ HO1700.out⟩, ⟨bq_ BK1689.out⟩, ⟨bq_ BK1690.out⟩, ⟨bq_ BK1701.out⟩, ⟨hb_ HB.out⟩⟩
   ·
    replace c22 := Bool.eq_false_iff.mpr c22
    subst c22
    have H1 : (impl_GroupMark.j0 k a3 a4 true t1691 t1692 t1695 t1698) = some (r1, r2, r3, r4, r5) := by rw [if_neg (show ¬ (false = true) by decide)] at H; exact H
    clear H
    have H := H1
    clear H1
    have H' := Aside0.mk H
    clear H
    have hnb36 := NB1689_1690.out
    have hnc36 := NB1690_1689.out
    have hnb37 := NB1689_1701.out
    have hnc37 := NB1701_1689.out
    have hcz38_0 : w13.cell? ⟨gb1689, 0, none⟩ = some (.int .i64 a0_0) := (blk_cell BK1689.out 0).trans rfl
    have hcz38_1 : w13.cell? ⟨gb1689, 1, none⟩ = some (.slice A0_1 l0_1.length c0_1) := (blk_cell BK1689.out 1).trans rfl
    have hcz38_2 : w13.cell? ⟨gb1689, 2, none⟩ = some (.slice A0_2 l0_2.length c0_2) := (blk_cell BK1689.out 2).trans rfl
    have hcz38_3 : w13.cell? ⟨gb1689, 3, none⟩ = some (.slice A0_3 l0_3.length c0_3) := (blk_cell BK1689.out 3).trans rfl
    have hfz38_0 := blk_frozen BK1689.out 0
    have hfz38_1 := blk_frozen BK1689.out 1
    have hfz38_2 := blk_frozen BK1689.out 2
    have hfz38_3 := blk_frozen BK1689.out 3
    go_wp2_with (first | (go_at_call 82; (with_reducible refine (impl_within.calls a3 0 (wrap64 ((l0_3.length : Int) - 1)) false _ A21.out).mono ?_); rintro e w' ⟨rfl, ⟨nd, rfl⟩⟩))
    go_meet
    case rel => exact ⟨_, (true), (by first | rfl | (simp; done) | (simp [*]; done)), H', ⟨by first | omega | exact Nat.le_refl _⟩, ⟨by (with_reducible repeat (first | apply Kd.R_alloc | apply Kd.R_drewN | apply Kd.R_drew)); exact Kd.R_mono (Kd.R_far (p := ⟨gb1701, 3, none⟩) (Kd.R_far (p := ⟨gb1701, 2, none⟩) (Kd.R_far (p := ⟨gb1701, 1, none⟩) (Kd.R_far (p := ⟨gb1701, 0, none⟩) (Kd.R_types HO1694.out BK1701.out (by decide)) (fun _ hk => hk.2) (.int .i64 t1691)) (fun _ hk => hk.2) (.slice Ao17 t1692.length co17)) (fun _ hk => hk.2) (.slice Ao18 t1695.length co18)) (fun _ hk => hk.2) (.slice Ao19 t1698.length co19)) (fun _ hk => ⟨hk.1.1, hk.1.2⟩)⟩, ⟨by (with_reducible repeat (first | apply Kd.R_alloc | apply Kd.R_drewN | apply Kd.R_drew)); exact Kd.R_mono (Kd.R_far (p := ⟨gb1701, 3, none⟩) (Kd.R_far (p := ⟨gb1701, 2, none⟩) (Kd.R_far (p := ⟨gb1701, 1, none⟩) (Kd.R_far (p := ⟨gb1701, 0, none⟩) (Kd.R_types HO1697.out BK1701.out (by decide)) (fun _ hk => hk.2) (.int .i64 t1691)) (fun _ hk => hk.2) (.slice Ao17 t1692.length co17)) (fun _ hk => hk.2) (.slice Ao18 t1695.length co18)) (fun _ hk => hk.2) (.slice Ao19 t1698.length co19)) (fun _ hk => ⟨hk.1.1, hk.1.2⟩)⟩, ⟨by (with_reducible repeat (first | apply Kd.R_alloc | apply Kd.R_drewN | apply Kd.R_drew)); exact Kd.R_mono (Kd.R_far (p := ⟨gb1701, 3, none⟩) (Kd.R_far (p := ⟨gb1701, 2, none⟩) (Kd.R_far (p := ⟨gb1701, 1, none⟩) (Kd.R_far (p := ⟨gb1701, 0, none⟩) (Kd.R_types HO1700.out BK1701.out (by decide)) (fun _ hk => hk.2) (.int .i64 t1691)) (fun _ hk => hk.2) (.slice Ao17 t1692.length co17)) (fun _ hk => hk.2) (.slice Ao18 t1695.length co18)) (fun _ hk => hk.2) (.slice Ao19 t1698.length co19)) (fun _ hk => ⟨hk.1.1, hk.1.2⟩)⟩, ⟨by (with_reducible repeat (first | refine blk_drewN ?_ _ | refine blk_drew ?_ | refine blk_alloc ?_ _)); refine blk_far ?_ NB1689_1701.out _; (with_reducible repeat (first | refine blk_drewN ?_ _ | refine blk_drew ?_ | refine blk_alloc ?_ _)); refine blk_far ?_ NB1689_1701.out _; (with_reducible repeat (first | refine blk_drewN ?_ _ | refine blk_drew ?_ | refine blk_alloc ?_ _)); refine blk_far ?_ NB1689_1701.out _; (with_reducible repeat (first | refine blk_drewN ?_ _ | refine blk_drew ?_ | refine blk_alloc ?_ _)); refine blk_far ?_ NB1689_1701.out _; (with_reducible repeat (first | refine blk_drewN ?_ _ | refine blk_drew ?_ | refine blk_alloc ?_ _)); exact BK1689.out⟩, ⟨by (with_reducible repeat (first | refine blk_drewN ?_ _ | refine blk_drew ?_ | refine blk_alloc ?_ _)); refine blk_far ?_ NB1690_1701.out _; (with_reducible repeat (first | refine blk_drewN ?_ _ | refine blk_drew ?_ | refine blk_alloc ?_ _)); refine blk_far ?_ NB1690_1701.out _; (with_reducible repeat (first | refine blk_drewN ?_ _ | refine blk_drew ?_ | refine blk_alloc ?_ _)); refine blk_far ?_ NB1690_1701.out _; (with_reducible repeat (first | refine blk_drewN ?_ _ | refine blk_drew ?_ | refine blk_alloc ?_ _)); refine blk_far ?_ NB1690_1701.out _; (with_reducible repeat (first | refine blk_drewN ?_ _ | refine blk_drew ?_ | refine blk_alloc ?_ _)); exact BK1690.out⟩, ⟨by (with_reducible repeat (first | refine blk_drewN ?_ _ | refine blk_drew ?_ | refine blk_alloc ?_ _)); refine blk_put (cs := #[.int .i64 t1691, .slice Ao17 t1692.length co17, .slice Ao18 t1695.length co18, .slice none 0 0]) ?_ 3 _ rfl; (with_reducible repeat (first | refine blk_drewN ?_ _ | refine blk_drew ?_ | refine blk_alloc ?_ _)); refine blk_put (cs := #[.int .i64 t1691, .slice Ao17 t1692.length co17, .slice none 0 0, .slice none 0 0]) ?_ 2 _ rfl; (with_reducible repeat (first | refine blk_drewN ?_ _ | refine blk_drew ?_ | refine blk_alloc ?_ _)); refine blk_put (cs := #[.int .i64 t1691, .slice none 0 0, .slice none 0 0, .slice none 0 0]) ?_ 1 _ rfl; (with_reducible repeat (first | refine blk_drewN ?_ _ | refine blk_drew ?_ | refine blk_alloc ?_ _)); refine blk_put (cs := #[.int .i64 0, .slice none 0 0, .slice none 0 0, .slice none 0 0]) ?_ 0 _ rfl; (with_reducible repeat (first | refine blk_drewN ?_ _ | refine blk_drew ?_ | refine blk_alloc ?_ _)); exact BK1701.out⟩, ⟨hb_ HB.out⟩⟩
  ·
   rw [if_neg c20] at H
   have c20b0 : (a2 == a0_0) = false := beq_eq_false_iff_ne.mpr c20
   have c20b1 : (a2 != a0_0) = true := bne_iff_ne.mpr c20
   (first | rw [c20b0] | (simp only [i64_w, i32_w]; rw [c20b0]) | rw [c20b4] | rw [c20b3] | skip)
   have H' := Aside0.mk H
   clear H
   have hnb39 := NB1689_1690.out
   have hnc39 := NB1690_1689.out
   have hnb40 := NB1689_1701.out
   have hnc40 := NB1701_1689.out
   have hcz41_0 : w13.cell? ⟨gb1689, 0, none⟩ = some (.int .i64 a0_0) := (blk_cell BK1689.out 0).trans rfl
   have hcz41_1 : w13.cell? ⟨gb1689, 1, none⟩ = some (.slice A0_1 l0_1.length c0_1) := (blk_cell BK1689.out 1).trans rfl
   have hcz41_2 : w13.cell? ⟨gb1689, 2, none⟩ = some (.slice A0_2 l0_2.length c0_2) := (blk_cell BK1689.out 2).trans rfl
   have hcz41_3 : w13.cell? ⟨gb1689, 3, none⟩ = some (.slice A0_3 l0_3.length c0_3) := (blk_cell BK1689.out 3).trans rfl
   have hfz41_0 := blk_frozen BK1689.out 0
   have hfz41_1 := blk_frozen BK1689.out 1
   have hfz41_2 := blk_frozen BK1689.out 2
   have hfz41_3 := blk_frozen BK1689.out 3
   go_wp2
   go_meet
   case rel => exact ⟨_, (true), (by first | rfl | (simp; done) | (simp [*]; done)), H', ⟨by first | omega | exact Nat.le_refl _⟩, ⟨by (with_reducible repeat (first | apply Kd.R_alloc | apply Kd.R_drewN | apply Kd.R_drew)); exact Kd.R_mono (Kd.R_far (p := ⟨gb1701, 3, none⟩) (Kd.R_far (p := ⟨gb1701, 2, none⟩) (Kd.R_far (p := ⟨gb1701, 1, none⟩) (Kd.R_far (p := ⟨gb1701, 0, none⟩) (Kd.R_types HO1694.out BK1701.out (by decide)) (fun _ hk => hk.2) (.int .i64 t1691)) (fun _ hk => hk.2) (.slice Ao17 t1692.length co17)) (fun _ hk => hk.2) (.slice Ao18 t1695.length co18)) (fun _ hk => hk.2) (.slice Ao19 t1698.length co19)) (fun _ hk => ⟨hk.1.1, hk.1.2⟩)⟩, ⟨by (with_reducible repeat (first | apply Kd.R_alloc | apply Kd.R_drewN | apply Kd.R_drew)); exact Kd.R_mono (Kd.R_far (p := ⟨gb1701, 3, none⟩) (Kd.R_far (p := ⟨gb1701, 2, none⟩) (Kd.R_far (p := ⟨gb1701, 1, none⟩) (Kd.R_far (p := ⟨gb1701, 0, none⟩) (Kd.R_types HO1697.out BK1701.out (by decide)) (fun _ hk => hk.2) (.int .i64 t1691)) (fun _ hk => hk.2) (.slice Ao17 t1692.length co17)) (fun _ hk => hk.2) (.slice Ao18 t1695.length co18)) (fun _ hk => hk.2) (.slice Ao19 t1698.length co19)) (fun _ hk => ⟨hk.1.1, hk.1.2⟩)⟩, ⟨by (with_reducible repeat (first | apply Kd.R_alloc | apply Kd.R_drewN | apply Kd.R_drew)); exact Kd.R_mono (Kd.R_far (p := ⟨gb1701, 3, none⟩) (Kd.R_far (p := ⟨gb1701, 2, none⟩) (Kd.R_far (p := ⟨gb1701, 1, none⟩) (Kd.R_far (p := ⟨gb1701, 0, none⟩) (Kd.R_types HO1700.out BK1701.out (by decide)) (fun _ hk => hk.2) (.int .i64 t1691)) (fun _ hk => hk.2) (.slice Ao17 t1692.length co17)) (fun _ hk => hk.2) (.slice Ao18 t1695.length co18)) (fun _ hk => hk.2) (.slice Ao19 t1698.length co19)) (fun _ hk => ⟨hk.1.1, hk.1.2⟩)⟩, ⟨by (with_reducible repeat (first | refine blk_drewN ?_ _ | refine blk_drew ?_ | refine blk_alloc ?_ _)); refine blk_far ?_ NB1689_1701.out _; (with_reducible repeat (first | refine blk_drewN ?_ _ | refine blk_drew ?_ | refine blk_alloc ?_ _)); refine blk_far ?_ NB1689_1701.out _; (with_reducible repeat (first | refine blk_drewN ?_ _ | refine blk_drew ?_ | refine blk_alloc ?_ _)); refine blk_far ?_ NB1689_1701.out _; (with_reducible repeat (first | refine blk_drewN ?_ _ | refine blk_drew ?_ | refine blk_alloc ?_ _)); refine blk_far ?_ NB1689_1701.out _; (with_reducible repeat (first | refine blk_drewN ?_ _ | refine blk_drew ?_ | refine blk_alloc ?_ _)); exact BK1689.out⟩, ⟨by (with_reducible repeat (first | refine blk_drewN ?_ _ | refine blk_drew ?_ | refine blk_alloc ?_ _)); refine blk_far ?_ NB1690_1701.out _; (with_reducible repeat (first | refine blk_drewN ?_ _ | refine blk_drew ?_ | refine blk_alloc ?_ _)); refine blk_far ?_ NB1690_1701.out _; (with_reducible repeat (first | refine blk_drewN ?_ _ | refine blk_drew ?_ | refine blk_alloc ?_ _)); refine blk_far ?_ NB1690_1701.out _; (with_reducible repeat (first | refine blk_drewN ?_ _ | refine blk_drew ?_ | refine blk_alloc ?_ _)); refine blk_far ?_ NB1690_1701.out _; (with_reducible repeat (first | refine blk_drewN ?_ _ | refine blk_drew ?_ | refine blk_alloc ?_ _)); exact BK1690.out⟩, ⟨by (with_reducible repeat (first | refine blk_drewN ?_ _ | refine blk_drew ?_ | refine blk_alloc ?_ _)); refine blk_put (cs := #[.int .i64 t1691, .slice Ao17 t1692.length co17, .slice Ao18 t1695.length co18, .slice none 0 0]) ?_ 3 _ rfl; (with_reducible repeat (first | refine blk_drewN ?_ _ | refine blk_drew ?_ | refine blk_alloc ?_ _)); refine blk_put (cs := #[.int .i64 t1691, .slice Ao17 t1692.length co17, .slice none 0 0, .slice none 0 0]) ?_ 2 _ rfl; (with_reducible repeat (first | refine blk_drewN ?_ _ | refine blk_drew ?_ | refine blk_alloc ?_ _)); refine blk_put (cs := #[.int .i64 t1691, .slice none 0 0, .slice none 0 0, .slice none 0 0]) ?_ 1 _ rfl; (with_reducible repeat (first | refine blk_drewN ?_ _ | refine blk_drew ?_ | refine blk_alloc ?_ _)); refine blk_put (cs := #[.int .i64 0, .slice none 0 0, .slice none 0 0, .slice none 0 0]) ?_ 0 _ rfl; (with_reducible repeat (first | refine blk_drewN ?_ _ | refine blk_drew ?_ | refine blk_alloc ?_ _)); exact BK1701.out⟩, ⟨hb_ HB.out⟩⟩
 case rest =>
  clear HC7
  (try clear c1); (try clear p1); (try clear q1); (try clear hx1); (try clear c2); (try clear p2); (try clear c3); (try clear c4); (try clear p6); (try clear c8); (try clear c10); (try clear c14); (try clear c15); (try clear p17); (try clear q17); (try clear hx17); (try clear c20); (try clear c20b0); (try clear c20b1); (try clear c22); (try clear c24); (try clear c24b0); (try clear c24b1); (try clear c25); (try clear c25b0); (try clear c26); (try clear c26b0); (try clear c27); (try clear c28); (try clear c32); (try clear c33); (try clear c36); (try clear c37); (try clear c39); (try clear c40); (try clear hcz11_0); (try clear hcz11_1); (try clear hcz11_2); (try clear hcz11_3); (try clear hcz16_0); (try clear hcz16_1); (try clear hcz16_2); (try clear hcz16_3); (try clear hcz29_0); (try clear hcz29_1); (try clear hcz29_2); (try clear hcz29_3); (try clear hcz31_0); (try clear hcz31_1); (try clear hcz31_2); (try clear hcz31_3); (try clear hcz34_0); (try clear hcz34_1); (try clear hcz34_2); (try clear hcz34_3); (try clear hcz38_0); (try clear hcz38_1); (try clear hcz38_2); (try clear hcz38_3); (try clear hcz41_0); (try clear hcz41_1); (try clear hcz41_2); (try clear hcz41_3); (try clear hfz11_0); (try clear hfz11_1); (try clear hfz11_2); (try clear hfz11_3); (try clear hfz16_0); (try clear hfz16_1); (try clear hfz16_2); (try clear hfz16_3); (try clear hfz29_0); (try clear hfz29_1); (try clear hfz29_2); (try clear hfz29_3); (try clear hfz31_0); (try clear hfz31_1); (try clear hfz31_2); (try clear hfz31_3); (try clear hfz34_0); (try clear hfz34_1); (try clear hfz34_2); (try clear hfz34_3); (try clear hfz38_0); (try clear hfz38_1); (try clear hfz38_2); (try clear hfz38_3); (try clear hfz41_0); (try clear hfz41_1); (try clear hfz41_2); (try clear hfz41_3); (try clear hx1704_0); (try clear p1704); (try clear q1704)
  obtain ⟨kq, x43_6, rfl, HA, HJ6, HO_1702001, HO_1702002, HO_1702003, BK1689, BK1690, BK1701, HB⟩ := hcut
  cases kq with
  | zero => exact absurd HA.out (by simp [impl_GroupMark.j0])
  | succ kj6 =>
   have H := HA.out
   clear HA
   simp only [impl_GroupMark.j0] at H
   by_cases c42 : x43_6 = true
   ·
    subst c42
    have H1 : (some (t1691, t1692, t1695, t1698, false)) = some (r1, r2, r3, r4, r5) := by rw [if_pos rfl] at H; exact H
    clear H
    have H := H1
    clear H1
    simp only [Option.some.injEq, Prod.mk.injEq] at H
    obtain ⟨rfl, rfl, rfl, rfl, rfl⟩ := H
    have hnb43 := NB1701_1689.out
    have hnc43 := NB1689_1701.out
    have hnb44 := NB1701_1690.out
    have hnc44 := NB1690_1701.out
    have hcz45_0 : wc.cell? ⟨gb1701, 0, none⟩ = some (.int .i64 t1691) := (blk_cell BK1701.out 0).trans rfl
    have hcz45_1 : wc.cell? ⟨gb1701, 1, none⟩ = some (.slice Ao17 t1692.length co17) := (blk_cell BK1701.out 1).trans rfl
    have hcz45_2 : wc.cell? ⟨gb1701, 2, none⟩ = some (.slice Ao18 t1695.length co18) := (blk_cell BK1701.out 2).trans rfl
    have hcz45_3 : wc.cell? ⟨gb1701, 3, none⟩ = some (.slice Ao19 t1698.length co19) := (blk_cell BK1701.out 3).trans rfl
    have hfz45_0 := blk_frozen BK1701.out 0
    have hfz45_1 := blk_frozen BK1701.out 1
    have hfz45_2 := blk_frozen BK1701.out 2
    have hfz45_3 := blk_frozen BK1701.out 3
    have hnb46 := NB1690_1689.out
    have hnc46 := NB1689_1690.out
    have hcz47_0 : wc.cell? ⟨gb1690, 0, none⟩ = some (.int .i64 0) := (blk_cell BK1690.out 0).trans rfl
    have hcz47_1 : wc.cell? ⟨gb1690, 1, none⟩ = some (.slice none 0 0) := (blk_cell BK1690.out 1).trans rfl
    have hcz47_2 : wc.cell? ⟨gb1690, 2, none⟩ = some (.slice none 0 0) := (blk_cell BK1690.out 2).trans rfl
    have hcz47_3 : wc.cell? ⟨gb1690, 3, none⟩ = some (.slice none 0 0) := (blk_cell BK1690.out 3).trans rfl
    have hfz47_0 := blk_frozen BK1690.out 0
    have hfz47_1 := blk_frozen BK1690.out 1
    have hfz47_2 := blk_frozen BK1690.out 2
    have hfz47_3 := blk_frozen BK1690.out 3
    go_wp2
    refine bodyPost_ret (results_ct rfl _ _ gb1690 26 #[.int .i64 t1691, .slice Ao17 t1692.length co17, .slice Ao18 t1695.length co18, .slice Ao19 t1698.length co19] (0, 0) _ rfl (bp_ BK1690.out) Try.underlying26 rfl (by kernel_rfl)) rfl ?_
    exact ⟨_, _, _, er_, by (with_reducible repeat (first | apply Kd.R_alloc | apply Kd.R_drewN | apply Kd.R_drew)); exact Kd.R_mono (Kd.R_far (p := ⟨gb1690, 3, none⟩) (Kd.R_far (p := ⟨gb1690, 2, none⟩) (Kd.R_far (p := ⟨gb1690, 1, none⟩) (Kd.R_far (p := ⟨gb1690, 0, none⟩) (Kd.R_types HO_1702001.out BK1690.out (by decide)) (fun _ hk => hk.2) (.int .i64 t1691)) (fun _ hk => hk.2) (.slice Ao17 t1692.length co17)) (fun _ hk => hk.2) (.slice Ao18 t1695.length co18)) (fun _ hk => hk.2) (.slice Ao19 t1698.length co19)) (fun _ hk => ⟨hk.1.1, hk.1.2⟩), by (with_reducible repeat (first | apply Kd.R_alloc | apply Kd.R_drewN | apply Kd.R_drew)); exact Kd.R_mono (Kd.R_far (p := ⟨gb1690, 3, none⟩) (Kd.R_far (p := ⟨gb1690, 2, none⟩) (Kd.R_far (p := ⟨gb1690, 1, none⟩) (Kd.R_far (p := ⟨gb1690, 0, none⟩) (Kd.R_types HO_1702002.out BK1690.out (by decide)) (fun _ hk => hk.2) (.int .i64 t1691)) (fun _ hk => hk.2) (.slice Ao17 t1692.length co17)) (fun _ hk => hk.2) (.slice Ao18 t1695.length co18)) (fun _ hk => hk.2) (.slice Ao19 t1698.length co19)) (fun _ hk => ⟨hk.1.1, hk.1.2⟩), by (with_reducible repeat (first | apply Kd.R_alloc | apply Kd.R_drewN | apply Kd.R_drew)); exact Kd.R_mono (Kd.R_far (p := ⟨gb1690, 3, none⟩) (Kd.R_far (p := ⟨gb1690, 2, none⟩) (Kd.R_far (p := ⟨gb1690, 1, none⟩) (Kd.R_far (p := ⟨gb1690, 0, none⟩) (Kd.R_types HO_1702003.out BK1690.out (by decide)) (fun _ hk => hk.2) (.int .i64 t1691)) (fun _ hk => hk.2) (.slice Ao17 t1692.length co17)) (fun _ hk => hk.2) (.slice Ao18 t1695.length co18)) (fun _ hk => hk.2) (.slice Ao19 t1698.length co19)) (fun _ hk => ⟨hk.1.1, hk.1.2⟩), hb_ HB.out⟩
   ·
    replace c42 := Bool.eq_false_iff.mpr c42
    subst c42
    have H1 : (if 0 ≤ a3 then (if a3 < (t1698.length : Int) then (some (t1691, t1692, t1695, (t1698.set (a3 : Int).toNat a4), true)) else (none)) else (none)) = some (r1, r2, r3, r4, r5) := by rw [if_neg (show ¬ (false = true) by decide)] at H; exact H
    clear H
    have H := H1
    clear H1
    by_cases c48 : 0 ≤ a3
    ·
     rw [if_pos c48] at H
     have c48b0 : decide (0 ≤ a3) = true := decide_eq_true c48
     clear c48
     by_cases c49 : a3 < (t1698.length : Int)
     ·
      rw [if_pos c49] at H
      have c49b0 : decide (a3 < (t1698.length : Int)) = true := decide_eq_true c49
      clear c49
      obtain ⟨y1705, hy1705⟩ : ∃ y_ : List Int, y_ = (t1698.set (a3 : Int).toNat a4) := ⟨_, rfl⟩
      replace H : (some (t1691, t1692, t1695, y1705, true)) = some (r1, r2, r3, r4, r5) := by first | (rw [hy1705]; with_reducible exact H) | (have H2_ := (Option.bind_some _ _).symm.trans H; rw [hy1705]; with_reducible exact H2_) | (have H2_ := (Option.bind_some _ _).symm.trans H; with_reducible exact H2_) | with_reducible exact H | (rw [hy1705]; exact H) | exact H
      have Ny1705 := Aside0.mk hy1705
      clear hy1705
      simp only [Option.some.injEq, Prod.mk.injEq] at H
      obtain ⟨rfl, rfl, rfl, rfl, rfl⟩ := H
      have hnb51 := NB1701_1689.out
      have hnc51 := NB1689_1701.out
      have hnb52 := NB1701_1690.out
      have hnc52 := NB1690_1701.out
      have hcz53_0 : wc.cell? ⟨gb1701, 0, none⟩ = some (.int .i64 t1691) := (blk_cell BK1701.out 0).trans rfl
      have hcz53_1 : wc.cell? ⟨gb1701, 1, none⟩ = some (.slice Ao17 t1692.length co17) := (blk_cell BK1701.out 1).trans rfl
      have hcz53_2 : wc.cell? ⟨gb1701, 2, none⟩ = some (.slice Ao18 t1695.length co18) := (blk_cell BK1701.out 2).trans rfl
      have hcz53_3 : wc.cell? ⟨gb1701, 3, none⟩ = some (.slice Ao19 t1698.length co19) := (blk_cell BK1701.out 3).trans rfl
      have hfz53_0 := blk_frozen BK1701.out 0
      have hfz53_1 := blk_frozen BK1701.out 1
      have hfz53_2 := blk_frozen BK1701.out 2
      have hfz53_3 := blk_frozen BK1701.out 3
      have p50 : 0 ≤ (a3 : Int) := of_decide_eq_true (by first | (with_reducible assumption) | assumption)
      have q50 : (a3 : Int) < ((t1698.length : Int) : Int) := of_decide_eq_true (by first | (with_reducible assumption) | assumption)
      obtain ⟨go50, co50, eo50, gb50, gl50, cl50, HG50⟩ := Kd.R_form HO_1702003.out (by omega)
      (first | cases eo50 | (injection eo50 with ea_ en_ ec_; (first | subst ea_ | (injection ea_ with ea_; subst ea_)); subst ec_; clear en_))
      have GB50 := Aside0.mk gb50
      have GG50 := Aside0.mk HG50
      clear gb50 gl50 HG50
      obtain ⟨hx50_0, hf50_0⟩ := Kd.R_celln 0 HO_1702003.out (a3 : Int) p50 q50
      replace p50 := eq_true p50
      replace q50 := eq_true q50
      have HP54 := Kd.R_putg HO_1702003.out (a3 : Int) a4
      go_wp2_with (first | ((with_reducible refine gate_store (t := 3) (p := 49) rfl ?_); refine store_event (t := 3) (p := 49) (v := ?vo_w55) (w1 := (wc.setCell ⟨go50, (a3 : Int).toNat, none⟩ (.int .i64 a4))) ?hg ?ho ?hn ?hr ?_; (case ho => rfl); (case hg => rfl); (case hn => rfl); (case hr => first | (go_simp; done) | (go_simp; rfl)); intro w55 hw; have hg : wc.grownBy w55 (some go50) := (by rw [hw]; exact HP54.2); have hp_ : Kd.R (Kd.int .i64) 3 w55 w.heap.size (fun k_ => some k_ ≠ (.slice Ao17 t1692.length co17 : Value).ownBlock ∧ some k_ ≠ (.slice Ao18 t1695.length co18 : Value).ownBlock) (.slice (some ⟨go50, 0, none⟩) t1698.length co19) y1705 := (by rw [hw, Ny1705.out]; exact HP54.1); clear HP54; have n0_ := Aside0.mk (Kd.R_after (v := (.slice (some ⟨go50, 0, none⟩) t1698.length co19)) (v1 := (.slice (some ⟨go50, 0, none⟩) t1698.length co19)) (ok := (fun k_ => some k_ ≠ (.slice Ao18 t1695.length co18 : Value).ownBlock)) (rq_ HO_1702001.out) hg (.inl rfl)); have n1_ := Aside0.mk (Kd.R_after (v := (.slice (some ⟨go50, 0, none⟩) t1698.length co19)) (v1 := (.slice (some ⟨go50, 0, none⟩) t1698.length co19)) (ok := (fun k_ => some k_ ≠ (.slice Ao17 t1692.length co17 : Value).ownBlock)) (rq_ HO_1702002.out) hg (.inl rfl)); have n2_ := Aside0.mk (hp_); have n3_ := Aside0.mk (blk_grown (g := gb1689) (o := .cells #[.int .i64 a0_0, .slice A0_1 l0_1.length c0_1, .slice A0_2 l0_2.length c0_2, .slice A0_3 l0_3.length c0_3] 26 (0, 0)) (bq_ BK1689.out) hg (Kd.R_ne HO_1702003.out BK1689.out (by decide))); have n4_ := Aside0.mk (blk_grown (g := gb1690) (o := .cells #[.int .i64 0, .slice none 0 0, .slice none 0 0, .slice none 0 0] 26 (0, 0)) (bq_ BK1690.out) hg (Kd.R_ne HO_1702003.out BK1690.out (by decide))); have n5_ := Aside0.mk (blk_grown (g := gb1701) (o := .cells #[.int .i64 t1691, .slice Ao17 t1692.length co17, .slice Ao18 t1695.length co18, .slice (some ⟨go50, 0, none⟩) t1698.length co19] 26 (0, 0)) (bq_ BK1701.out) hg (Kd.R_ne HO_1702003.out BK1701.out (by decide))); have n6_ := Aside0.mk ((by rw [hw]; exact below_set (HB.out) GB50.out : Below w.heap.size w w55)); clear HO_1702001; clear HO_1702002; clear HO_1702003; clear BK1689; clear BK1690; clear BK1701; clear HB; have HO_1702001 := n0_; have HO_1702002 := n1_; have HO_1702003 := n2_; have BK1689 := n3_; have BK1690 := n4_; have BK1701 := n5_; have HB := n6_; clear n0_ n1_ n2_ n3_ n4_ n5_ n6_; clear hg hw hp_; have hcz56_0 : w55.cell? ⟨gb1701, 0, none⟩ = some (.int .i64 t1691) := (blk_cell BK1701.out 0).trans rfl; have hcz56_1 : w55.cell? ⟨gb1701, 1, none⟩ = some (.slice Ao17 t1692.length co17) := (blk_cell BK1701.out 1).trans rfl; have hcz56_2 : w55.cell? ⟨gb1701, 2, none⟩ = some (.slice Ao18 t1695.length co18) := (blk_cell BK1701.out 2).trans rfl; have hcz56_3 : w55.cell? ⟨gb1701, 3, none⟩ = some (.slice (some ⟨go50, 0, none⟩) t1698.length co19) := (blk_cell BK1701.out 3).trans rfl; have hfz56_0 := blk_frozen BK1701.out 0; have hfz56_1 := blk_frozen BK1701.out 1; have hfz56_2 := blk_frozen BK1701.out 2; have hfz56_3 := blk_frozen BK1701.out 3; have hnb57 := NB1690_1689.out; have hnc57 := NB1689_1690.out; have hcz58_0 : w55.cell? ⟨gb1690, 0, none⟩ = some (.int .i64 0) := (blk_cell BK1690.out 0).trans rfl; have hcz58_1 : w55.cell? ⟨gb1690, 1, none⟩ = some (.slice none 0 0) := (blk_cell BK1690.out 1).trans rfl; have hcz58_2 : w55.cell? ⟨gb1690, 2, none⟩ = some (.slice none 0 0) := (blk_cell BK1690.out 2).trans rfl; have hcz58_3 : w55.cell? ⟨gb1690, 3, none⟩ = some (.slice none 0 0) := (blk_cell BK1690.out 3).trans rfl; have hfz58_0 := blk_frozen BK1690.out 0; have hfz58_1 := blk_frozen BK1690.out 1; have hfz58_2 := blk_frozen BK1690.out 2; have hfz58_3 := blk_frozen BK1690.out 3))
      refine bodyPost_ret (results_ct rfl _ _ gb1690 26 #[.int .i64 t1691, .slice Ao17 t1692.length co17, .slice Ao18 t1695.length co18, .slice (some ⟨go50, 0, none⟩) t1698.length co19] (0, 0) _ rfl (bp_ BK1690.out) Try.underlying26 rfl (by kernel_rfl)) rfl ?_
      exact ⟨_, _, _, er_, by (with_reducible repeat (first | apply Kd.R_alloc | apply Kd.R_drewN | apply Kd.R_drew)); exact Kd.R_mono (Kd.R_far (p := ⟨gb1690, 3, none⟩) (Kd.R_far (p := ⟨gb1690, 2, none⟩) (Kd.R_far (p := ⟨gb1690, 1, none⟩) (Kd.R_far (p := ⟨gb1690, 0, none⟩) (Kd.R_types HO_1702001.out BK1690.out (by decide)) (fun _ hk => hk.2) (.int .i64 t1691)) (fun _ hk => hk.2) (.slice Ao17 t1692.length co17)) (fun _ hk => hk.2) (.slice Ao18 t1695.length co18)) (fun _ hk => hk.2) (.slice (some ⟨go50, 0, none⟩) t1698.length co19)) (fun _ hk => ⟨hk.1.1, hk.1.2⟩), by (with_reducible repeat (first | apply Kd.R_alloc | apply Kd.R_drewN | apply Kd.R_drew)); exact Kd.R_mono (Kd.R_far (p := ⟨gb1690, 3, none⟩) (Kd.R_far (p := ⟨gb1690, 2, none⟩) (Kd.R_far (p := ⟨gb1690, 1, none⟩) (Kd.R_far (p := ⟨gb1690, 0, none⟩) (Kd.R_types HO_1702002.out BK1690.out (by decide)) (fun _ hk => hk.2) (.int .i64 t1691)) (fun _ hk => hk.2) (.slice Ao17 t1692.length co17)) (fun _ hk => hk.2) (.slice Ao18 t1695.length co18)) (fun _ hk => hk.2) (.slice (some ⟨go50, 0, none⟩) t1698.length co19)) (fun _ hk => ⟨hk.1.1, hk.1.2⟩), by (with_reducible repeat (first | apply Kd.R_alloc | apply Kd.R_drewN | apply Kd.R_drew)); exact Kd.R_mono (Kd.R_far (p := ⟨gb1690, 3, none⟩) (Kd.R_far (p := ⟨gb1690, 2, none⟩) (Kd.R_far (p := ⟨gb1690, 1, none⟩) (Kd.R_far (p := ⟨gb1690, 0, none⟩) (Kd.R_types HO_1702003.out BK1690.out (by decide)) (fun _ hk => hk.2) (.int .i64 t1691)) (fun _ hk => hk.2) (.slice Ao17 t1692.length co17)) (fun _ hk => hk.2) (.slice Ao18 t1695.length co18)) (fun _ hk => hk.2) (.slice (some ⟨go50, 0, none⟩) t1698.length co19)) (fun _ hk => ⟨hk.1.1, hk.1.2⟩), hb_ HB.out⟩
     ·
      rw [if_neg c49] at H
      exact absurd H (by simp)
    ·
     rw [if_neg c48] at H
     exact absurd H (by simp)
/-! ### laws_sameInts: function 85 -/
def laws_sameInts.l0 : Nat → List Int → List Int → Int → Option (Bool)
 | 0, _, _, _ => none
 | k + 1, x0, x1, x5 => if x5 < (x0.length : Int) then (if 0 ≤ x5 then (if x5 < (x1.length : Int) then (if (rd x0 x5) = (rd x1 x5) then (laws_sameInts.l0 k x0 x1 (wrap64 (x5 + 1))) else (some false)) else (none)) else (none)) else (some true)
def laws_sameInts.f (k : Nat) (l0 : List Int) (l1 : List Int) : Option (Bool) := if (l0.length : Int) = (l1.length : Int) then (laws_sameInts.l0 k l0 l1 0) else (some false)
theorem laws_sameInts.mono_l : ∀ k, (∀ y0 y1 y2, LeO (laws_sameInts.l0 k y0 y1 y2) (laws_sameInts.l0 (k + 1) y0 y1 y2))
 | 0 => fun _ _ _ r h => by simp [laws_sameInts.l0] at h
 | k + 1 => by
  have ih0 := laws_sameInts.mono_l k
  ·
   intro y0 y1 y2
   unfold laws_sameInts.l0
   repeat' first
   | (with_reducible exact ih0 _ _ _)
   | (with_reducible exact LeO.refl _)
   | (with_reducible exact LeO.none _)
   | (with_reducible refine LeO.ite ?_ ?_)
   | (with_reducible refine LeO.bind ?_ (fun _ => ?_))
   | exact ih0 _ _ _
   | exact LeO.none _
   | refine LeO.ite ?_ ?_
   | refine LeO.bind ?_ (fun _ => ?_)
theorem laws_sameInts.mono : ∀ a0 a1 k, LeO (laws_sameInts.f k a0 a1) (laws_sameInts.f (k + 1) a0 a1) := by
 intro a0 a1 k
 have ih0 := laws_sameInts.mono_l k
 unfold laws_sameInts.f
 repeat' first
  | (with_reducible exact ih0 _ _ _)
  | (with_reducible exact LeO.refl _)
  | (with_reducible exact LeO.none _)
  | (with_reducible refine LeO.ite ?_ ?_)
  | (with_reducible refine LeO.bind ?_ (fun _ => ?_))
  | exact ih0 _ _ _
  | exact LeO.none _
  | refine LeO.ite ?_ ?_
  | refine LeO.bind ?_ (fun _ => ?_)
set_option maxHeartbeats 8000000 in
set_option maxRecDepth 100000 in
theorem laws_sameInts.calls (k : Nat) (A0 : Option Addr) (c0 : Nat) (l0 : List Int) (A1 : Option Addr) (c1 : Nat) (l1 : List Int) (r : Bool) (w : World) (hr0 : Kd.C (Kd.int .i64) w A0 l0.length l0) (hc0 : l0.length ≤ c0) (hr1 : Kd.C (Kd.int .i64) w A1 l1.length l1) (hc1 : l1.length ≤ c1) (h : laws_sameInts.f k l0 l1 = some r) :
 Calls Try.prog 85 #[.slice A0 l0.length c0, .slice A1 l1.length c1] w fun e w' => e = .returned (.bool r) ∧ Drawn0 w w' := by
 have HR0 := Aside0.mk hr0
 have HC0 := Aside0.mk hc0
 clear hr0 hc0
 have HR1 := Aside0.mk hr1
 have HC1 := Aside0.mk hc1
 clear hr1 hc1
 have H : (if (l0.length : Int) = (l1.length : Int) then (laws_sameInts.l0 k l0 l1 0) else (some false)) = some r := h
 clear h
 by_cases c3 : (l0.length : Int) = (l1.length : Int)
 ·
  rw [if_pos c3] at H
  have c3b0 : ((l0.length : Int) == (l1.length : Int)) = true := beq_iff_eq.mpr c3
  have c3b1 : ((l0.length : Int) != (l1.length : Int)) = false := bne_eq_false_iff_eq.mpr c3
  have c3b2 : (l0.length == l1.length) = true := by first | simpa using c3 | (simp at c3 ⊢; omega)
  clear c3
  have H' := Aside0.mk H
  clear H
  go_enter Try.func85, Try.ntmps85
  go_wp2
  repeat (go_quiet (fail); try go_wp2)
  go_loopg [5] k (fun kq v5 w' => ∃ (x5_1 : Int), v5 = .int .i64 x5_1 ∧ Aside0 (laws_sameInts.l0 kq l0 l1 x5_1 = some r) ∧ Aside0 (kq ≤ k) ∧ Drawn0 w w')
  case atStart => exact ⟨(0), (by first | rfl | (simp; done) | (simp [*]; done)), H', ⟨Nat.le_refl _⟩, by repeat (first | exact Drawn0.refl _ | apply Drawn0.step)⟩
  case round =>
   clear H'
   (try clear c1); (try clear p2); (try clear c3); (try clear c3b0); (try clear c3b1); (try clear c3b2)
   obtain ⟨x5_1, rfl, HA, HK1, ⟨m1, rfl⟩⟩ := hrel
   cases gk with
   | zero => exact absurd HA.out (by simp [laws_sameInts.l0])
   | succ k1 =>
    have H := HA.out
    clear HA
    simp only [laws_sameInts.l0] at H
    by_cases c4 : x5_1 < (l0.length : Int)
    ·
     rw [if_pos c4] at H
     have c4b0 : decide (x5_1 < (l0.length : Int)) = true := decide_eq_true c4
     clear c4
     by_cases c5 : 0 ≤ x5_1
     ·
      rw [if_pos c5] at H
      have c5b0 : decide (0 ≤ x5_1) = true := decide_eq_true c5
      clear c5
      by_cases c6 : x5_1 < (l1.length : Int)
      ·
       rw [if_pos c6] at H
       have c6b0 : decide (x5_1 < (l1.length : Int)) = true := decide_eq_true c6
       clear c6
       by_cases c7 : (rd l0 x5_1) = (rd l1 x5_1)
       ·
        rw [if_pos c7] at H
        have c7b0 : ((rd l0 x5_1) == (rd l1 x5_1)) = true := beq_iff_eq.mpr c7
        have c7b1 : ((rd l0 x5_1) != (rd l1 x5_1)) = false := bne_eq_false_iff_eq.mpr c7
        clear c7
        have H' := Aside0.mk H
        clear H
        have p1706 : 0 ≤ (x5_1 : Int) := of_decide_eq_true (by first | (with_reducible assumption) | assumption)
        have q1706 : x5_1 < (l0.length : Int) := of_decide_eq_true (by first | (with_reducible assumption) | assumption)
        obtain ⟨ad1706, e1706, hx1706_0⟩ := Kd.at_int HR0.out x5_1 p1706 q1706
        cases e1706
        replace p1706 := eq_true p1706
        replace q1706 := eq_true q1706
        have p1707 : 0 ≤ (x5_1 : Int) := of_decide_eq_true (by first | (with_reducible assumption) | assumption)
        have q1707 : x5_1 < (l1.length : Int) := of_decide_eq_true (by first | (with_reducible assumption) | assumption)
        obtain ⟨ad1707, e1707, hx1707_0⟩ := Kd.at_int HR1.out x5_1 p1707 q1707
        cases e1707
        replace p1707 := eq_true p1707
        replace q1707 := eq_true q1707
        go_wp2
        repeat (go_quiet (fail); try go_wp2)
        go_roundg k1
        case measure => have := HK1.out; omega
        case rel => exact ⟨(wrap64 (x5_1 + 1)), (by first | rfl | (simp; done) | (simp [*]; done)), H', ⟨by have := HK1.out; omega⟩, by repeat (first | exact Drawn0.refl _ | apply Drawn0.step)⟩
       ·
        rw [if_neg c7] at H
        have c7b0 : ((rd l0 x5_1) == (rd l1 x5_1)) = false := beq_eq_false_iff_ne.mpr c7
        have c7b1 : ((rd l0 x5_1) != (rd l1 x5_1)) = true := bne_iff_ne.mpr c7
        obtain rfl := Option.some.inj H
        have p1706 : 0 ≤ (x5_1 : Int) := of_decide_eq_true (by first | (with_reducible assumption) | assumption)
        have q1706 : x5_1 < (l0.length : Int) := of_decide_eq_true (by first | (with_reducible assumption) | assumption)
        obtain ⟨ad1706, e1706, hx1706_0⟩ := Kd.at_int HR0.out x5_1 p1706 q1706
        cases e1706
        replace p1706 := eq_true p1706
        replace q1706 := eq_true q1706
        have p1707 : 0 ≤ (x5_1 : Int) := of_decide_eq_true (by first | (with_reducible assumption) | assumption)
        have q1707 : x5_1 < (l1.length : Int) := of_decide_eq_true (by first | (with_reducible assumption) | assumption)
        obtain ⟨ad1707, e1707, hx1707_0⟩ := Kd.at_int HR1.out x5_1 p1707 q1707
        cases e1707
        replace p1707 := eq_true p1707
        replace q1707 := eq_true q1707
        go_wp2
        repeat (go_quiet (fail); try go_wp2)
        go_ret
        exact ⟨by first | rfl | (simp; done) | (simp [*]; done), by repeat (first | exact Drawn0.refl _ | apply Drawn0.step)⟩
      ·
       rw [if_neg c6] at H
       exact absurd H (by simp)
     ·
      rw [if_neg c5] at H
      exact absurd H (by simp)
    ·
     rw [if_neg c4] at H
     have c4b0 : decide (x5_1 < (l0.length : Int)) = false := decide_eq_false c4
     clear c4
     obtain rfl := Option.some.inj H
     go_wp2
     repeat (go_quiet (fail); try go_wp2)
     go_ret
     exact ⟨by first | rfl | (simp; done) | (simp [*]; done), by repeat (first | exact Drawn0.refl _ | apply Drawn0.step)⟩
 ·
  rw [if_neg c3] at H
  have c3b0 : ((l0.length : Int) == (l1.length : Int)) = false := beq_eq_false_iff_ne.mpr c3
  have c3b1 : ((l0.length : Int) != (l1.length : Int)) = true := bne_iff_ne.mpr c3
  have c3b2 : (l0.length == l1.length) = false := by first | simpa using c3 | (simp at c3 ⊢; omega)
  obtain rfl := Option.some.inj H
  go_enter Try.func85, Try.ntmps85
  go_wp2
  repeat (go_quiet (fail); try go_wp2)
  go_ret
  exact ⟨by first | rfl | (simp; done) | (simp [*]; done), by repeat (first | exact Drawn0.refl _ | apply Drawn0.step)⟩

/-! ### laws_sameGroup: function 16 -/
def laws_sameGroup.f (k : Nat) (a0_0 : Int) (l0_1 : List Int) (l0_2 : List Int) (l0_3 : List Int) (a1_0 : Int) (l1_1 : List Int) (l1_2 : List Int) (l1_3 : List Int) : Option (Bool) := if a0_0 = a1_0 then ((laws_sameInts.f k l0_1 l1_1).bind fun t1710 => (if t1710 = true then ((laws_sameInts.f k l0_2 l1_2).bind fun t1711 => (if t1711 = true then ((laws_sameInts.f k l0_3 l1_3).bind fun t1712 => (some t1712)) else (some false))) else (some false))) else (some false)
theorem laws_sameGroup.mono : ∀ a0 a1 a2 a3 a4 a5 a6 a7 k, LeO (laws_sameGroup.f k a0 a1 a2 a3 a4 a5 a6 a7) (laws_sameGroup.f (k + 1) a0 a1 a2 a3 a4 a5 a6 a7) := by
 intro a0 a1 a2 a3 a4 a5 a6 a7 k
 unfold laws_sameGroup.f
 repeat' first
  | (with_reducible exact laws_sameInts.mono _ _ _)
  | (with_reducible exact LeO.refl _)
  | (with_reducible exact LeO.none _)
  | (with_reducible refine LeO.ite ?_ ?_)
  | (with_reducible refine LeO.bind ?_ (fun _ => ?_))
  | exact laws_sameInts.mono _ _ _
  | exact LeO.none _
  | refine LeO.ite ?_ ?_
  | refine LeO.bind ?_ (fun _ => ?_)
set_option maxHeartbeats 8000000 in
set_option maxRecDepth 100000 in
theorem laws_sameGroup.calls (k : Nat) (a0_0 : Int) (A0_1 : Option Addr) (c0_1 : Nat) (l0_1 : List Int) (A0_2 : Option Addr) (c0_2 : Nat) (l0_2 : List Int) (A0_3 : Option Addr) (c0_3 : Nat) (l0_3 : List Int) (a1_0 : Int) (A1_1 : Option Addr) (c1_1 : Nat) (l1_1 : List Int) (A1_2 : Option Addr) (c1_2 : Nat) (l1_2 : List Int) (A1_3 : Option Addr) (c1_3 : Nat) (l1_3 : List Int) (r : Bool) (w : World) (hr0_1 : Kd.C (Kd.int .i64) w A0_1 l0_1.length l0_1) (hc0_1 : l0_1.length ≤ c0_1) (hr0_2 : Kd.C (Kd.int .i64) w A0_2 l0_2.length l0_2) (hc0_2 : l0_2.length ≤ c0_2) (hr0_3 : Kd.C (Kd.int .i64) w A0_3 l0_3.length l0_3) (hc0_3 : l0_3.length ≤ c0_3) (hr1_1 : Kd.C (Kd.int .i64) w A1_1 l1_1.length l1_1) (hc1_1 : l1_1.length ≤ c1_1) (hr1_2 : Kd.C (Kd.int .i64) w A1_2 l1_2.length l1_2) (hc1_2 : l1_2.length ≤ c1_2) (hr1_3 : Kd.C (Kd.int .i64) w A1_3 l1_3.length l1_3) (hc1_3 : l1_3.length ≤ c1_3) (h : laws_sameGroup.f k a0_0 l0_1 l0_2 l0_3 a1_0 l1_1 l1_2 l1_3 = some r) :
 Calls Try.prog 16 #[.agg #[.int .i64 a0_0, .slice A0_1 l0_1.length c0_1, .slice A0_2 l0_2.length c0_2, .slice A0_3 l0_3.length c0_3], .agg #[.int .i64 a1_0, .slice A1_1 l1_1.length c1_1, .slice A1_2 l1_2.length c1_2, .slice A1_3 l1_3.length c1_3]] w fun e w' => e = .returned (.bool r) ∧ Below w.heap.size w w' := by
 have hu26 := Try.underlying26
 have HR0_1 := Aside0.mk hr0_1
 have HC0_1 := Aside0.mk hc0_1
 clear hr0_1 hc0_1
 have HR0_2 := Aside0.mk hr0_2
 have HC0_2 := Aside0.mk hc0_2
 clear hr0_2 hc0_2
 have HR0_3 := Aside0.mk hr0_3
 have HC0_3 := Aside0.mk hc0_3
 clear hr0_3 hc0_3
 have HR1_1 := Aside0.mk hr1_1
 have HC1_1 := Aside0.mk hc1_1
 clear hr1_1 hc1_1
 have HR1_2 := Aside0.mk hr1_2
 have HC1_2 := Aside0.mk hc1_2
 clear hr1_2 hc1_2
 have HR1_3 := Aside0.mk hr1_3
 have HC1_3 := Aside0.mk hc1_3
 clear hr1_3 hc1_3
 have HB := Aside0.mk (Below.refl w.heap.size w)
 have H : (if a0_0 = a1_0 then ((laws_sameInts.f k l0_1 l1_1).bind fun t1710 => (if t1710 = true then ((laws_sameInts.f k l0_2 l1_2).bind fun t1711 => (if t1711 = true then ((laws_sameInts.f k l0_3 l1_3).bind fun t1712 => (some t1712)) else (some false))) else (some false))) else (some false)) = some r := h
 clear h
 by_cases c3 : a0_0 = a1_0
 ·
  rw [if_pos c3] at H
  have c3b0 : (a0_0 == a1_0) = true := beq_iff_eq.mpr c3
  have c3b1 : (a0_0 != a1_0) = false := bne_eq_false_iff_eq.mpr c3
  clear c3
  replace H := Option.bind_eq_some_iff.mp H
  obtain ⟨t1710, A40, H⟩ := H
  replace H : (if t1710 = true then ((laws_sameInts.f k l0_2 l1_2).bind fun t1711 => (if t1711 = true then ((laws_sameInts.f k l0_3 l1_3).bind fun t1712 => (some t1712)) else (some false))) else (some false)) = some r := H
  have A4 := Aside0.mk A40
  clear A40
  by_cases c5 : t1710 = true
  ·
   subst c5
   have H1 : ((laws_sameInts.f k l0_2 l1_2).bind fun t1711 => (if t1711 = true then ((laws_sameInts.f k l0_3 l1_3).bind fun t1712 => (some t1712)) else (some false))) = some r := by rw [if_pos rfl] at H; exact H
   clear H
   have H := H1
   clear H1
   replace H := Option.bind_eq_some_iff.mp H
   obtain ⟨t1711, A60, H⟩ := H
   replace H : (if t1711 = true then ((laws_sameInts.f k l0_3 l1_3).bind fun t1712 => (some t1712)) else (some false)) = some r := H
   have A6 := Aside0.mk A60
   clear A60
   by_cases c7 : t1711 = true
   ·
    subst c7
    have H1 : ((laws_sameInts.f k l0_3 l1_3).bind fun t1712 => (some t1712)) = some r := by rw [if_pos rfl] at H; exact H
    clear H
    have H := H1
    clear H1
    replace H := Option.bind_eq_some_iff.mp H
    obtain ⟨t1712, A80, H⟩ := H
    replace H : (some t1712) = some r := H
    have A8 := Aside0.mk A80
    clear A80
    obtain rfl := Option.some.inj H
    go_enter Try.func16, Try.ntmps16
    go_wp2_with (first | ((with_reducible refine gate_dst (N := 2) rfl ?_); refine box_event ?hg (N := 2) ?hd (cs := #[.int .i64 a0_0, .slice A0_1 l0_1.length c0_1, .slice A0_2 l0_2.length c0_2, .slice A0_3 l0_3.length c0_3]) (t := 26) ?hr ?_; (case hd => rfl); (case hg => rfl); (case hr => first | (go_simp; done) | (go_simp; rfl)); intro gb1708 hg w9 hbox hb; have n0_ := Aside0.mk (below_step (hb_ HB.out) hb); have n1_ := Aside0.mk (hbox); have n2_ := Aside0.mk ((by rw [hg]; exact (below_size (hb_ HB.out)) : w.heap.size ≤ gb1708)); have n3_ := Aside0.mk ((by rw [hg]; exact (below_size (hb_ HB.out)) : w.heap.size ≤ gb1708)); clear HB; have HB := n0_; have BK1708 := n1_; have GW1708 := n2_; have GE1708 := n3_; clear n0_ n1_ n2_ n3_; clear hb hbox hg) | ((with_reducible refine gate_dst (N := 3) rfl ?_); refine box_event ?hg (N := 3) ?hd (cs := #[.int .i64 a1_0, .slice A1_1 l1_1.length c1_1, .slice A1_2 l1_2.length c1_2, .slice A1_3 l1_3.length c1_3]) (t := 26) ?hr ?_; (case hd => rfl); (case hg => rfl); (case hr => first | (go_simp; done) | (go_simp; rfl)); intro gb1709 hg w10 hbox hb; have n0_ := Aside0.mk (bb_ BK1708.out hb); have n1_ := Aside0.mk (below_step (hb_ HB.out) hb); have n2_ := Aside0.mk (hbox); have n3_ := Aside0.mk ((by rw [hg]; exact (below_size (hb_ HB.out)) : w.heap.size ≤ gb1709)); have n4_ := Aside0.mk ((by rw [hg]; exact (below_size (hb_ HB.out)) : w.heap.size ≤ gb1709)); have n5_ := Aside0.mk ((nl_ BK1708.out hg : gb1708 ≠ gb1709)); have n6_ := Aside0.mk ((ng_ BK1708.out hg : gb1709 ≠ gb1708)); clear BK1708; clear HB; have BK1708 := n0_; have HB := n1_; have BK1709 := n2_; have GW1709 := n3_; have GE1709 := n4_; have NB1708_1709 := n5_; have NB1709_1708 := n6_; clear n0_ n1_ n2_ n3_ n4_ n5_ n6_; clear hb hbox hg; have hnb11 := NB1708_1709.out; have hnc11 := NB1709_1708.out; have hcz12_0 : w10.cell? ⟨gb1708, 0, none⟩ = some (.int .i64 a0_0) := (blk_cell BK1708.out 0).trans rfl; have hcz12_1 : w10.cell? ⟨gb1708, 1, none⟩ = some (.slice A0_1 l0_1.length c0_1) := (blk_cell BK1708.out 1).trans rfl; have hcz12_2 : w10.cell? ⟨gb1708, 2, none⟩ = some (.slice A0_2 l0_2.length c0_2) := (blk_cell BK1708.out 2).trans rfl; have hcz12_3 : w10.cell? ⟨gb1708, 3, none⟩ = some (.slice A0_3 l0_3.length c0_3) := (blk_cell BK1708.out 3).trans rfl; have hfz12_0 := blk_frozen BK1708.out 0; have hfz12_1 := blk_frozen BK1708.out 1; have hfz12_2 := blk_frozen BK1708.out 2; have hfz12_3 := blk_frozen BK1708.out 3; have hcz13_0 : w10.cell? ⟨gb1709, 0, none⟩ = some (.int .i64 a1_0) := (blk_cell BK1709.out 0).trans rfl; have hcz13_1 : w10.cell? ⟨gb1709, 1, none⟩ = some (.slice A1_1 l1_1.length c1_1) := (blk_cell BK1709.out 1).trans rfl; have hcz13_2 : w10.cell? ⟨gb1709, 2, none⟩ = some (.slice A1_2 l1_2.length c1_2) := (blk_cell BK1709.out 2).trans rfl; have hcz13_3 : w10.cell? ⟨gb1709, 3, none⟩ = some (.slice A1_3 l1_3.length c1_3) := (blk_cell BK1709.out 3).trans rfl; have hfz13_0 := blk_frozen BK1709.out 0; have hfz13_1 := blk_frozen BK1709.out 1; have hfz13_2 := blk_frozen BK1709.out 2; have hfz13_3 := blk_frozen BK1709.out 3) | (go_at_call 85; (with_reducible refine (laws_sameInts.calls k _ _ l0_1 _ _ l1_1 true _ ?side1 ?side2 ?side3 ?side4 A4.out).mono ?_); (case side1 => repeat (first | exact (Kd.C_below HR0_1.out HB.out) | (with_reducible refine Kd.C_alloc ?_ _) | (with_reducible refine Kd.C_drewN ?_ _) | (with_reducible refine Kd.C_drew ?_))); (case side2 => exact HC0_1.out); (case side3 => repeat (first | exact (Kd.C_below HR1_1.out HB.out) | (with_reducible refine Kd.C_alloc ?_ _) | (with_reducible refine Kd.C_drewN ?_ _) | (with_reducible refine Kd.C_drew ?_))); (case side4 => exact HC1_1.out); rintro e w' ⟨rfl, ⟨nd, rfl⟩⟩) | (go_at_call 85; (with_reducible refine (laws_sameInts.calls k _ _ l0_2 _ _ l1_2 true _ ?side1 ?side2 ?side3 ?side4 A6.out).mono ?_); (case side1 => repeat (first | exact (Kd.C_below HR0_2.out (hb_ HB.out)) | (with_reducible refine Kd.C_alloc ?_ _) | (with_reducible refine Kd.C_drewN ?_ _) | (with_reducible refine Kd.C_drew ?_))); (case side2 => exact HC0_2.out); (case side3 => repeat (first | exact (Kd.C_below HR1_2.out (hb_ HB.out)) | (with_reducible refine Kd.C_alloc ?_ _) | (with_reducible refine Kd.C_drewN ?_ _) | (with_reducible refine Kd.C_drew ?_))); (case side4 => exact HC1_2.out); rintro e w' ⟨rfl, ⟨nd, rfl⟩⟩) | (go_at_call 85; (with_reducible refine (laws_sameInts.calls k _ _ l0_3 _ _ l1_3 t1712 _ ?side1 ?side2 ?side3 ?side4 A8.out).mono ?_); (case side1 => repeat (first | exact (Kd.C_below HR0_3.out (hb_ HB.out)) | (with_reducible refine Kd.C_alloc ?_ _) | (with_reducible refine Kd.C_drewN ?_ _) | (with_reducible refine Kd.C_drew ?_))); (case side2 => exact HC0_3.out); (case side3 => repeat (first | exact (Kd.C_below HR1_3.out (hb_ HB.out)) | (with_reducible refine Kd.C_alloc ?_ _) | (with_reducible refine Kd.C_drewN ?_ _) | (with_reducible refine Kd.C_drew ?_))); (case side4 => exact HC1_3.out); rintro e w' ⟨rfl, ⟨nd, rfl⟩⟩))
    go_ret
    exact ⟨er_, hb_ HB.out⟩
   ·
    replace c7 := Bool.eq_false_iff.mpr c7
    subst c7
    have H1 : (some false) = some r := by rw [if_neg (show ¬ (false = true) by decide)] at H; exact H
    clear H
    have H := H1
    clear H1
    obtain rfl := Option.some.inj H
    go_enter Try.func16, Try.ntmps16
    go_wp2_with (first | ((with_reducible refine gate_dst (N := 2) rfl ?_); refine box_event ?hg (N := 2) ?hd (cs := #[.int .i64 a0_0, .slice A0_1 l0_1.length c0_1, .slice A0_2 l0_2.length c0_2, .slice A0_3 l0_3.length c0_3]) (t := 26) ?hr ?_; (case hd => rfl); (case hg => rfl); (case hr => first | (go_simp; done) | (go_simp; rfl)); intro gb1708 hg w14 hbox hb; have n0_ := Aside0.mk (below_step (hb_ HB.out) hb); have n1_ := Aside0.mk (hbox); have n2_ := Aside0.mk ((by rw [hg]; exact (below_size (hb_ HB.out)) : w.heap.size ≤ gb1708)); have n3_ := Aside0.mk ((by rw [hg]; exact (below_size (hb_ HB.out)) : w.heap.size ≤ gb1708)); clear HB; have HB := n0_; have BK1708 := n1_; have GW1708 := n2_; have GE1708 := n3_; clear n0_ n1_ n2_ n3_; clear hb hbox hg) | ((with_reducible refine gate_dst (N := 3) rfl ?_); refine box_event ?hg (N := 3) ?hd (cs := #[.int .i64 a1_0, .slice A1_1 l1_1.length c1_1, .slice A1_2 l1_2.length c1_2, .slice A1_3 l1_3.length c1_3]) (t := 26) ?hr ?_; (case hd => rfl); (case hg => rfl); (case hr => first | (go_simp; done) | (go_simp; rfl)); intro gb1709 hg w15 hbox hb; have n0_ := Aside0.mk (bb_ BK1708.out hb); have n1_ := Aside0.mk (below_step (hb_ HB.out) hb); have n2_ := Aside0.mk (hbox); have n3_ := Aside0.mk ((by rw [hg]; exact (below_size (hb_ HB.out)) : w.heap.size ≤ gb1709)); have n4_ := Aside0.mk ((by rw [hg]; exact (below_size (hb_ HB.out)) : w.heap.size ≤ gb1709)); have n5_ := Aside0.mk ((nl_ BK1708.out hg : gb1708 ≠ gb1709)); have n6_ := Aside0.mk ((ng_ BK1708.out hg : gb1709 ≠ gb1708)); clear BK1708; clear HB; have BK1708 := n0_; have HB := n1_; have BK1709 := n2_; have GW1709 := n3_; have GE1709 := n4_; have NB1708_1709 := n5_; have NB1709_1708 := n6_; clear n0_ n1_ n2_ n3_ n4_ n5_ n6_; clear hb hbox hg; have hnb16 := NB1708_1709.out; have hnc16 := NB1709_1708.out; have hcz17_0 : w15.cell? ⟨gb1708, 0, none⟩ = some (.int .i64 a0_0) := (blk_cell BK1708.out 0).trans rfl; have hcz17_1 : w15.cell? ⟨gb1708, 1, none⟩ = some (.slice A0_1 l0_1.length c0_1) := (blk_cell BK1708.out 1).trans rfl; have hcz17_2 : w15.cell? ⟨gb1708, 2, none⟩ = some (.slice A0_2 l0_2.length c0_2) := (blk_cell BK1708.out 2).trans rfl; have hcz17_3 : w15.cell? ⟨gb1708, 3, none⟩ = some (.slice A0_3 l0_3.length c0_3) := (blk_cell BK1708.out 3).trans rfl; have hfz17_0 := blk_frozen BK1708.out 0; have hfz17_1 := blk_frozen BK1708.out 1; have hfz17_2 := blk_frozen BK1708.out 2; have hfz17_3 := blk_frozen BK1708.out 3; have hcz18_0 : w15.cell? ⟨gb1709, 0, none⟩ = some (.int .i64 a1_0) := (blk_cell BK1709.out 0).trans rfl; have hcz18_1 : w15.cell? ⟨gb1709, 1, none⟩ = some (.slice A1_1 l1_1.length c1_1) := (blk_cell BK1709.out 1).trans rfl; have hcz18_2 : w15.cell? ⟨gb1709, 2, none⟩ = some (.slice A1_2 l1_2.length c1_2) := (blk_cell BK1709.out 2).trans rfl; have hcz18_3 : w15.cell? ⟨gb1709, 3, none⟩ = some (.slice A1_3 l1_3.length c1_3) := (blk_cell BK1709.out 3).trans rfl; have hfz18_0 := blk_frozen BK1709.out 0; have hfz18_1 := blk_frozen BK1709.out 1; have hfz18_2 := blk_frozen BK1709.out 2; have hfz18_3 := blk_frozen BK1709.out 3) | (go_at_call 85; (with_reducible refine (laws_sameInts.calls k _ _ l0_1 _ _ l1_1 true _ ?side1 ?side2 ?side3 ?side4 A4.out).mono ?_); (case side1 => repeat (first | exact (Kd.C_below HR0_1.out HB.out) | (with_reducible refine Kd.C_alloc ?_ _) | (with_reducible refine Kd.C_drewN ?_ _) | (with_reducible refine Kd.C_drew ?_))); (case side2 => exact HC0_1.out); (case side3 => repeat (first | exact (Kd.C_below HR1_1.out HB.out) | (with_reducible refine Kd.C_alloc ?_ _) | (with_reducible refine Kd.C_drewN ?_ _) | (with_reducible refine Kd.C_drew ?_))); (case side4 => exact HC1_1.out); rintro e w' ⟨rfl, ⟨nd, rfl⟩⟩) | (go_at_call 85; (with_reducible refine (laws_sameInts.calls k _ _ l0_2 _ _ l1_2 false _ ?side1 ?side2 ?side3 ?side4 A6.out).mono ?_); (case side1 => repeat (first | exact (Kd.C_below HR0_2.out (hb_ HB.out)) | (with_reducible refine Kd.C_alloc ?_ _) | (with_reducible refine Kd.C_drewN ?_ _) | (with_reducible refine Kd.C_drew ?_))); (case side2 => exact HC0_2.out); (case side3 => repeat (first | exact (Kd.C_below HR1_2.out (hb_ HB.out)) | (with_reducible refine Kd.C_alloc ?_ _) | (with_reducible refine Kd.C_drewN ?_ _) | (with_reducible refine Kd.C_drew ?_))); (case side4 => exact HC1_2.out); rintro e w' ⟨rfl, ⟨nd, rfl⟩⟩))
    go_ret
    exact ⟨er_, hb_ HB.out⟩
  ·
   replace c5 := Bool.eq_false_iff.mpr c5
   subst c5
   have H1 : (some false) = some r := by rw [if_neg (show ¬ (false = true) by decide)] at H; exact H
   clear H
   have H := H1
   clear H1
   obtain rfl := Option.some.inj H
   go_enter Try.func16, Try.ntmps16
   go_wp2_with (first | ((with_reducible refine gate_dst (N := 2) rfl ?_); refine box_event ?hg (N := 2) ?hd (cs := #[.int .i64 a0_0, .slice A0_1 l0_1.length c0_1, .slice A0_2 l0_2.length c0_2, .slice A0_3 l0_3.length c0_3]) (t := 26) ?hr ?_; (case hd => rfl); (case hg => rfl); (case hr => first | (go_simp; done) | (go_simp; rfl)); intro gb1708 hg w19 hbox hb; have n0_ := Aside0.mk (below_step (hb_ HB.out) hb); have n1_ := Aside0.mk (hbox); have n2_ := Aside0.mk ((by rw [hg]; exact (below_size (hb_ HB.out)) : w.heap.size ≤ gb1708)); have n3_ := Aside0.mk ((by rw [hg]; exact (below_size (hb_ HB.out)) : w.heap.size ≤ gb1708)); clear HB; have HB := n0_; have BK1708 := n1_; have GW1708 := n2_; have GE1708 := n3_; clear n0_ n1_ n2_ n3_; clear hb hbox hg) | ((with_reducible refine gate_dst (N := 3) rfl ?_); refine box_event ?hg (N := 3) ?hd (cs := #[.int .i64 a1_0, .slice A1_1 l1_1.length c1_1, .slice A1_2 l1_2.length c1_2, .slice A1_3 l1_3.length c1_3]) (t := 26) ?hr ?_; (case hd => rfl); (case hg => rfl); (case hr => first | (go_simp; done) | (go_simp; rfl)); intro gb1709 hg w20 hbox hb; have n0_ := Aside0.mk (bb_ BK1708.out hb); have n1_ := Aside0.mk (below_step (hb_ HB.out) hb); have n2_ := Aside0.mk (hbox); have n3_ := Aside0.mk ((by rw [hg]; exact (below_size (hb_ HB.out)) : w.heap.size ≤ gb1709)); have n4_ := Aside0.mk ((by rw [hg]; exact (below_size (hb_ HB.out)) : w.heap.size ≤ gb1709)); have n5_ := Aside0.mk ((nl_ BK1708.out hg : gb1708 ≠ gb1709)); have n6_ := Aside0.mk ((ng_ BK1708.out hg : gb1709 ≠ gb1708)); clear BK1708; clear HB; have BK1708 := n0_; have HB := n1_; have BK1709 := n2_; have GW1709 := n3_; have GE1709 := n4_; have NB1708_1709 := n5_; have NB1709_1708 := n6_; clear n0_ n1_ n2_ n3_ n4_ n5_ n6_; clear hb hbox hg; have hnb21 := NB1708_1709.out; have hnc21 := NB1709_1708.out; have hcz22_0 : w20.cell? ⟨gb1708, 0, none⟩ = some (.int .i64 a0_0) := (blk_cell BK1708.out 0).trans rfl; have hcz22_1 : w20.cell? ⟨gb1708, 1, none⟩ = some (.slice A0_1 l0_1.length c0_1) := (blk_cell BK1708.out 1).trans rfl; have hcz22_2 : w20.cell? ⟨gb1708, 2, none⟩ = some (.slice A0_2 l0_2.length c0_2) := (blk_cell BK1708.out 2).trans rfl; have hcz22_3 : w20.cell? ⟨gb1708, 3, none⟩ = some (.slice A0_3 l0_3.length c0_3) := (blk_cell BK1708.out 3).trans rfl; have hfz22_0 := blk_frozen BK1708.out 0; have hfz22_1 := blk_frozen BK1708.out 1; have hfz22_2 := blk_frozen BK1708.out 2; have hfz22_3 := blk_frozen BK1708.out 3; have hcz23_0 : w20.cell? ⟨gb1709, 0, none⟩ = some (.int .i64 a1_0) := (blk_cell BK1709.out 0).trans rfl; have hcz23_1 : w20.cell? ⟨gb1709, 1, none⟩ = some (.slice A1_1 l1_1.length c1_1) := (blk_cell BK1709.out 1).trans rfl; have hcz23_2 : w20.cell? ⟨gb1709, 2, none⟩ = some (.slice A1_2 l1_2.length c1_2) := (blk_cell BK1709.out 2).trans rfl; have hcz23_3 : w20.cell? ⟨gb1709, 3, none⟩ = some (.slice A1_3 l1_3.length c1_3) := (blk_cell BK1709.out 3).trans rfl; have hfz23_0 := blk_frozen BK1709.out 0; have hfz23_1 := blk_frozen BK1709.out 1; have hfz23_2 := blk_frozen BK1709.out 2; have hfz23_3 := blk_frozen BK1709.out 3) | (go_at_call 85; (with_reducible refine (laws_sameInts.calls k _ _ l0_1 _ _ l1_1 false _ ?side1 ?side2 ?side3 ?side4 A4.out).mono ?_); (case side1 => repeat (first | exact (Kd.C_below HR0_1.out HB.out) | (with_reducible refine Kd.C_alloc ?_ _) | (with_reducible refine Kd.C_drewN ?_ _) | (with_reducible refine Kd.C_drew ?_))); (case side2 => exact HC0_1.out); (case side3 => repeat (first | exact (Kd.C_below HR1_1.out HB.out) | (with_reducible refine Kd.C_alloc ?_ _) | (with_reducible refine Kd.C_drewN ?_ _) | (with_reducible refine Kd.C_drew ?_))); (case side4 => exact HC1_1.out); rintro e w' ⟨rfl, ⟨nd, rfl⟩⟩))
   go_ret
   exact ⟨er_, hb_ HB.out⟩
 ·
  rw [if_neg c3] at H
  have c3b0 : (a0_0 == a1_0) = false := beq_eq_false_iff_ne.mpr c3
  have c3b1 : (a0_0 != a1_0) = true := bne_iff_ne.mpr c3
  obtain rfl := Option.some.inj H
  go_enter Try.func16, Try.ntmps16
  go_wp2_with (first | ((with_reducible refine gate_dst (N := 2) rfl ?_); refine box_event ?hg (N := 2) ?hd (cs := #[.int .i64 a0_0, .slice A0_1 l0_1.length c0_1, .slice A0_2 l0_2.length c0_2, .slice A0_3 l0_3.length c0_3]) (t := 26) ?hr ?_; (case hd => rfl); (case hg => rfl); (case hr => first | (go_simp; done) | (go_simp; rfl)); intro gb1708 hg w24 hbox hb; have n0_ := Aside0.mk (below_step (hb_ HB.out) hb); have n1_ := Aside0.mk (hbox); have n2_ := Aside0.mk ((by rw [hg]; exact (below_size (hb_ HB.out)) : w.heap.size ≤ gb1708)); have n3_ := Aside0.mk ((by rw [hg]; exact (below_size (hb_ HB.out)) : w.heap.size ≤ gb1708)); clear HB; have HB := n0_; have BK1708 := n1_; have GW1708 := n2_; have GE1708 := n3_; clear n0_ n1_ n2_ n3_; clear hb hbox hg) | ((with_reducible refine gate_dst (N := 3) rfl ?_); refine box_event ?hg (N := 3) ?hd (cs := #[.int .i64 a1_0, .slice A1_1 l1_1.length c1_1, .slice A1_2 l1_2.length c1_2, .slice A1_3 l1_3.length c1_3]) (t := 26) ?hr ?_; (case hd => rfl); (case hg => rfl); (case hr => first | (go_simp; done) | (go_simp; rfl)); intro gb1709 hg w25 hbox hb; have n0_ := Aside0.mk (bb_ BK1708.out hb); have n1_ := Aside0.mk (below_step (hb_ HB.out) hb); have n2_ := Aside0.mk (hbox); have n3_ := Aside0.mk ((by rw [hg]; exact (below_size (hb_ HB.out)) : w.heap.size ≤ gb1709)); have n4_ := Aside0.mk ((by rw [hg]; exact (below_size (hb_ HB.out)) : w.heap.size ≤ gb1709)); have n5_ := Aside0.mk ((nl_ BK1708.out hg : gb1708 ≠ gb1709)); have n6_ := Aside0.mk ((ng_ BK1708.out hg : gb1709 ≠ gb1708)); clear BK1708; clear HB; have BK1708 := n0_; have HB := n1_; have BK1709 := n2_; have GW1709 := n3_; have GE1709 := n4_; have NB1708_1709 := n5_; have NB1709_1708 := n6_; clear n0_ n1_ n2_ n3_ n4_ n5_ n6_; clear hb hbox hg; have hnb26 := NB1708_1709.out; have hnc26 := NB1709_1708.out; have hcz27_0 : w25.cell? ⟨gb1708, 0, none⟩ = some (.int .i64 a0_0) := (blk_cell BK1708.out 0).trans rfl; have hcz27_1 : w25.cell? ⟨gb1708, 1, none⟩ = some (.slice A0_1 l0_1.length c0_1) := (blk_cell BK1708.out 1).trans rfl; have hcz27_2 : w25.cell? ⟨gb1708, 2, none⟩ = some (.slice A0_2 l0_2.length c0_2) := (blk_cell BK1708.out 2).trans rfl; have hcz27_3 : w25.cell? ⟨gb1708, 3, none⟩ = some (.slice A0_3 l0_3.length c0_3) := (blk_cell BK1708.out 3).trans rfl; have hfz27_0 := blk_frozen BK1708.out 0; have hfz27_1 := blk_frozen BK1708.out 1; have hfz27_2 := blk_frozen BK1708.out 2; have hfz27_3 := blk_frozen BK1708.out 3; have hcz28_0 : w25.cell? ⟨gb1709, 0, none⟩ = some (.int .i64 a1_0) := (blk_cell BK1709.out 0).trans rfl; have hcz28_1 : w25.cell? ⟨gb1709, 1, none⟩ = some (.slice A1_1 l1_1.length c1_1) := (blk_cell BK1709.out 1).trans rfl; have hcz28_2 : w25.cell? ⟨gb1709, 2, none⟩ = some (.slice A1_2 l1_2.length c1_2) := (blk_cell BK1709.out 2).trans rfl; have hcz28_3 : w25.cell? ⟨gb1709, 3, none⟩ = some (.slice A1_3 l1_3.length c1_3) := (blk_cell BK1709.out 3).trans rfl; have hfz28_0 := blk_frozen BK1709.out 0; have hfz28_1 := blk_frozen BK1709.out 1; have hfz28_2 := blk_frozen BK1709.out 2; have hfz28_3 := blk_frozen BK1709.out 3))
  go_ret
  exact ⟨er_, hb_ HB.out⟩
end Go.Proofs.Ytiknkolclcdajaa.Q
