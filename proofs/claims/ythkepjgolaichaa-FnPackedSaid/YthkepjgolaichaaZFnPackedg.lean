/- Made by a program of ours out of the print of the loaded functions: for each of some functions a plain function, and the walk that shows that a call comes to what it says. No condition but those of each theorem. -/
import Derived.Test.YthkepjgolaichaaZFnPacked0
import Derived.Test.YthkepjgolaichaaZFnPackeda
import Derived.Test.YthkepjgolaichaaZFnPackedb
import Derived.Test.YthkepjgolaichaaZFnPackedd
import Derived.Test.YthkepjgolaichaaZFnPackede
import Derived.Test.YthkepjgolaichaaZFnPackedf
namespace Go.Proofs.Ythkepjgolaichaa.Q
open Go.RowKit Go.Proofs.YthkepjgolaichaaW.PrintWords Go.Proofs.YthkepjgolaichaaW.PrintLast Go.Proofs.YthkepjgolaichaaW.PrintMore
attribute [local go_sem] max2_int min2_int max_two min_two max_three min_three max_four min_four   -- for this text's walks alone
set_option linter.unusedVariables false
set_option linter.unusedSimpArgs false
theorem qg0_ {P : Prop} (h : P := by (with_reducible repeat (first | apply Kd.R_alloc | apply Kd.R_drewN | apply Kd.R_drew)); exact Kd.R_mono (Kd.R_far (p := ⟨gb690, 4, none⟩) (Kd.R_far (p := ⟨gb690, 3, none⟩) (Kd.R_far (p := ⟨gb690, 2, none⟩) (Kd.R_far (p := ⟨gb690, 1, none⟩) (Kd.R_far (p := ⟨gb690, 0, none⟩) (Kd.R_mono HO_688002.out (fun k_ hk => (⟨hk, hk.2⟩ : _ ∧ k_ ≠ gb690))) (fun _ hk => hk.2) (.int .i64 ((rd_Item l0_2 x23_2).f0))) (fun _ hk => hk.2) (.string ((rd_Item l0_2 x23_2).f1))) (fun _ hk => hk.2) (.string ((rd_Item l0_2 x23_2).f2))) (fun _ hk => hk.2) (.int .i64 ((rd_Item l0_2 x23_2).f3))) (fun _ hk => hk.2) (.int .i64 ((rd_Item l0_2 x23_2).f4))) (fun _ hk => hk.1.2)) : P := h
theorem qg1_ {P : Prop} (h : P := by first | rfl | (simp; done) | (simp only [← hji48] <;> (first | rfl | simp)) | (simp [*]; done)) : P := h
theorem qg2_ {P : Prop} (h : P := by first | rfl | (simp; done) | (simp [*]; done)) : P := h
theorem qg3_ {P : Prop} (h : P := by have := HJ3.out; have := HK2.out; omega) : P := h
theorem qgh0_ {P : Prop} (h : P := by (go_at_call 65; (with_reducible refine (impl_copyRow.calls a0_0 a0_1 _ _ l0_2 t682 t683 t684 _ ?side1 ?side2 A3.out).mono ?_); (case side1 => repeat (first | exact (Kd.C_below HR0_2.out HB.out) | (with_reducible refine Kd.C_alloc ?_ _) | (with_reducible refine Kd.C_drewN ?_ _) | (with_reducible refine Kd.C_drew ?_))); (case side2 => exact HC0_2.out); rintro e w9 ⟨v685, rfl, ho0, hb⟩; have n0_ := Aside0.mk (Kd.R_lower ho0 (below_size (hb_ HB.out))); have n1_ := Aside0.mk (bb_ BK680.out hb); have n2_ := Aside0.mk (bb_ BK681.out hb); have n3_ := Aside0.mk (below_step (hb_ HB.out) hb); clear BK680; clear BK681; clear HB; have HO686 := n0_; have BK680 := n1_; have BK681 := n2_; have HB := n3_; clear n0_ n1_ n2_ n3_; (try clear hb); (try clear hb2); (try clear hk); (try clear hi); (try clear ho0))) : P := h
theorem qgh1_ {P : Prop} (h : P := by (go_at_call 35; (with_reducible refine (impl_RowOk.calls k a0_0 a0_1 _ _ l0_2 t688 _ ?side1 ?side2 A16.out).mono ?_); (case side1 => exact Kd.C_below HR0_2.out (hb_ HB.out)); (case side2 => exact HC0_2.out); rintro e w20 ⟨rfl, hb⟩; have n0_ := Aside0.mk (Kd.R_below (rk_ HO686.out BK687.out) hb); have n1_ := Aside0.mk (blk_below (g := gb680) (o := .cells #[.int .i64 a0_0, .int .i64 a0_1, .slice A0_2 l0_2.length c0_2] 48 (0, 0)) (bf_ NB680_687.out BK680.out) hb); have n2_ := Aside0.mk (blk_below (g := gb681) (o := .cells #[.int .i64 0, .int .i64 0, .slice none 0 0] 48 (0, 0)) (bf_ NB681_687.out BK681.out) hb); have n3_ := Aside0.mk (blk_below (g := gb687) (o := .cells #[.int .i64 t682, .int .i64 t683, .slice Ao14 t684.length co14] 48 (0, 0)) (bp_ BK687.out) hb); have n4_ := Aside0.mk (below_step (hb_ HB.out) hb); clear HO686; clear BK680; clear BK681; clear BK687; clear HB; have HO686 := n0_; have BK680 := n1_; have BK681 := n2_; have BK687 := n3_; have HB := n4_; clear n0_ n1_ n2_ n3_ n4_; (try clear hb); (try clear hb2); (try clear hk); (try clear hi))) : P := h
theorem qgh2_ {P : Prop} (h : P := by (go_at_call 73; (with_reducible refine (slices_ContainsFunc_RowPack.calls _ _ y694 ((rd_Item l0_2 x23_2).f1) true _ ?side1 ?side2 A51.out (show _ = some (Obj.cells #[.int .i64 ((rd_Item l0_2 x23_2).f0), .string ((rd_Item l0_2 x23_2).f1), .string ((rd_Item l0_2 x23_2).f2), .int .i64 ((rd_Item l0_2 x23_2).f3), .int .i64 ((rd_Item l0_2 x23_2).f4)] 55 (0, 0)) from (bq_ BK690.out))).mono ?_); (case side1 => repeat (first | exact (Kd.C_below HR697.out HB.out) | (with_reducible refine Kd.C_alloc ?_ _) | (with_reducible refine Kd.C_drewN ?_ _) | (with_reducible refine Kd.C_drew ?_))); (case side2 => exact HC697.out); rintro e w67 ⟨rfl, hb⟩; have n0_ := Aside0.mk (Kd.R_below (rq_ HO_688002.out) hb); have n1_ := Aside0.mk (bb_ BK680.out hb); have n2_ := Aside0.mk (bb_ BK681.out hb); have n3_ := Aside0.mk (bb_ BK687.out hb); have n4_ := Aside0.mk (bb_ BK690.out hb); have n5_ := Aside0.mk (below_step (hb_ HB.out) hb); clear HO_688002; clear BK680; clear BK681; clear BK687; clear BK690; clear HB; have HO_688002 := n0_; have BK680 := n1_; have BK681 := n2_; have BK687 := n3_; have BK690 := n4_; have HB := n5_; clear n0_ n1_ n2_ n3_ n4_ n5_; (try clear hb); (try clear hb2); (try clear hk); (try clear hi); have hcz68_0 : w67.cell? ⟨gb690, 0, none⟩ = some (.int .i64 ((rd_Item l0_2 x23_2).f0)) := bc_ BK690 0; have hcz68_1 : w67.cell? ⟨gb690, 1, none⟩ = some (.string ((rd_Item l0_2 x23_2).f1)) := bc_ BK690 1; have hcz68_2 : w67.cell? ⟨gb690, 2, none⟩ = some (.string ((rd_Item l0_2 x23_2).f2)) := bc_ BK690 2; have hcz68_3 : w67.cell? ⟨gb690, 3, none⟩ = some (.int .i64 ((rd_Item l0_2 x23_2).f3)) := bc_ BK690 3; have hcz68_4 : w67.cell? ⟨gb690, 4, none⟩ = some (.int .i64 ((rd_Item l0_2 x23_2).f4)) := bc_ BK690 4; have hfz68_0 := blk_frozen BK690.out 0; have hfz68_1 := blk_frozen BK690.out 1; have hfz68_2 := blk_frozen BK690.out 2; have hfz68_3 := blk_frozen BK690.out 3; have hfz68_4 := blk_frozen BK690.out 4; have hcz69_0 : w67.cell? ⟨gb680, 0, none⟩ = some (.int .i64 a0_0) := bc_ BK680 0; have hcz69_1 : w67.cell? ⟨gb680, 1, none⟩ = some (.int .i64 a0_1) := bc_ BK680 1; have hcz69_2 : w67.cell? ⟨gb680, 2, none⟩ = some (.slice (some ad689) l0_2.length c0_2) := bc_ BK680 2; have hfz69_0 := blk_frozen BK680.out 0; have hfz69_1 := blk_frozen BK680.out 1; have hfz69_2 := blk_frozen BK680.out 2; have hnb70 := NB687_681.out; have hnc70 := NB681_687.out; have hcz71_0 : w67.cell? ⟨gb687, 0, none⟩ = some (.int .i64 t682) := bc_ BK687 0; have hcz71_1 : w67.cell? ⟨gb687, 1, none⟩ = some (.int .i64 t683) := bc_ BK687 1; have hcz71_2 : w67.cell? ⟨gb687, 2, none⟩ = some (u688002) := bc_ BK687 2; have hfz71_0 := blk_frozen BK687.out 0; have hfz71_1 := blk_frozen BK687.out 1; have hfz71_2 := blk_frozen BK687.out 2)) : P := h
theorem qgh3_ {P : Prop} (h : P := by (go_at_call 73; (with_reducible refine (slices_ContainsFunc_RowPack.calls _ _ y694 ((rd_Item l0_2 x23_2).f1) true _ ?side1 ?side2 A51.out (show _ = some (Obj.cells #[.int .i64 ((rd_Item l0_2 x23_2).f0), .string ((rd_Item l0_2 x23_2).f1), .string ((rd_Item l0_2 x23_2).f2), .int .i64 ((rd_Item l0_2 x23_2).f3), .int .i64 ((rd_Item l0_2 x23_2).f4)] 55 (0, 0)) from (bq_ BK690.out))).mono ?_); (case side1 => repeat (first | exact (Kd.C_below HR697.out HB.out) | (with_reducible refine Kd.C_alloc ?_ _) | (with_reducible refine Kd.C_drewN ?_ _) | (with_reducible refine Kd.C_drew ?_))); (case side2 => exact HC697.out); rintro e w86 ⟨rfl, hb⟩; have n0_ := Aside0.mk (Kd.R_below (rq_ HO_688002.out) hb); have n1_ := Aside0.mk (bb_ BK680.out hb); have n2_ := Aside0.mk (bb_ BK681.out hb); have n3_ := Aside0.mk (bb_ BK687.out hb); have n4_ := Aside0.mk (bb_ BK690.out hb); have n5_ := Aside0.mk (below_step (hb_ HB.out) hb); clear HO_688002; clear BK680; clear BK681; clear BK687; clear BK690; clear HB; have HO_688002 := n0_; have BK680 := n1_; have BK681 := n2_; have BK687 := n3_; have BK690 := n4_; have HB := n5_; clear n0_ n1_ n2_ n3_ n4_ n5_; (try clear hb); (try clear hb2); (try clear hk); (try clear hi); have hcz87_0 : w86.cell? ⟨gb690, 0, none⟩ = some (.int .i64 ((rd_Item l0_2 x23_2).f0)) := bc_ BK690 0; have hcz87_1 : w86.cell? ⟨gb690, 1, none⟩ = some (.string ((rd_Item l0_2 x23_2).f1)) := bc_ BK690 1; have hcz87_2 : w86.cell? ⟨gb690, 2, none⟩ = some (.string ((rd_Item l0_2 x23_2).f2)) := bc_ BK690 2; have hcz87_3 : w86.cell? ⟨gb690, 3, none⟩ = some (.int .i64 ((rd_Item l0_2 x23_2).f3)) := bc_ BK690 3; have hcz87_4 : w86.cell? ⟨gb690, 4, none⟩ = some (.int .i64 ((rd_Item l0_2 x23_2).f4)) := bc_ BK690 4; have hfz87_0 := blk_frozen BK690.out 0; have hfz87_1 := blk_frozen BK690.out 1; have hfz87_2 := blk_frozen BK690.out 2; have hfz87_3 := blk_frozen BK690.out 3; have hfz87_4 := blk_frozen BK690.out 4; have hcz88_0 : w86.cell? ⟨gb680, 0, none⟩ = some (.int .i64 a0_0) := bc_ BK680 0; have hcz88_1 : w86.cell? ⟨gb680, 1, none⟩ = some (.int .i64 a0_1) := bc_ BK680 1; have hcz88_2 : w86.cell? ⟨gb680, 2, none⟩ = some (.slice (some ad689) l0_2.length c0_2) := bc_ BK680 2; have hfz88_0 := blk_frozen BK680.out 0; have hfz88_1 := blk_frozen BK680.out 1; have hfz88_2 := blk_frozen BK680.out 2)) : P := h
theorem qgh4_ {P : Prop} (h : P := by (go_at_call 73; (with_reducible refine (slices_ContainsFunc_RowPack.calls _ _ y694 ((rd_Item l0_2 x23_2).f1) false _ ?side1 ?side2 A51.out (show _ = some (Obj.cells #[.int .i64 ((rd_Item l0_2 x23_2).f0), .string ((rd_Item l0_2 x23_2).f1), .string ((rd_Item l0_2 x23_2).f2), .int .i64 ((rd_Item l0_2 x23_2).f3), .int .i64 ((rd_Item l0_2 x23_2).f4)] 55 (0, 0)) from (bq_ BK690.out))).mono ?_); (case side1 => repeat (first | exact (Kd.C_below HR697.out HB.out) | (with_reducible refine Kd.C_alloc ?_ _) | (with_reducible refine Kd.C_drewN ?_ _) | (with_reducible refine Kd.C_drew ?_))); (case side2 => exact HC697.out); rintro e w101 ⟨rfl, hb⟩; have n0_ := Aside0.mk (Kd.R_below (rq_ HO_688002.out) hb); have n1_ := Aside0.mk (bb_ BK680.out hb); have n2_ := Aside0.mk (bb_ BK681.out hb); have n3_ := Aside0.mk (bb_ BK687.out hb); have n4_ := Aside0.mk (bb_ BK690.out hb); have n5_ := Aside0.mk (below_step (hb_ HB.out) hb); clear HO_688002; clear BK680; clear BK681; clear BK687; clear BK690; clear HB; have HO_688002 := n0_; have BK680 := n1_; have BK681 := n2_; have BK687 := n3_; have BK690 := n4_; have HB := n5_; clear n0_ n1_ n2_ n3_ n4_ n5_; (try clear hb); (try clear hb2); (try clear hk); (try clear hi); have hnb102 := NB687_681.out; have hnc102 := NB681_687.out; have hcz103_0 : w101.cell? ⟨gb687, 0, none⟩ = some (.int .i64 t682) := bc_ BK687 0; have hcz103_1 : w101.cell? ⟨gb687, 1, none⟩ = some (.int .i64 t683) := bc_ BK687 1; have hcz103_2 : w101.cell? ⟨gb687, 2, none⟩ = some (u688002) := bc_ BK687 2; have hfz103_0 := blk_frozen BK687.out 0; have hfz103_1 := blk_frozen BK687.out 1; have hfz103_2 := blk_frozen BK687.out 2; have hcz104_0 : w101.cell? ⟨gb690, 0, none⟩ = some (.int .i64 ((rd_Item l0_2 x23_2).f0)) := bc_ BK690 0; have hcz104_1 : w101.cell? ⟨gb690, 1, none⟩ = some (.string ((rd_Item l0_2 x23_2).f1)) := bc_ BK690 1; have hcz104_2 : w101.cell? ⟨gb690, 2, none⟩ = some (.string ((rd_Item l0_2 x23_2).f2)) := bc_ BK690 2; have hcz104_3 : w101.cell? ⟨gb690, 3, none⟩ = some (.int .i64 ((rd_Item l0_2 x23_2).f3)) := bc_ BK690 3; have hcz104_4 : w101.cell? ⟨gb690, 4, none⟩ = some (.int .i64 ((rd_Item l0_2 x23_2).f4)) := bc_ BK690 4; have hfz104_0 := blk_frozen BK690.out 0; have hfz104_1 := blk_frozen BK690.out 1; have hfz104_2 := blk_frozen BK690.out 2; have hfz104_3 := blk_frozen BK690.out 3; have hfz104_4 := blk_frozen BK690.out 4)) : P := h

/-! ### impl_RowPack: function 50 -/
mutual
def impl_RowPack.j0 : Nat → Int → Bool → Int → Int → List (S_Item) → Int → Int → List (S_Item) → Option (Int × Int × (List (S_Item)))
 | 0, _, _, _, _, _, _, _, _ => none
 | k + 1, x1, x17, x681000, x681001, x681002, x688000, x688001, x688002 => if x17 = true then (some (x688000, x688001, x688002)) else (impl_RowPack.l0 k x1 x681002 (x681002.length : Int) 0 x681000 x681001 x681002 x688000 x688001 ([] : List (S_Item)))
def impl_RowPack.l0 : Nat → Int → List (S_Item) → Int → Int → Int → Int → List (S_Item) → Int → Int → List (S_Item) → Option (Int × Int × (List (S_Item)))
 | 0, _, _, _, _, _, _, _, _, _, _ => none
 | k + 1, x1, x21, x22, x23, x681000, x681001, x681002, x688000, x688001, x688002 => if x23 < x22 then (if 0 ≤ x23 then (if x23 < (x21.length : Int) then (if ((rd_Item x21 x23).f1).toList = ([] : List UInt8) then (if x688002.length < 2513169434916 then (impl_RowPack.l0 k x1 x21 x22 (wrap64 (x23 + 1)) x681000 x681001 x681002 x688000 x688001 (x688002 ++ [(⟨(rd_Item x21 x23).f0, (rd_Item x21 x23).f1, (rd_Item x21 x23).f2, (rd_Item x21 x23).f3, (rd_Item x21 x23).f4⟩ : S_Item)])) else (none)) else (if 0 ≤ (wrap64 (x23 + 1)) then (if (wrap64 (x23 + 1)) ≤ (x681002.length : Int) then ((slices_ContainsFunc_RowPack.f (x681002.drop ((wrap64 (x23 + 1)) : Int).toNat) ((rd_Item x21 x23).f1)).bind fun t698 => (if t698 = true then (if x1 = 0 then (none) else (if (wrap64 (Int.tdiv ((rd_Item x21 x23).f0) x1)) = (wrap64 (Int.tdiv (wrap64 (x681001 - 1)) x1)) then (if x688002.length < 2513169434916 then (impl_RowPack.l0 k x1 x21 x22 (wrap64 (x23 + 1)) x681000 x681001 x681002 x688000 x688001 (x688002 ++ [(⟨(rd_Item x21 x23).f0, (rd_Item x21 x23).f1, (rd_Item x21 x23).f2, (rd_Item x21 x23).f3, (rd_Item x21 x23).f4⟩ : S_Item)])) else (none)) else (impl_RowPack.l0 k x1 x21 x22 (wrap64 (x23 + 1)) x681000 x681001 x681002 x688000 x688001 x688002))) else (if x688002.length < 2513169434916 then (impl_RowPack.l0 k x1 x21 x22 (wrap64 (x23 + 1)) x681000 x681001 x681002 x688000 x688001 (x688002 ++ [(⟨(rd_Item x21 x23).f0, (rd_Item x21 x23).f1, (rd_Item x21 x23).f2, (rd_Item x21 x23).f3, (rd_Item x21 x23).f4⟩ : S_Item)])) else (none)))) else (none)) else (none))) else (none)) else (none)) else (some (x688000, x688001, x688002))
end
def impl_RowPack.f (k : Nat) (a0_0 : Int) (a0_1 : Int) (l0_2 : List (S_Item)) (a1 : Int) : Option (Int × Int × (List (S_Item))) := (impl_copyRow.f a0_0 a0_1 l0_2).bind fun bt682 => (if a1 < 1 then (impl_RowPack.j0 k a1 true a0_0 a0_1 l0_2 bt682.1 bt682.2.1 bt682.2.2) else ((impl_RowOk.f k a0_0 a0_1 l0_2).bind fun t688 => (impl_RowPack.j0 k a1 (!t688) a0_0 a0_1 l0_2 bt682.1 bt682.2.1 bt682.2.2)))
theorem impl_RowPack.mono_l : ∀ k, (∀ y0 y1 y2 y3 y4 y5 y6 y7, LeO (impl_RowPack.j0 k y0 y1 y2 y3 y4 y5 y6 y7) (impl_RowPack.j0 (k + 1) y0 y1 y2 y3 y4 y5 y6 y7)) ∧ (∀ y0 y1 y2 y3 y4 y5 y6 y7 y8 y9, LeO (impl_RowPack.l0 k y0 y1 y2 y3 y4 y5 y6 y7 y8 y9) (impl_RowPack.l0 (k + 1) y0 y1 y2 y3 y4 y5 y6 y7 y8 y9))
 | 0 => ⟨fun _ _ _ _ _ _ _ _ r h => by simp [impl_RowPack.j0] at h, fun _ _ _ _ _ _ _ _ _ _ r h => by simp [impl_RowPack.l0] at h⟩
 | k + 1 => by
  obtain ⟨ih0, ih1⟩ := impl_RowPack.mono_l k
  refine ⟨?_, ?_⟩
  ·
   intro y0 y1 y2 y3 y4 y5 y6 y7
   unfold impl_RowPack.j0
   repeat' first
   | (with_reducible exact ih0 _ _ _ _ _ _ _ _)
   | (with_reducible exact ih1 _ _ _ _ _ _ _ _ _ _)
   | (with_reducible exact impl_RowOk.mono _ _ _ _)
   | (with_reducible exact LeO.refl _)
   | (with_reducible exact LeO.none _)
   | (with_reducible refine LeO.ite ?_ ?_)
   | (with_reducible refine LeO.bind ?_ (fun _ => ?_))
   | exact ih0 _ _ _ _ _ _ _ _
   | exact ih1 _ _ _ _ _ _ _ _ _ _
   | exact impl_RowOk.mono _ _ _ _
   | exact LeO.none _
   | refine LeO.ite ?_ ?_
   | refine LeO.bind ?_ (fun _ => ?_)
  ·
   intro y0 y1 y2 y3 y4 y5 y6 y7 y8 y9
   unfold impl_RowPack.l0
   repeat' first
   | (with_reducible exact ih0 _ _ _ _ _ _ _ _)
   | (with_reducible exact ih1 _ _ _ _ _ _ _ _ _ _)
   | (with_reducible exact impl_RowOk.mono _ _ _ _)
   | (with_reducible exact LeO.refl _)
   | (with_reducible exact LeO.none _)
   | (with_reducible refine LeO.ite ?_ ?_)
   | (with_reducible refine LeO.bind ?_ (fun _ => ?_))
   | exact ih0 _ _ _ _ _ _ _ _
   | exact ih1 _ _ _ _ _ _ _ _ _ _
   | exact impl_RowOk.mono _ _ _ _
   | exact LeO.none _
   | refine LeO.ite ?_ ?_
   | refine LeO.bind ?_ (fun _ => ?_)
theorem impl_RowPack.mono : ∀ a0 a1 a2 a3 k, LeO (impl_RowPack.f k a0 a1 a2 a3) (impl_RowPack.f (k + 1) a0 a1 a2 a3) := by
 intro a0 a1 a2 a3 k
 obtain ⟨ih0, ih1⟩ := impl_RowPack.mono_l k
 unfold impl_RowPack.f
 repeat' first
  | (with_reducible exact ih0 _ _ _ _ _ _ _ _)
  | (with_reducible exact ih1 _ _ _ _ _ _ _ _ _ _)
  | (with_reducible exact impl_RowOk.mono _ _ _ _)
  | (with_reducible exact LeO.refl _)
  | (with_reducible exact LeO.none _)
  | (with_reducible refine LeO.ite ?_ ?_)
  | (with_reducible refine LeO.bind ?_ (fun _ => ?_))
  | exact ih0 _ _ _ _ _ _ _ _
  | exact ih1 _ _ _ _ _ _ _ _ _ _
  | exact impl_RowOk.mono _ _ _ _
  | exact LeO.none _
  | refine LeO.ite ?_ ?_
  | refine LeO.bind ?_ (fun _ => ?_)
set_option maxHeartbeats 8000000 in
set_option maxRecDepth 100000 in
theorem impl_RowPack.calls (k : Nat) (a0_0 : Int) (a0_1 : Int) (A0_2 : Option Addr) (c0_2 : Nat) (l0_2 : List (S_Item)) (a1 : Int) (r1 : Int) (r2 : Int) (r3 : List (S_Item)) (w : World) (hr0_2 : Kd.C k_Item w A0_2 l0_2.length l0_2) (hc0_2 : l0_2.length ≤ c0_2) (h : impl_RowPack.f k a0_0 a0_1 l0_2 a1 = some (r1, r2, r3)) :
 Calls Try.prog 50 #[.agg #[.int .i64 a0_0, .int .i64 a0_1, .slice A0_2 l0_2.length c0_2], .int .i64 a1] w fun e w' => ∃ v2_ : Value, e = .returned (.agg #[.int .i64 r1, .int .i64 r2, v2_]) ∧ Kd.R k_Item 55 w' w.heap.size (fun _ => True) v2_ r3 ∧ Below w.heap.size w w' := by
 have hu48 := Try.underlying48
 have hu55 := Try.underlying55
 have HR0_2 := Aside0.mk hr0_2
 have HC0_2 := Aside0.mk hc0_2
 clear hr0_2 hc0_2
 have HB := Aside0.mk (Below.refl w.heap.size w)
 have H : ((impl_copyRow.f a0_0 a0_1 l0_2).bind fun bt682 => (if a1 < 1 then (impl_RowPack.j0 k a1 true a0_0 a0_1 l0_2 bt682.1 bt682.2.1 bt682.2.2) else ((impl_RowOk.f k a0_0 a0_1 l0_2).bind fun t688 => (impl_RowPack.j0 k a1 (!t688) a0_0 a0_1 l0_2 bt682.1 bt682.2.1 bt682.2.2)))) = some (r1, r2, r3) := h
 clear h
 replace H := Option.bind_eq_some_iff.mp H
 obtain ⟨⟨t682, t683, t684⟩, A30, H⟩ := H
 replace H : (if a1 < 1 then (impl_RowPack.j0 k a1 true a0_0 a0_1 l0_2 t682 t683 t684) else ((impl_RowOk.f k a0_0 a0_1 l0_2).bind fun t688 => (impl_RowPack.j0 k a1 (!t688) a0_0 a0_1 l0_2 t682 t683 t684))) = some (r1, r2, r3) := H
 have A3 := Aside0.mk A30
 clear A30
 have HC4 := Aside0.mk H
 clear H
 go_enter Try.func50, Try.ntmps50
 go_upto_region 2 with (first | (go_quiet (exact qgh0_)) | ((with_reducible refine gate_dst (N := 2) rfl ?_); refine box_event ?hg (N := 2) ?hd (cs := #[.int .i64 a0_0, .int .i64 a0_1, .slice A0_2 l0_2.length c0_2]) (t := 48) ?hr ?_; (case hd => rfl); (case hg => rfl); (case hr => first | (go_simp; done) | (go_simp; rfl)); intro gb680 hg w5 hbox hb; have n0_ := Aside0.mk (below_step (hb_ HB.out) hb); have n1_ := Aside0.mk (hbox); have n2_ := Aside0.mk ((by rw [hg]; exact (below_size (hb_ HB.out)) : w.heap.size ≤ gb680)); have n3_ := Aside0.mk ((by rw [hg]; exact (below_size (hb_ HB.out)) : w.heap.size ≤ gb680)); clear HB; have HB := n0_; have BK680 := n1_; have GW680 := n2_; have GE680 := n3_; clear n0_ n1_ n2_ n3_; clear hb hbox hg) | ((with_reducible refine gate_dst (N := 4) rfl ?_); refine box_event ?hg (N := 4) ?hd (cs := #[.int .i64 0, .int .i64 0, .slice none 0 0]) (t := 48) ?hr ?_; (case hd => rfl); (case hg => rfl); (case hr => first | (go_simp; done) | (go_simp; rfl)); intro gb681 hg w6 hbox hb; have n0_ := Aside0.mk (bb_ BK680.out hb); have n1_ := Aside0.mk (below_step (hb_ HB.out) hb); have n2_ := Aside0.mk (hbox); have n3_ := Aside0.mk ((by rw [hg]; exact (below_size (hb_ HB.out)) : w.heap.size ≤ gb681)); have n4_ := Aside0.mk ((by rw [hg]; exact (below_size (hb_ HB.out)) : w.heap.size ≤ gb681)); have n5_ := Aside0.mk ((nl_ BK680.out hg : gb680 ≠ gb681)); have n6_ := Aside0.mk ((ng_ BK680.out hg : gb681 ≠ gb680)); clear BK680; clear HB; have BK680 := n0_; have HB := n1_; have BK681 := n2_; have GW681 := n3_; have GE681 := n4_; have NB680_681 := n5_; have NB681_680 := n6_; clear n0_ n1_ n2_ n3_ n4_ n5_ n6_; clear hb hbox hg; have hnb7 := NB680_681.out; have hnc7 := NB681_680.out; have hcz8_0 : w6.cell? ⟨gb680, 0, none⟩ = some (.int .i64 a0_0) := bc_ BK680 0; have hcz8_1 : w6.cell? ⟨gb680, 1, none⟩ = some (.int .i64 a0_1) := bc_ BK680 1; have hcz8_2 : w6.cell? ⟨gb680, 2, none⟩ = some (.slice A0_2 l0_2.length c0_2) := bc_ BK680 2; have hfz8_0 := blk_frozen BK680.out 0; have hfz8_1 := blk_frozen BK680.out 1; have hfz8_2 := blk_frozen BK680.out 2) | (go_at_call 65; (with_reducible refine (impl_copyRow.calls a0_0 a0_1 _ _ l0_2 t682 t683 t684 _ ?side1 ?side2 A3.out).mono ?_); (case side1 => repeat (first | exact (Kd.C_below HR0_2.out HB.out) | (with_reducible refine Kd.C_alloc ?_ _) | (with_reducible refine Kd.C_drewN ?_ _) | (with_reducible refine Kd.C_drew ?_))); (case side2 => exact HC0_2.out); rintro e w9 ⟨v685, rfl, ho0, hb⟩; have n0_ := Aside0.mk (Kd.R_lower ho0 (below_size (hb_ HB.out))); have n1_ := Aside0.mk (bb_ BK680.out hb); have n2_ := Aside0.mk (bb_ BK681.out hb); have n3_ := Aside0.mk (below_step (hb_ HB.out) hb); clear BK680; clear BK681; clear HB; have HO686 := n0_; have BK680 := n1_; have BK681 := n2_; have HB := n3_; clear n0_ n1_ n2_ n3_; (try clear hb); (try clear hb2); (try clear hk); (try clear hi); (try clear ho0)) | ((with_reducible refine gate_dst (N := 5) rfl ?_); refine box_event ?hg (N := 5) ?hd (cs := #[.int .i64 0, .int .i64 0, .slice none 0 0]) (t := 48) ?hr ?_; (case hd => rfl); (case hg => rfl); (case hr => first | (go_simp; done) | (go_simp; rfl)); intro gb687 hg w10 hbox hb; have n0_ := Aside0.mk (Kd.R_below (rq_ HO686.out) hb); have n1_ := Aside0.mk (bb_ BK680.out hb); have n2_ := Aside0.mk (bb_ BK681.out hb); have n3_ := Aside0.mk (below_step (hb_ HB.out) hb); have n4_ := Aside0.mk (hbox); have n5_ := Aside0.mk ((by rw [hg]; exact (below_size (hb_ HB.out)) : w.heap.size ≤ gb687)); have n6_ := Aside0.mk ((by rw [hg]; exact (below_size (hb_ HB.out)) : w.heap.size ≤ gb687)); have n7_ := Aside0.mk ((nl_ BK680.out hg : gb680 ≠ gb687)); have n8_ := Aside0.mk ((ng_ BK680.out hg : gb687 ≠ gb680)); have n9_ := Aside0.mk ((nl_ BK681.out hg : gb681 ≠ gb687)); have n10_ := Aside0.mk ((ng_ BK681.out hg : gb687 ≠ gb681)); clear HO686; clear BK680; clear BK681; clear HB; have HO686 := n0_; have BK680 := n1_; have BK681 := n2_; have HB := n3_; have BK687 := n4_; have GW687 := n5_; have GE687 := n6_; have NB680_687 := n7_; have NB687_680 := n8_; have NB681_687 := n9_; have NB687_681 := n10_; clear n0_ n1_ n2_ n3_ n4_ n5_ n6_ n7_ n8_ n9_ n10_; clear hb hbox hg; have hnb11 := NB687_680.out; have hnc11 := NB680_687.out; have hnb12 := NB687_681.out; have hnc12 := NB681_687.out; have hcz13_0 : w10.cell? ⟨gb687, 0, none⟩ = some (.int .i64 0) := bc_ BK687 0; have hcz13_1 : w10.cell? ⟨gb687, 1, none⟩ = some (.int .i64 0) := bc_ BK687 1; have hcz13_2 : w10.cell? ⟨gb687, 2, none⟩ = some (.slice none 0 0) := bc_ BK687 2; have hfz13_0 := blk_frozen BK687.out 0; have hfz13_1 := blk_frozen BK687.out 1; have hfz13_2 := blk_frozen BK687.out 2; obtain ⟨Ao14, co14, eo14⟩ := Kd.R_slice HO686.out; subst eo14))
 (try simp only [Act.put, List.setIfInBounds_toArray, List.set_cons_zero, List.set_cons_succ])
 go_cut [17] (fun v17 wc => ∃ (kq : Nat) (x17_3 : Bool), v17 = .bool x17_3 ∧ Aside0 (impl_RowPack.j0 kq a1 x17_3 a0_0 a0_1 l0_2 t682 t683 t684 = some (r1, r2, r3)) ∧ Aside0 (kq ≤ k) ∧ Aside0 (Kd.R k_Item 55 wc w.heap.size (fun _ => True) (.slice Ao14 t684.length co14) t684) ∧ Aside0 (wc.heap[gb680]? = some (.cells #[.int .i64 a0_0, .int .i64 a0_1, (.slice A0_2 l0_2.length c0_2)] 48 (0, 0))) ∧ Aside0 (wc.heap[gb681]? = some (.cells #[.int .i64 0, .int .i64 0, (.slice none 0 0)] 48 (0, 0))) ∧ Aside0 (wc.heap[gb687]? = some (.cells #[.int .i64 t682, .int .i64 t683, (.slice Ao14 t684.length co14)] 48 (0, 0))) ∧ Aside0 (Below w.heap.size w wc))
 case first =>
  have H := HC4.out
  clear HC4
  by_cases c15 : a1 < 1
  ·
   rw [if_pos c15] at H
   have c15b0 : decide (a1 < 1) = true := decide_eq_true c15
   clear c15
   (first | rw [c15b0] | (simp only [i64_w, i32_w]; rw [c15b0]) | rw [c15b4] | rw [c15b3] | skip)
   have H' := Aside0.mk H
   clear H
   go_wp2
   repeat (go_quiet (fail); try go_wp2)
   go_meet
   case rel => exact ⟨_, (true), (qg2_), H', ⟨by first | omega | exact Nat.le_refl _⟩, ⟨by (with_reducible repeat (first | apply Kd.R_alloc | apply Kd.R_drewN | apply Kd.R_drew)); exact Kd.R_mono (Kd.R_far (p := ⟨gb687, 2, none⟩) (Kd.R_far (p := ⟨gb687, 1, none⟩) (Kd.R_far (p := ⟨gb687, 0, none⟩) (Kd.R_types HO686.out BK687.out (by decide)) (fun _ hk => hk.2) (.int .i64 t682)) (fun _ hk => hk.2) (.int .i64 t683)) (fun _ hk => hk.2) (.slice Ao14 t684.length co14)) (fun _ hk => trivial)⟩, ⟨bf_ NB680_687.out BK680.out⟩, ⟨bf_ NB681_687.out BK681.out⟩, ⟨bp_ BK687.out⟩, ⟨hb_ HB.out⟩⟩
  ·
   rw [if_neg c15] at H
   have c15b0 : decide (a1 < 1) = false := decide_eq_false c15
   clear c15
   (first | rw [c15b0] | (simp only [i64_w, i32_w]; rw [c15b0]) | rw [c15b4] | rw [c15b3] | skip)
   replace H := Option.bind_eq_some_iff.mp H
   obtain ⟨t688, A160, H⟩ := H
   replace H : (impl_RowPack.j0 k a1 (!t688) a0_0 a0_1 l0_2 t682 t683 t684) = some (r1, r2, r3) := H
   have A16 := Aside0.mk A160
   clear A160
   have H' := Aside0.mk H
   clear H
   have hnb17 := NB680_681.out
   have hnc17 := NB681_680.out
   have hnb18 := NB680_687.out
   have hnc18 := NB687_680.out
   have hcz19_0 : w10.cell? ⟨gb680, 0, none⟩ = some (.int .i64 a0_0) := bc_ BK680 0
   have hcz19_1 : w10.cell? ⟨gb680, 1, none⟩ = some (.int .i64 a0_1) := bc_ BK680 1
   have hcz19_2 : w10.cell? ⟨gb680, 2, none⟩ = some (.slice A0_2 l0_2.length c0_2) := bc_ BK680 2
   have hfz19_0 := blk_frozen BK680.out 0
   have hfz19_1 := blk_frozen BK680.out 1
   have hfz19_2 := blk_frozen BK680.out 2
   go_wp2_with (first | (go_quiet (exact qgh1_)) | (go_at_call 35; (with_reducible refine (impl_RowOk.calls k a0_0 a0_1 _ _ l0_2 t688 _ ?side1 ?side2 A16.out).mono ?_); (case side1 => exact Kd.C_below HR0_2.out (hb_ HB.out)); (case side2 => exact HC0_2.out); rintro e w20 ⟨rfl, hb⟩; have n0_ := Aside0.mk (Kd.R_below (rk_ HO686.out BK687.out) hb); have n1_ := Aside0.mk (blk_below (g := gb680) (o := .cells #[.int .i64 a0_0, .int .i64 a0_1, .slice A0_2 l0_2.length c0_2] 48 (0, 0)) (bf_ NB680_687.out BK680.out) hb); have n2_ := Aside0.mk (blk_below (g := gb681) (o := .cells #[.int .i64 0, .int .i64 0, .slice none 0 0] 48 (0, 0)) (bf_ NB681_687.out BK681.out) hb); have n3_ := Aside0.mk (blk_below (g := gb687) (o := .cells #[.int .i64 t682, .int .i64 t683, .slice Ao14 t684.length co14] 48 (0, 0)) (bp_ BK687.out) hb); have n4_ := Aside0.mk (below_step (hb_ HB.out) hb); clear HO686; clear BK680; clear BK681; clear BK687; clear HB; have HO686 := n0_; have BK680 := n1_; have BK681 := n2_; have BK687 := n3_; have HB := n4_; clear n0_ n1_ n2_ n3_ n4_; (try clear hb); (try clear hb2); (try clear hk); (try clear hi)))
   go_meet
   case rel => exact ⟨_, (!t688), (qg2_), H', ⟨by first | omega | exact Nat.le_refl _⟩, ⟨rq_ HO686.out⟩, ⟨bq_ BK680.out⟩, ⟨bq_ BK681.out⟩, ⟨bq_ BK687.out⟩, ⟨hb_ HB.out⟩⟩
 case rest =>
  clear HC4
  (try clear c1); (try clear p2); (try clear c5); (try clear c7); (try clear c11); (try clear c12); (try clear c15); (try clear c15b0); (try clear c17); (try clear c18); (try clear hcz13_0); (try clear hcz13_1); (try clear hcz13_2); (try clear hcz19_0); (try clear hcz19_1); (try clear hcz19_2); (try clear hcz8_0); (try clear hcz8_1); (try clear hcz8_2); (try clear hfz13_0); (try clear hfz13_1); (try clear hfz13_2); (try clear hfz19_0); (try clear hfz19_1); (try clear hfz19_2); (try clear hfz8_0); (try clear hfz8_1); (try clear hfz8_2)
  obtain ⟨kq, x17_3, rfl, HA, HJ3, HO_688002, BK680, BK681, BK687, HB⟩ := hcut
  cases kq with
  | zero => exact absurd HA.out (by simp [impl_RowPack.j0])
  | succ kj3 =>
   have H := HA.out
   clear HA
   simp only [impl_RowPack.j0] at H
   by_cases c21 : x17_3 = true
   ·
    subst c21
    have H1 : (some (t682, t683, t684)) = some (r1, r2, r3) := by rw [if_pos rfl] at H; exact H
    clear H
    have H := H1
    clear H1
    simp only [Option.some.injEq, Prod.mk.injEq] at H
    obtain ⟨rfl, rfl, rfl⟩ := H
    have hnb22 := NB687_680.out
    have hnc22 := NB680_687.out
    have hnb23 := NB687_681.out
    have hnc23 := NB681_687.out
    have hcz24_0 : wc.cell? ⟨gb687, 0, none⟩ = some (.int .i64 t682) := bc_ BK687 0
    have hcz24_1 : wc.cell? ⟨gb687, 1, none⟩ = some (.int .i64 t683) := bc_ BK687 1
    have hcz24_2 : wc.cell? ⟨gb687, 2, none⟩ = some (.slice Ao14 t684.length co14) := bc_ BK687 2
    have hfz24_0 := blk_frozen BK687.out 0
    have hfz24_1 := blk_frozen BK687.out 1
    have hfz24_2 := blk_frozen BK687.out 2
    have hnb25 := NB681_680.out
    have hnc25 := NB680_681.out
    have hcz26_0 : wc.cell? ⟨gb681, 0, none⟩ = some (.int .i64 0) := bc_ BK681 0
    have hcz26_1 : wc.cell? ⟨gb681, 1, none⟩ = some (.int .i64 0) := bc_ BK681 1
    have hcz26_2 : wc.cell? ⟨gb681, 2, none⟩ = some (.slice none 0 0) := bc_ BK681 2
    have hfz26_0 := blk_frozen BK681.out 0
    have hfz26_1 := blk_frozen BK681.out 1
    have hfz26_2 := blk_frozen BK681.out 2
    go_wp2
    repeat (go_quiet (fail); try go_wp2)
    refine bodyPost_ret (results_cell_row rfl _ _ gb681 48 #[.int .i64 t682, .int .i64 t683, .slice Ao14 t684.length co14] (0, 0) _ rfl (bp_ BK681.out) Try.underlying48 rfl (by kernel_rfl)) rfl ?_
    exact ⟨_, er_, by (with_reducible repeat (first | apply Kd.R_alloc | apply Kd.R_drewN | apply Kd.R_drew)); exact Kd.R_mono (Kd.R_far (p := ⟨gb681, 2, none⟩) (Kd.R_far (p := ⟨gb681, 1, none⟩) (Kd.R_far (p := ⟨gb681, 0, none⟩) (Kd.R_types HO_688002.out BK681.out (by decide)) (fun _ hk => hk.2) (.int .i64 t682)) (fun _ hk => hk.2) (.int .i64 t683)) (fun _ hk => hk.2) (.slice Ao14 t684.length co14)) (fun _ hk => trivial), hb_ HB.out⟩
   ·
    replace c21 := Bool.eq_false_iff.mpr c21
    subst c21
    have H1 : (impl_RowPack.l0 kj3 a1 l0_2 (l0_2.length : Int) 0 a0_0 a0_1 l0_2 t682 t683 ([] : List (S_Item))) = some (r1, r2, r3) := by rw [if_neg (show ¬ (false = true) by decide)] at H; exact H
    clear H
    have H := H1
    clear H1
    have H' := Aside0.mk H
    clear H
    have hnb27 := NB687_680.out
    have hnc27 := NB680_687.out
    have hnb28 := NB687_681.out
    have hnc28 := NB681_687.out
    have hcz29_0 : wc.cell? ⟨gb687, 0, none⟩ = some (.int .i64 t682) := bc_ BK687 0
    have hcz29_1 : wc.cell? ⟨gb687, 1, none⟩ = some (.int .i64 t683) := bc_ BK687 1
    have hcz29_2 : wc.cell? ⟨gb687, 2, none⟩ = some (.slice Ao14 t684.length co14) := bc_ BK687 2
    have hfz29_0 := blk_frozen BK687.out 0
    have hfz29_1 := blk_frozen BK687.out 1
    have hfz29_2 := blk_frozen BK687.out 2
    have hnb30 := NB680_681.out
    have hnc30 := NB681_680.out
    have hcz31_0 : wc.cell? ⟨gb680, 0, none⟩ = some (.int .i64 a0_0) := bc_ BK680 0
    have hcz31_1 : wc.cell? ⟨gb680, 1, none⟩ = some (.int .i64 a0_1) := bc_ BK680 1
    have hcz31_2 : wc.cell? ⟨gb680, 2, none⟩ = some (.slice A0_2 l0_2.length c0_2) := bc_ BK680 2
    have hfz31_0 := blk_frozen BK680.out 0
    have hfz31_1 := blk_frozen BK680.out 1
    have hfz31_2 := blk_frozen BK680.out 2
    go_wp2
    repeat (go_quiet (fail); try go_wp2)
    go_loopg [23] kj3 (fun kq v23 w' => ∃ (x23_2 : Int) (x688002_2 : List (S_Item)) (u688002 : Value), v23 = .int .i64 x23_2 ∧ Aside0 (impl_RowPack.l0 kq a1 l0_2 (l0_2.length : Int) x23_2 a0_0 a0_1 l0_2 t682 t683 x688002_2 = some (r1, r2, r3)) ∧ Aside0 (kq ≤ kj3) ∧ Aside0 (Kd.R k_Item 55 w' w.heap.size (fun _ => True) u688002 x688002_2) ∧ Aside0 (w'.heap[gb680]? = some (.cells #[.int .i64 a0_0, .int .i64 a0_1, (.slice A0_2 l0_2.length c0_2)] 48 (0, 0))) ∧ Aside0 (w'.heap[gb681]? = some (.cells #[.int .i64 0, .int .i64 0, (.slice none 0 0)] 48 (0, 0))) ∧ Aside0 (w'.heap[gb687]? = some (.cells #[.int .i64 t682, .int .i64 t683, u688002] 48 (0, 0))) ∧ Aside0 (Below w.heap.size w w'))
    case atStart => exact ⟨(0), (([] : List (S_Item))), (.slice none 0 0), (qg2_), H', ⟨Nat.le_refl _⟩, ⟨by first | exact Kd.R_nil _ _ _ _ _ | exact Kd.N_nil _ _ _ _ _ | exact Kd.V_nil _ _ _ _ _ | exact Kd.Q_nil _ _ _ _ _ | exact Kd.S_nil _ _ _ _ _⟩, ⟨bf_ NB680_687.out BK680.out⟩, ⟨bf_ NB681_687.out BK681.out⟩, ⟨bp_ BK687.out⟩, ⟨hb_ HB.out⟩⟩
    case round =>
     clear H'
     (try clear c1); (try clear c2); (try clear p2); (try clear c3); (try clear c5); (try clear c7); (try clear c11); (try clear c12); (try clear c15); (try clear c15b0); (try clear c17); (try clear c18); (try clear c21); (try clear c22); (try clear c23); (try clear c25); (try clear c27); (try clear c28); (try clear c30); (try clear hcz13_0); (try clear hcz13_1); (try clear hcz13_2); (try clear hcz19_0); (try clear hcz19_1); (try clear hcz19_2); (try clear hcz24_0); (try clear hcz24_1); (try clear hcz24_2); (try clear hcz26_0); (try clear hcz26_1); (try clear hcz26_2); (try clear hcz29_0); (try clear hcz29_1); (try clear hcz29_2); (try clear hcz31_0); (try clear hcz31_1); (try clear hcz31_2); (try clear hcz8_0); (try clear hcz8_1); (try clear hcz8_2); (try clear hfz13_0); (try clear hfz13_1); (try clear hfz13_2); (try clear hfz19_0); (try clear hfz19_1); (try clear hfz19_2); (try clear hfz24_0); (try clear hfz24_1); (try clear hfz24_2); (try clear hfz26_0); (try clear hfz26_1); (try clear hfz26_2); (try clear hfz29_0); (try clear hfz29_1); (try clear hfz29_2); (try clear hfz31_0); (try clear hfz31_1); (try clear hfz31_2); (try clear hfz8_0); (try clear hfz8_1); (try clear hfz8_2); (try clear p2)
     obtain ⟨x23_2, x688002_2, u688002, rfl, HA, HK2, HO_688002, BK680, BK681, BK687, HB⟩ := hrel
     cases gk with
     | zero => exact absurd HA.out (by simp [impl_RowPack.l0])
     | succ k2 =>
      have H := HA.out
      clear HA
      simp only [impl_RowPack.l0] at H
      by_cases c32 : x23_2 < (l0_2.length : Int)
      ·
       rw [if_pos c32] at H
       have c32b0 : decide (x23_2 < (l0_2.length : Int)) = true := decide_eq_true c32
       clear c32
       by_cases c33 : 0 ≤ x23_2
       ·
        rw [if_pos c33] at H
        have c33b0 : decide (0 ≤ x23_2) = true := decide_eq_true c33
        clear c33
        by_cases c34 : x23_2 < (l0_2.length : Int)
        ·
         rw [if_pos c34] at H
         have c34b0 : decide (x23_2 < (l0_2.length : Int)) = true := decide_eq_true c34
         clear c34
         by_cases c35 : ((rd_Item l0_2 x23_2).f1).toList = ([] : List UInt8)
         ·
          rw [if_pos c35] at H
          have c35b0 : (((rd_Item l0_2 x23_2).f1).toList == ([] : List UInt8)) = true := beq_iff_eq.mpr c35
          have c35b1 : (((rd_Item l0_2 x23_2).f1).toList != ([] : List UInt8)) = false := bne_eq_false_iff_eq.mpr c35
          clear c35
          by_cases c36 : x688002_2.length < 2513169434916
          ·
           rw [if_pos c36] at H
           have LMc36 := Aside0.mk c36
           clear c36
           obtain ⟨y691, hy691⟩ : ∃ y_ : List (S_Item), y_ = (x688002_2 ++ [(⟨(rd_Item l0_2 x23_2).f0, (rd_Item l0_2 x23_2).f1, (rd_Item l0_2 x23_2).f2, (rd_Item l0_2 x23_2).f3, (rd_Item l0_2 x23_2).f4⟩ : S_Item)]) := ⟨_, rfl⟩
           replace H : (impl_RowPack.l0 k2 a1 l0_2 (l0_2.length : Int) (wrap64 (x23_2 + 1)) a0_0 a0_1 l0_2 t682 t683 y691) = some (r1, r2, r3) := by first | (rw [hy691]; with_reducible exact H) | (have H2_ := (Option.bind_some _ _).symm.trans H; rw [hy691]; with_reducible exact H2_) | (have H2_ := (Option.bind_some _ _).symm.trans H; with_reducible exact H2_) | with_reducible exact H | (rw [hy691]; exact H) | exact H
           have Ny691 := Aside0.mk hy691
           clear hy691
           have H' := Aside0.mk H
           clear H
           have p689 : 0 ≤ (x23_2 : Int) := of_decide_eq_true dt_
           have q689 : x23_2 < (l0_2.length : Int) := of_decide_eq_true dt_
           obtain ⟨ad689, e689, hx689_0, hx689_1, hx689_2, hx689_3, hx689_4⟩ := at_Item HR0_2.out x23_2 p689 q689
           cases e689
           replace hx689_0 := hc_ HB hx689_0
           replace hx689_1 := hc_ HB hx689_1
           replace hx689_2 := hc_ HB hx689_2
           replace hx689_3 := hc_ HB hx689_3
           replace hx689_4 := hc_ HB hx689_4
           replace p689 := eq_true p689
           replace q689 := eq_true q689
           go_wp2_with (first | (go_quiet (fail)) | ((with_reducible refine gate_dst (N := 7) rfl ?_); refine box_event ?hg (N := 7) ?hd (cs := #[.int .i64 0, .string (⟨#[]⟩ : ByteArray), .string (⟨#[]⟩ : ByteArray), .int .i64 0, .int .i64 0]) (t := 55) ?hr ?_; (case hd => rfl); (case hg => rfl); (case hr => first | (go_simp; done) | (go_simp; rfl)); intro gb690 hg w37 hbox hb; have n0_ := Aside0.mk (Kd.R_below (Kd.R_elderB (rq_ HO_688002.out) gb690 (Nat.le_of_eq hg.symm)) hb); have n1_ := Aside0.mk (bb_ BK680.out hb); have n2_ := Aside0.mk (bb_ BK681.out hb); have n3_ := Aside0.mk (bb_ BK687.out hb); have n4_ := Aside0.mk (below_step (hb_ HB.out) hb); have n5_ := Aside0.mk (hbox); have n6_ := Aside0.mk ((by rw [hg]; exact (below_size (hb_ HB.out)) : w.heap.size ≤ gb690)); have n7_ := Aside0.mk ((by rw [hg]; exact (below_size (hb_ HB.out)) : w.heap.size ≤ gb690)); have n8_ := Aside0.mk ((nl_ BK680.out hg : gb680 ≠ gb690)); have n9_ := Aside0.mk ((ng_ BK680.out hg : gb690 ≠ gb680)); have n10_ := Aside0.mk ((nl_ BK681.out hg : gb681 ≠ gb690)); have n11_ := Aside0.mk ((ng_ BK681.out hg : gb690 ≠ gb681)); have n12_ := Aside0.mk ((nl_ BK687.out hg : gb687 ≠ gb690)); have n13_ := Aside0.mk ((ng_ BK687.out hg : gb690 ≠ gb687)); clear HO_688002; clear BK680; clear BK681; clear BK687; clear HB; have HO_688002 := n0_; have BK680 := n1_; have BK681 := n2_; have BK687 := n3_; have HB := n4_; have BK690 := n5_; have GW690 := n6_; have GE690 := n7_; have NB680_690 := n8_; have NB690_680 := n9_; have NB681_690 := n10_; have NB690_681 := n11_; have NB687_690 := n12_; have NB690_687 := n13_; clear n0_ n1_ n2_ n3_ n4_ n5_ n6_ n7_ n8_ n9_ n10_ n11_ n12_ n13_; clear hb hbox hg; have hnb38 := NB690_680.out; have hnc38 := NB680_690.out; have hnb39 := NB690_681.out; have hnc39 := NB681_690.out; have hnb40 := NB690_687.out; have hnc40 := NB687_690.out; have hcz41_0 : w37.cell? ⟨gb690, 0, none⟩ = some (.int .i64 0) := bc_ BK690 0; have hcz41_1 : w37.cell? ⟨gb690, 1, none⟩ = some (.string (⟨#[]⟩ : ByteArray)) := bc_ BK690 1; have hcz41_2 : w37.cell? ⟨gb690, 2, none⟩ = some (.string (⟨#[]⟩ : ByteArray)) := bc_ BK690 2; have hcz41_3 : w37.cell? ⟨gb690, 3, none⟩ = some (.int .i64 0) := bc_ BK690 3; have hcz41_4 : w37.cell? ⟨gb690, 4, none⟩ = some (.int .i64 0) := bc_ BK690 4; have hfz41_0 := blk_frozen BK690.out 0; have hfz41_1 := blk_frozen BK690.out 1; have hfz41_2 := blk_frozen BK690.out 2; have hfz41_3 := blk_frozen BK690.out 3; have hfz41_4 := blk_frozen BK690.out 4; have hnb42 := NB687_680.out; have hnc42 := NB680_687.out; have hnb43 := NB687_681.out; have hnc43 := NB681_687.out; have hcz44_0 : w37.cell? ⟨gb687, 0, none⟩ = some (.int .i64 t682) := bc_ BK687 0; have hcz44_1 : w37.cell? ⟨gb687, 1, none⟩ = some (.int .i64 t683) := bc_ BK687 1; have hcz44_2 : w37.cell? ⟨gb687, 2, none⟩ = some (u688002) := bc_ BK687 2; have hfz44_0 := blk_frozen BK687.out 0; have hfz44_1 := blk_frozen BK687.out 1; have hfz44_2 := blk_frozen BK687.out 2) | ((with_reducible refine gate_builtin (b := .append) (xs := #[.tmp 55, .tmp 57]) rfl ?_); at_builtin; refine Kd.R_append k_Item (w0 := w) w.heap.size rfl (.tmp 55) (.tmp 57) 46 55 (.agg #[(.int .i64 0), (.string ⟨#[]⟩), (.string ⟨#[]⟩), (.int .i64 0), (.int .i64 0)]) 56 rfl Try.underlying46 info55 rfl (by decide) (by omega) u688002 x688002_2 (⟨(rd_Item l0_2 x23_2).f0, (rd_Item l0_2 x23_2).f1, (rd_Item l0_2 x23_2).f2, (rd_Item l0_2 x23_2).f3, (rd_Item l0_2 x23_2).f4⟩ : S_Item) [.int .i64 ((rd_Item l0_2 x23_2).f0), .string ((rd_Item l0_2 x23_2).f1), .string ((rd_Item l0_2 x23_2).f2), .int .i64 ((rd_Item l0_2 x23_2).f3), .int .i64 ((rd_Item l0_2 x23_2).f4)] (fun k_ => k_ ≠ gb690) (fun _ => False) rfl (by first | (go_simp; done) | (go_simp; rfl)) ?aP (fun _ hk => hk.elim) ?aF ?aO ?aB ?aS ?aL ?_; (case aP => exact k_Item_mkM _ _ _ (⟨(rd_Item l0_2 x23_2).f0, (rd_Item l0_2 x23_2).f1, (rd_Item l0_2 x23_2).f2, (rd_Item l0_2 x23_2).f3, (rd_Item l0_2 x23_2).f4⟩ : S_Item)); (case aB => exact (hb_ HB.out)); (case aF => exact (fun k_ hk => Kd.freshB (g := gb690) (o := .cells #[.int .i64 ((rd_Item l0_2 x23_2).f0), .string ((rd_Item l0_2 x23_2).f1), .string ((rd_Item l0_2 x23_2).f2), .int .i64 ((rd_Item l0_2 x23_2).f3), .int .i64 ((rd_Item l0_2 x23_2).f4)] 55 (0, 0)) (bp_ BK690.out) k_ hk)); (case aO => exact (qg0_)); (case aS => exact (below_size (hb_ HB.out))); (case aL => have := LMc36.out; omega); intro v692 w45 ho hb hg hat; rw [← Ny691.out] at ho; have n0_ := Aside0.mk (blk_grown (g := gb680) (o := .cells #[.int .i64 a0_0, .int .i64 a0_1, .slice (some ad689) l0_2.length c0_2] 48 (0, 0)) (bf_ NB680_690.out BK680.out) hg (Kd.R_ne HO_688002.out BK680.out (by decide))); have n1_ := Aside0.mk (blk_grown (g := gb681) (o := .cells #[.int .i64 0, .int .i64 0, .slice none 0 0] 48 (0, 0)) (bf_ NB681_690.out BK681.out) hg (Kd.R_ne HO_688002.out BK681.out (by decide))); have n2_ := Aside0.mk (blk_grown (g := gb687) (o := .cells #[.int .i64 t682, .int .i64 t683, u688002] 48 (0, 0)) (bf_ NB687_690.out BK687.out) hg (Kd.R_ne HO_688002.out BK687.out (by decide))); have n3_ := Aside0.mk (blk_grown (g := gb690) (o := .cells #[.int .i64 ((rd_Item l0_2 x23_2).f0), .string ((rd_Item l0_2 x23_2).f1), .string ((rd_Item l0_2 x23_2).f2), .int .i64 ((rd_Item l0_2 x23_2).f3), .int .i64 ((rd_Item l0_2 x23_2).f4)] 55 (0, 0)) (bp_ BK690.out) hg (Kd.R_away HO_688002.out (fun _ hk => hk.2))); have n4_ := Aside0.mk (hb); have n5_ := Aside0.mk (ho); clear BK680; clear BK681; clear BK687; clear BK690; clear HB; clear HO_688002; have BK680 := n0_; have BK681 := n1_; have BK687 := n2_; have BK690 := n3_; have HB := n4_; have HO693 := n5_; clear n0_ n1_ n2_ n3_ n4_ n5_; clear ho hb hg hat; obtain ⟨Ao46, co46, eo46⟩ := Kd.R_slice HO693.out; subst eo46; have hcz47_0 : w45.cell? ⟨gb687, 0, none⟩ = some (.int .i64 t682) := bc_ BK687 0; have hcz47_1 : w45.cell? ⟨gb687, 1, none⟩ = some (.int .i64 t683) := bc_ BK687 1; have hcz47_2 : w45.cell? ⟨gb687, 2, none⟩ = some (u688002) := bc_ BK687 2; have hfz47_0 := blk_frozen BK687.out 0; have hfz47_1 := blk_frozen BK687.out 1; have hfz47_2 := blk_frozen BK687.out 2))
           go_roundg k2
           case measure => have := HJ3.out; have := HK2.out; omega
           case rel => exact ⟨(wrap64 (x23_2 + 1)), (y691), (.slice Ao46 y691.length co46), (qg2_), H', ⟨qg3_⟩, ⟨by (with_reducible repeat (first | apply Kd.R_alloc | apply Kd.R_drewN | apply Kd.R_drew)); exact Kd.R_mono (Kd.R_far (p := ⟨gb687, 2, none⟩) (Kd.R_types HO693.out BK687.out (by decide)) (fun _ hk => hk.2) (.slice Ao46 y691.length co46)) (fun _ hk => trivial)⟩, ⟨bf_ NB680_687.out BK680.out⟩, ⟨bf_ NB681_687.out BK681.out⟩, ⟨bp_ BK687.out⟩, ⟨hb_ HB.out⟩⟩
          ·
           rw [if_neg c36] at H
           exact absurd H (by simp)
         ·
          rw [if_neg c35] at H
          have c35b0 : (((rd_Item l0_2 x23_2).f1).toList == ([] : List UInt8)) = false := beq_eq_false_iff_ne.mpr c35
          have c35b1 : (((rd_Item l0_2 x23_2).f1).toList != ([] : List UInt8)) = true := bne_iff_ne.mpr c35
          obtain ⟨ji48, hji48⟩ : ∃ j_ : Int, (wrap64 (x23_2 + 1)) = j_ := ⟨_, rfl⟩
          replace H : (if 0 ≤ (ji48) then (if (ji48) ≤ (l0_2.length : Int) then ((slices_ContainsFunc_RowPack.f (l0_2.drop ((ji48) : Int).toNat) ((rd_Item l0_2 x23_2).f1)).bind fun t698 => (if t698 = true then (if a1 = 0 then (none) else (if (wrap64 (Int.tdiv ((rd_Item l0_2 x23_2).f0) a1)) = (wrap64 (Int.tdiv (wrap64 (a0_1 - 1)) a1)) then (if x688002_2.length < 2513169434916 then (impl_RowPack.l0 k2 a1 l0_2 (l0_2.length : Int) ji48 a0_0 a0_1 l0_2 t682 t683 (x688002_2 ++ [(⟨(rd_Item l0_2 x23_2).f0, (rd_Item l0_2 x23_2).f1, (rd_Item l0_2 x23_2).f2, (rd_Item l0_2 x23_2).f3, (rd_Item l0_2 x23_2).f4⟩ : S_Item)])) else (none)) else (impl_RowPack.l0 k2 a1 l0_2 (l0_2.length : Int) ji48 a0_0 a0_1 l0_2 t682 t683 x688002_2))) else (if x688002_2.length < 2513169434916 then (impl_RowPack.l0 k2 a1 l0_2 (l0_2.length : Int) ji48 a0_0 a0_1 l0_2 t682 t683 (x688002_2 ++ [(⟨(rd_Item l0_2 x23_2).f0, (rd_Item l0_2 x23_2).f1, (rd_Item l0_2 x23_2).f2, (rd_Item l0_2 x23_2).f3, (rd_Item l0_2 x23_2).f4⟩ : S_Item)])) else (none)))) else (none)) else (none)) = some (r1, r2, r3) := by first | (rw [hji48] at H; exact H) | (simp only [hji48] at H ⊢; exact H)
          have hji48w : (IntKind.i64.wrap (x23_2 + 1)) = ji48 := (i64_w _).trans hji48
          by_cases c49 : 0 ≤ (ji48)
          ·
           rw [if_pos c49] at H
           have c49b0 := eq_true c49
           have c49b1 : decide (0 ≤ (ji48)) = true := decide_eq_true c49
           clear c49
           by_cases c50 : (ji48) ≤ (l0_2.length : Int)
           ·
            rw [if_pos c50] at H
            have c50b0 := eq_true c50
            have c50b1 : decide ((ji48) ≤ (l0_2.length : Int)) = true := decide_eq_true c50
            clear c50
            obtain ⟨y694, hy694⟩ : ∃ y_ : List (S_Item), y_ = (l0_2.drop ((ji48) : Int).toNat) := ⟨_, rfl⟩
            replace H : ((slices_ContainsFunc_RowPack.f y694 ((rd_Item l0_2 x23_2).f1)).bind fun t698 => (if t698 = true then (if a1 = 0 then (none) else (if (wrap64 (Int.tdiv ((rd_Item l0_2 x23_2).f0) a1)) = (wrap64 (Int.tdiv (wrap64 (a0_1 - 1)) a1)) then (if x688002_2.length < 2513169434916 then (impl_RowPack.l0 k2 a1 l0_2 (l0_2.length : Int) ji48 a0_0 a0_1 l0_2 t682 t683 (x688002_2 ++ [(⟨(rd_Item l0_2 x23_2).f0, (rd_Item l0_2 x23_2).f1, (rd_Item l0_2 x23_2).f2, (rd_Item l0_2 x23_2).f3, (rd_Item l0_2 x23_2).f4⟩ : S_Item)])) else (none)) else (impl_RowPack.l0 k2 a1 l0_2 (l0_2.length : Int) ji48 a0_0 a0_1 l0_2 t682 t683 x688002_2))) else (if x688002_2.length < 2513169434916 then (impl_RowPack.l0 k2 a1 l0_2 (l0_2.length : Int) ji48 a0_0 a0_1 l0_2 t682 t683 (x688002_2 ++ [(⟨(rd_Item l0_2 x23_2).f0, (rd_Item l0_2 x23_2).f1, (rd_Item l0_2 x23_2).f2, (rd_Item l0_2 x23_2).f3, (rd_Item l0_2 x23_2).f4⟩ : S_Item)])) else (none)))) = some (r1, r2, r3) := by first | (rw [hy694]; with_reducible exact H) | (have H2_ := (Option.bind_some _ _).symm.trans H; rw [hy694]; with_reducible exact H2_) | (have H2_ := (Option.bind_some _ _).symm.trans H; with_reducible exact H2_) | with_reducible exact H | (rw [hy694]; exact H) | exact H
            have Ny694 := Aside0.mk hy694
            clear hy694
            replace H := Option.bind_eq_some_iff.mp H
            obtain ⟨t698, A510, H⟩ := H
            replace H : (if t698 = true then (if a1 = 0 then (none) else (if (wrap64 (Int.tdiv ((rd_Item l0_2 x23_2).f0) a1)) = (wrap64 (Int.tdiv (wrap64 (a0_1 - 1)) a1)) then (if x688002_2.length < 2513169434916 then (impl_RowPack.l0 k2 a1 l0_2 (l0_2.length : Int) ji48 a0_0 a0_1 l0_2 t682 t683 (x688002_2 ++ [(⟨(rd_Item l0_2 x23_2).f0, (rd_Item l0_2 x23_2).f1, (rd_Item l0_2 x23_2).f2, (rd_Item l0_2 x23_2).f3, (rd_Item l0_2 x23_2).f4⟩ : S_Item)])) else (none)) else (impl_RowPack.l0 k2 a1 l0_2 (l0_2.length : Int) ji48 a0_0 a0_1 l0_2 t682 t683 x688002_2))) else (if x688002_2.length < 2513169434916 then (impl_RowPack.l0 k2 a1 l0_2 (l0_2.length : Int) ji48 a0_0 a0_1 l0_2 t682 t683 (x688002_2 ++ [(⟨(rd_Item l0_2 x23_2).f0, (rd_Item l0_2 x23_2).f1, (rd_Item l0_2 x23_2).f2, (rd_Item l0_2 x23_2).f3, (rd_Item l0_2 x23_2).f4⟩ : S_Item)])) else (none))) = some (r1, r2, r3) := H
            have A51 := Aside0.mk A510
            clear A510
            by_cases c52 : t698 = true
            ·
             subst c52
             have H1 : (if a1 = 0 then (none) else (if (wrap64 (Int.tdiv ((rd_Item l0_2 x23_2).f0) a1)) = (wrap64 (Int.tdiv (wrap64 (a0_1 - 1)) a1)) then (if x688002_2.length < 2513169434916 then (impl_RowPack.l0 k2 a1 l0_2 (l0_2.length : Int) ji48 a0_0 a0_1 l0_2 t682 t683 (x688002_2 ++ [(⟨(rd_Item l0_2 x23_2).f0, (rd_Item l0_2 x23_2).f1, (rd_Item l0_2 x23_2).f2, (rd_Item l0_2 x23_2).f3, (rd_Item l0_2 x23_2).f4⟩ : S_Item)])) else (none)) else (impl_RowPack.l0 k2 a1 l0_2 (l0_2.length : Int) ji48 a0_0 a0_1 l0_2 t682 t683 x688002_2))) = some (r1, r2, r3) := by rw [if_pos rfl] at H; exact H
             clear H
             have H := H1
             clear H1
             by_cases c53 : a1 = 0
             ·
              rw [if_pos c53] at H
              exact absurd H (by simp)
             ·
              rw [if_neg c53] at H
              have c53b0 : (a1 == 0) = false := beq_eq_false_iff_ne.mpr c53
              have c53b1 : (a1 != 0) = true := bne_iff_ne.mpr c53
              by_cases c54 : (wrap64 (Int.tdiv ((rd_Item l0_2 x23_2).f0) a1)) = (wrap64 (Int.tdiv (wrap64 (a0_1 - 1)) a1))
              ·
               rw [if_pos c54] at H
               have c54b0 : ((wrap64 (Int.tdiv ((rd_Item l0_2 x23_2).f0) a1)) == (wrap64 (Int.tdiv (wrap64 (a0_1 - 1)) a1))) = true := beq_iff_eq.mpr c54
               have c54b1 : ((wrap64 (Int.tdiv ((rd_Item l0_2 x23_2).f0) a1)) != (wrap64 (Int.tdiv (wrap64 (a0_1 - 1)) a1))) = false := bne_eq_false_iff_eq.mpr c54
               clear c54
               by_cases c55 : x688002_2.length < 2513169434916
               ·
                rw [if_pos c55] at H
                have LMc55 := Aside0.mk c55
                clear c55
                obtain ⟨y699, hy699⟩ : ∃ y_ : List (S_Item), y_ = (x688002_2 ++ [(⟨(rd_Item l0_2 x23_2).f0, (rd_Item l0_2 x23_2).f1, (rd_Item l0_2 x23_2).f2, (rd_Item l0_2 x23_2).f3, (rd_Item l0_2 x23_2).f4⟩ : S_Item)]) := ⟨_, rfl⟩
                replace H : (impl_RowPack.l0 k2 a1 l0_2 (l0_2.length : Int) ji48 a0_0 a0_1 l0_2 t682 t683 y699) = some (r1, r2, r3) := by first | (rw [hy699]; with_reducible exact H) | (have H2_ := (Option.bind_some _ _).symm.trans H; rw [hy699]; with_reducible exact H2_) | (have H2_ := (Option.bind_some _ _).symm.trans H; with_reducible exact H2_) | with_reducible exact H | (rw [hy699]; exact H) | exact H
                have Ny699 := Aside0.mk hy699
                clear hy699
                have H' := Aside0.mk H
                clear H
                have p689 : 0 ≤ (x23_2 : Int) := of_decide_eq_true dt_
                have q689 : x23_2 < (l0_2.length : Int) := of_decide_eq_true dt_
                obtain ⟨ad689, e689, hx689_0, hx689_1, hx689_2, hx689_3, hx689_4⟩ := at_Item HR0_2.out x23_2 p689 q689
                cases e689
                replace hx689_0 := hc_ HB hx689_0
                replace hx689_1 := hc_ HB hx689_1
                replace hx689_2 := hc_ HB hx689_2
                replace hx689_3 := hc_ HB hx689_3
                replace hx689_4 := hc_ HB hx689_4
                replace p689 := eq_true p689
                replace q689 := eq_true q689
                go_wp2_with (first | (go_quiet (exact qgh2_)) | ((with_reducible refine gate_dst (N := 7) rfl ?_); refine box_event ?hg (N := 7) ?hd (cs := #[.int .i64 0, .string (⟨#[]⟩ : ByteArray), .string (⟨#[]⟩ : ByteArray), .int .i64 0, .int .i64 0]) (t := 55) ?hr ?_; (case hd => rfl); (case hg => rfl); (case hr => first | (go_simp; done) | (go_simp; rfl)); intro gb690 hg w56 hbox hb; have n0_ := Aside0.mk (Kd.R_below (Kd.R_elderB (rq_ HO_688002.out) gb690 (Nat.le_of_eq hg.symm)) hb); have n1_ := Aside0.mk (bb_ BK680.out hb); have n2_ := Aside0.mk (bb_ BK681.out hb); have n3_ := Aside0.mk (bb_ BK687.out hb); have n4_ := Aside0.mk (below_step (hb_ HB.out) hb); have n5_ := Aside0.mk (hbox); have n6_ := Aside0.mk ((by rw [hg]; exact (below_size (hb_ HB.out)) : w.heap.size ≤ gb690)); have n7_ := Aside0.mk ((by rw [hg]; exact (below_size (hb_ HB.out)) : w.heap.size ≤ gb690)); have n8_ := Aside0.mk ((nl_ BK680.out hg : gb680 ≠ gb690)); have n9_ := Aside0.mk ((ng_ BK680.out hg : gb690 ≠ gb680)); have n10_ := Aside0.mk ((nl_ BK681.out hg : gb681 ≠ gb690)); have n11_ := Aside0.mk ((ng_ BK681.out hg : gb690 ≠ gb681)); have n12_ := Aside0.mk ((nl_ BK687.out hg : gb687 ≠ gb690)); have n13_ := Aside0.mk ((ng_ BK687.out hg : gb690 ≠ gb687)); clear HO_688002; clear BK680; clear BK681; clear BK687; clear HB; have HO_688002 := n0_; have BK680 := n1_; have BK681 := n2_; have BK687 := n3_; have HB := n4_; have BK690 := n5_; have GW690 := n6_; have GE690 := n7_; have NB680_690 := n8_; have NB690_680 := n9_; have NB681_690 := n10_; have NB690_681 := n11_; have NB687_690 := n12_; have NB690_687 := n13_; clear n0_ n1_ n2_ n3_ n4_ n5_ n6_ n7_ n8_ n9_ n10_ n11_ n12_ n13_; clear hb hbox hg; have hnb57 := NB690_680.out; have hnc57 := NB680_690.out; have hnb58 := NB690_681.out; have hnc58 := NB681_690.out; have hnb59 := NB690_687.out; have hnc59 := NB687_690.out; have hcz60_0 : w56.cell? ⟨gb690, 0, none⟩ = some (.int .i64 0) := bc_ BK690 0; have hcz60_1 : w56.cell? ⟨gb690, 1, none⟩ = some (.string (⟨#[]⟩ : ByteArray)) := bc_ BK690 1; have hcz60_2 : w56.cell? ⟨gb690, 2, none⟩ = some (.string (⟨#[]⟩ : ByteArray)) := bc_ BK690 2; have hcz60_3 : w56.cell? ⟨gb690, 3, none⟩ = some (.int .i64 0) := bc_ BK690 3; have hcz60_4 : w56.cell? ⟨gb690, 4, none⟩ = some (.int .i64 0) := bc_ BK690 4; have hfz60_0 := blk_frozen BK690.out 0; have hfz60_1 := blk_frozen BK690.out 1; have hfz60_2 := blk_frozen BK690.out 2; have hfz60_3 := blk_frozen BK690.out 3; have hfz60_4 := blk_frozen BK690.out 4) | ((with_reducible refine gate_store (t := 55) (p := 7) rfl ?_); (try (rw [drewN_self w56]; generalize hq_ : World.drewN w56 _ = w56; have n0_ := Aside0.mk (Kd.R_at hq_ HO_688002.out); have n1_ := Aside0.mk (blk_at hq_ BK680.out); have n2_ := Aside0.mk (blk_at hq_ BK681.out); have n3_ := Aside0.mk (blk_at hq_ BK687.out); have n4_ := Aside0.mk (blk_at hq_ BK690.out); have n5_ := Aside0.mk (below_at hq_ HB.out); clear hq_ HO_688002 BK680 BK681 BK687 BK690 HB; have HO_688002 := n0_; have BK680 := n1_; have BK681 := n2_; have BK687 := n3_; have BK690 := n4_; have HB := n5_; clear n0_ n1_ n2_ n3_ n4_ n5_)); refine store_event (t := 55) (p := 7) (v := ?vo_w61) (w1 := (((((w56.setCell ⟨gb690, 0, none⟩ (.int .i64 ((rd_Item l0_2 x23_2).f0))).setCell ⟨gb690, 1, none⟩ (.string ((rd_Item l0_2 x23_2).f1))).setCell ⟨gb690, 2, none⟩ (.string ((rd_Item l0_2 x23_2).f2))).setCell ⟨gb690, 3, none⟩ (.int .i64 ((rd_Item l0_2 x23_2).f3))).setCell ⟨gb690, 4, none⟩ (.int .i64 ((rd_Item l0_2 x23_2).f4)))) ?hg ?ho ?hn ?hr ?_; (case ho => rfl); (case hg => rfl); (case hn => rfl); (case hr => first | (go_simp; done) | (go_simp; rfl)); intro w61 hw; have n0_ : Aside0 (Kd.R k_Item 55 w61 w.heap.size (fun k_ => k_ ≠ gb690) u688002 x688002_2) := ⟨(by rw [hw]; exact (qg0_))⟩; have n1_ : Aside0 (w61.heap[gb680]? = some (.cells #[.int .i64 a0_0, .int .i64 a0_1, .slice (some ad689) l0_2.length c0_2] 48 (0, 0))) := ⟨(by rw [hw]; exact (bf_ NB680_690.out BK680.out))⟩; have n2_ : Aside0 (w61.heap[gb681]? = some (.cells #[.int .i64 0, .int .i64 0, .slice none 0 0] 48 (0, 0))) := ⟨(by rw [hw]; exact (bf_ NB681_690.out BK681.out))⟩; have n3_ : Aside0 (w61.heap[gb687]? = some (.cells #[.int .i64 t682, .int .i64 t683, u688002] 48 (0, 0))) := ⟨(by rw [hw]; exact (bf_ NB687_690.out BK687.out))⟩; have n4_ : Aside0 (w61.heap[gb690]? = some (.cells #[.int .i64 ((rd_Item l0_2 x23_2).f0), .string ((rd_Item l0_2 x23_2).f1), .string ((rd_Item l0_2 x23_2).f2), .int .i64 ((rd_Item l0_2 x23_2).f3), .int .i64 ((rd_Item l0_2 x23_2).f4)] 55 (0, 0))) := ⟨(by rw [hw]; exact (bp_ BK690.out))⟩; have n5_ : Aside0 (Below w.heap.size w w61) := ⟨(by rw [hw]; exact (hb_ HB.out))⟩; clear hw; clear HO_688002; clear BK680; clear BK681; clear BK687; clear BK690; clear HB; have HO_688002 := n0_; have BK680 := n1_; have BK681 := n2_; have BK687 := n3_; have BK690 := n4_; have HB := n5_; clear n0_ n1_ n2_ n3_ n4_ n5_; have hcz62_0 : w61.cell? ⟨gb690, 0, none⟩ = some (.int .i64 ((rd_Item l0_2 x23_2).f0)) := bc_ BK690 0; have hcz62_1 : w61.cell? ⟨gb690, 1, none⟩ = some (.string ((rd_Item l0_2 x23_2).f1)) := bc_ BK690 1; have hcz62_2 : w61.cell? ⟨gb690, 2, none⟩ = some (.string ((rd_Item l0_2 x23_2).f2)) := bc_ BK690 2; have hcz62_3 : w61.cell? ⟨gb690, 3, none⟩ = some (.int .i64 ((rd_Item l0_2 x23_2).f3)) := bc_ BK690 3; have hcz62_4 : w61.cell? ⟨gb690, 4, none⟩ = some (.int .i64 ((rd_Item l0_2 x23_2).f4)) := bc_ BK690 4; have hfz62_0 := blk_frozen BK690.out 0; have hfz62_1 := blk_frozen BK690.out 1; have hfz62_2 := blk_frozen BK690.out 2; have hfz62_3 := blk_frozen BK690.out 3; have hfz62_4 := blk_frozen BK690.out 4; have hnb63 := NB680_681.out; have hnc63 := NB681_680.out; have hnb64 := NB680_687.out; have hnc64 := NB687_680.out; have hcz65_0 : w61.cell? ⟨gb680, 0, none⟩ = some (.int .i64 a0_0) := bc_ BK680 0; have hcz65_1 : w61.cell? ⟨gb680, 1, none⟩ = some (.int .i64 a0_1) := bc_ BK680 1; have hcz65_2 : w61.cell? ⟨gb680, 2, none⟩ = some (.slice (some ad689) l0_2.length c0_2) := bc_ BK680 2; have hfz65_0 := blk_frozen BK680.out 0; have hfz65_1 := blk_frozen BK680.out 1; have hfz65_2 := blk_frozen BK680.out 2; have q66 : ((ji48) : Int) ≤ ((l0_2.length : Int) : Int) := of_decide_eq_true dt_; obtain ⟨i066, hi066, _, hsz66, _⟩ := info_parts info55; have hroom66 : l0_2.length ≤ c0_2 := HC0_2.out; have hC66 : Kd.C k_Item _ (some ad689) l0_2.length l0_2 := HR0_2.out; have q066 : (0 : Int) ≤ ((ji48) : Int) := of_decide_eq_true dt_; have hcut66 := cut_from (P := Try.prog) 46 55 .i64 Try.underlying46 hi066 5 hsz66 (some ad689) l0_2.length c0_2 (ji48) q066 q66; have hr66 := Kd.C_drop (m := ((ji48) : Int).toNat) (c := c0_2) hC66 (by omega) hroom66; obtain ⟨A66, hA66⟩ : ∃ A1, A1 = (if c0_2 = ((ji48) : Int).toNat then (some ad689) else ((some ad689) : Option Addr).map (·.add (((ji48) : Int).toNat * 5))) := ⟨_, rfl⟩; obtain ⟨c66, hc66⟩ : ∃ c1, c1 = c0_2 - ((ji48) : Int).toNat := ⟨_, rfl⟩; have hy66 : y694.length = l0_2.length - ((ji48) : Int).toNat := (by rw [Ny694.out, List.length_drop] <;> omega); rw [show (l0_2).drop ((ji48) : Int).toNat = y694 from Ny694.out.symm] at hr66; replace hr66 : Kd.C k_Item _ A66 y694.length y694 := (by rw [hA66]; exact hr66); rw [← hy66, ← hA66, ← hc66] at hcut66; have HR697 := Aside0.mk hr66; have HC697 := Aside0.mk (show y694.length ≤ c66 from by rw [hy66, hc66]; exact Nat.sub_le_sub_right hroom66 _); clear hr66 hC66 hroom66 hi066 hsz66 hc66; have KY66 := Aside0.mk hy66; have KA66 := Aside0.mk hA66; clear hy66 hA66; replace q66 := eq_true q66) | (go_at_call 73; (with_reducible refine (slices_ContainsFunc_RowPack.calls _ _ y694 ((rd_Item l0_2 x23_2).f1) true _ ?side1 ?side2 A51.out (show _ = some (Obj.cells #[.int .i64 ((rd_Item l0_2 x23_2).f0), .string ((rd_Item l0_2 x23_2).f1), .string ((rd_Item l0_2 x23_2).f2), .int .i64 ((rd_Item l0_2 x23_2).f3), .int .i64 ((rd_Item l0_2 x23_2).f4)] 55 (0, 0)) from (bq_ BK690.out))).mono ?_); (case side1 => repeat (first | exact (Kd.C_below HR697.out HB.out) | (with_reducible refine Kd.C_alloc ?_ _) | (with_reducible refine Kd.C_drewN ?_ _) | (with_reducible refine Kd.C_drew ?_))); (case side2 => exact HC697.out); rintro e w67 ⟨rfl, hb⟩; have n0_ := Aside0.mk (Kd.R_below (rq_ HO_688002.out) hb); have n1_ := Aside0.mk (bb_ BK680.out hb); have n2_ := Aside0.mk (bb_ BK681.out hb); have n3_ := Aside0.mk (bb_ BK687.out hb); have n4_ := Aside0.mk (bb_ BK690.out hb); have n5_ := Aside0.mk (below_step (hb_ HB.out) hb); clear HO_688002; clear BK680; clear BK681; clear BK687; clear BK690; clear HB; have HO_688002 := n0_; have BK680 := n1_; have BK681 := n2_; have BK687 := n3_; have BK690 := n4_; have HB := n5_; clear n0_ n1_ n2_ n3_ n4_ n5_; (try clear hb); (try clear hb2); (try clear hk); (try clear hi); have hcz68_0 : w67.cell? ⟨gb690, 0, none⟩ = some (.int .i64 ((rd_Item l0_2 x23_2).f0)) := bc_ BK690 0; have hcz68_1 : w67.cell? ⟨gb690, 1, none⟩ = some (.string ((rd_Item l0_2 x23_2).f1)) := bc_ BK690 1; have hcz68_2 : w67.cell? ⟨gb690, 2, none⟩ = some (.string ((rd_Item l0_2 x23_2).f2)) := bc_ BK690 2; have hcz68_3 : w67.cell? ⟨gb690, 3, none⟩ = some (.int .i64 ((rd_Item l0_2 x23_2).f3)) := bc_ BK690 3; have hcz68_4 : w67.cell? ⟨gb690, 4, none⟩ = some (.int .i64 ((rd_Item l0_2 x23_2).f4)) := bc_ BK690 4; have hfz68_0 := blk_frozen BK690.out 0; have hfz68_1 := blk_frozen BK690.out 1; have hfz68_2 := blk_frozen BK690.out 2; have hfz68_3 := blk_frozen BK690.out 3; have hfz68_4 := blk_frozen BK690.out 4; have hcz69_0 : w67.cell? ⟨gb680, 0, none⟩ = some (.int .i64 a0_0) := bc_ BK680 0; have hcz69_1 : w67.cell? ⟨gb680, 1, none⟩ = some (.int .i64 a0_1) := bc_ BK680 1; have hcz69_2 : w67.cell? ⟨gb680, 2, none⟩ = some (.slice (some ad689) l0_2.length c0_2) := bc_ BK680 2; have hfz69_0 := blk_frozen BK680.out 0; have hfz69_1 := blk_frozen BK680.out 1; have hfz69_2 := blk_frozen BK680.out 2; have hnb70 := NB687_681.out; have hnc70 := NB681_687.out; have hcz71_0 : w67.cell? ⟨gb687, 0, none⟩ = some (.int .i64 t682) := bc_ BK687 0; have hcz71_1 : w67.cell? ⟨gb687, 1, none⟩ = some (.int .i64 t683) := bc_ BK687 1; have hcz71_2 : w67.cell? ⟨gb687, 2, none⟩ = some (u688002) := bc_ BK687 2; have hfz71_0 := blk_frozen BK687.out 0; have hfz71_1 := blk_frozen BK687.out 1; have hfz71_2 := blk_frozen BK687.out 2) | ((with_reducible refine gate_builtin (b := .append) (xs := #[.tmp 55, .tmp 57]) rfl ?_); at_builtin; refine Kd.R_append k_Item (w0 := w) w.heap.size rfl (.tmp 55) (.tmp 57) 46 55 (.agg #[(.int .i64 0), (.string ⟨#[]⟩), (.string ⟨#[]⟩), (.int .i64 0), (.int .i64 0)]) 56 rfl Try.underlying46 info55 rfl (by decide) (by omega) u688002 x688002_2 (⟨(rd_Item l0_2 x23_2).f0, (rd_Item l0_2 x23_2).f1, (rd_Item l0_2 x23_2).f2, (rd_Item l0_2 x23_2).f3, (rd_Item l0_2 x23_2).f4⟩ : S_Item) [.int .i64 ((rd_Item l0_2 x23_2).f0), .string ((rd_Item l0_2 x23_2).f1), .string ((rd_Item l0_2 x23_2).f2), .int .i64 ((rd_Item l0_2 x23_2).f3), .int .i64 ((rd_Item l0_2 x23_2).f4)] (fun k_ => k_ ≠ gb690) (fun _ => False) rfl rfl ?aP (fun _ hk => hk.elim) ?aF ?aO ?aB ?aS ?aL ?_; (case aP => exact k_Item_mkM _ _ _ (⟨(rd_Item l0_2 x23_2).f0, (rd_Item l0_2 x23_2).f1, (rd_Item l0_2 x23_2).f2, (rd_Item l0_2 x23_2).f3, (rd_Item l0_2 x23_2).f4⟩ : S_Item)); (case aB => exact (hb_ HB.out)); (case aF => exact (fun k_ hk => Kd.freshB (g := gb690) (o := .cells #[.int .i64 ((rd_Item l0_2 x23_2).f0), .string ((rd_Item l0_2 x23_2).f1), .string ((rd_Item l0_2 x23_2).f2), .int .i64 ((rd_Item l0_2 x23_2).f3), .int .i64 ((rd_Item l0_2 x23_2).f4)] 55 (0, 0)) (bq_ BK690.out) k_ hk)); (case aO => exact (rq_ HO_688002.out)); (case aS => exact (below_size (hb_ HB.out))); (case aL => have := LMc55.out; omega); intro v700 w72 ho hb hg hat; rw [← Ny699.out] at ho; have n0_ := Aside0.mk (blk_grown (g := gb680) (o := .cells #[.int .i64 a0_0, .int .i64 a0_1, .slice (some ad689) l0_2.length c0_2] 48 (0, 0)) (bq_ BK680.out) hg (Kd.R_ne HO_688002.out BK680.out (by decide))); have n1_ := Aside0.mk (blk_grown (g := gb681) (o := .cells #[.int .i64 0, .int .i64 0, .slice none 0 0] 48 (0, 0)) (bq_ BK681.out) hg (Kd.R_ne HO_688002.out BK681.out (by decide))); have n2_ := Aside0.mk (blk_grown (g := gb687) (o := .cells #[.int .i64 t682, .int .i64 t683, u688002] 48 (0, 0)) (bq_ BK687.out) hg (Kd.R_ne HO_688002.out BK687.out (by decide))); have n3_ := Aside0.mk (blk_grown (g := gb690) (o := .cells #[.int .i64 ((rd_Item l0_2 x23_2).f0), .string ((rd_Item l0_2 x23_2).f1), .string ((rd_Item l0_2 x23_2).f2), .int .i64 ((rd_Item l0_2 x23_2).f3), .int .i64 ((rd_Item l0_2 x23_2).f4)] 55 (0, 0)) (bq_ BK690.out) hg (Kd.R_away HO_688002.out (fun _ hk => hk))); have n4_ := Aside0.mk (hb); have n5_ := Aside0.mk (ho); clear BK680; clear BK681; clear BK687; clear BK690; clear HB; clear HO_688002; have BK680 := n0_; have BK681 := n1_; have BK687 := n2_; have BK690 := n3_; have HB := n4_; have HO701 := n5_; clear n0_ n1_ n2_ n3_ n4_ n5_; clear ho hb hg hat; obtain ⟨Ao73, co73, eo73⟩ := Kd.R_slice HO701.out; subst eo73; have hcz74_0 : w72.cell? ⟨gb687, 0, none⟩ = some (.int .i64 t682) := bc_ BK687 0; have hcz74_1 : w72.cell? ⟨gb687, 1, none⟩ = some (.int .i64 t683) := bc_ BK687 1; have hcz74_2 : w72.cell? ⟨gb687, 2, none⟩ = some (u688002) := bc_ BK687 2; have hfz74_0 := blk_frozen BK687.out 0; have hfz74_1 := blk_frozen BK687.out 1; have hfz74_2 := blk_frozen BK687.out 2))
                go_roundg k2
                case measure => have := HJ3.out; have := HK2.out; omega
                case rel => exact ⟨(ji48), (y699), (.slice Ao73 y699.length co73), (qg1_), H', ⟨qg3_⟩, ⟨by (with_reducible repeat (first | apply Kd.R_alloc | apply Kd.R_drewN | apply Kd.R_drew)); exact Kd.R_mono (Kd.R_far (p := ⟨gb687, 2, none⟩) (Kd.R_types HO701.out BK687.out (by decide)) (fun _ hk => hk.2) (.slice Ao73 y699.length co73)) (fun _ hk => trivial)⟩, ⟨bf_ NB680_687.out BK680.out⟩, ⟨bf_ NB681_687.out BK681.out⟩, ⟨bp_ BK687.out⟩, ⟨hb_ HB.out⟩⟩
               ·
                rw [if_neg c55] at H
                exact absurd H (by simp)
              ·
               rw [if_neg c54] at H
               have c54b0 : ((wrap64 (Int.tdiv ((rd_Item l0_2 x23_2).f0) a1)) == (wrap64 (Int.tdiv (wrap64 (a0_1 - 1)) a1))) = false := beq_eq_false_iff_ne.mpr c54
               have c54b1 : ((wrap64 (Int.tdiv ((rd_Item l0_2 x23_2).f0) a1)) != (wrap64 (Int.tdiv (wrap64 (a0_1 - 1)) a1))) = true := bne_iff_ne.mpr c54
               have H' := Aside0.mk H
               clear H
               have p689 : 0 ≤ (x23_2 : Int) := of_decide_eq_true dt_
               have q689 : x23_2 < (l0_2.length : Int) := of_decide_eq_true dt_
               obtain ⟨ad689, e689, hx689_0, hx689_1, hx689_2, hx689_3, hx689_4⟩ := at_Item HR0_2.out x23_2 p689 q689
               cases e689
               replace hx689_0 := hc_ HB hx689_0
               replace hx689_1 := hc_ HB hx689_1
               replace hx689_2 := hc_ HB hx689_2
               replace hx689_3 := hc_ HB hx689_3
               replace hx689_4 := hc_ HB hx689_4
               replace p689 := eq_true p689
               replace q689 := eq_true q689
               go_wp2_with (first | (go_quiet (exact qgh3_)) | ((with_reducible refine gate_dst (N := 7) rfl ?_); refine box_event ?hg (N := 7) ?hd (cs := #[.int .i64 0, .string (⟨#[]⟩ : ByteArray), .string (⟨#[]⟩ : ByteArray), .int .i64 0, .int .i64 0]) (t := 55) ?hr ?_; (case hd => rfl); (case hg => rfl); (case hr => first | (go_simp; done) | (go_simp; rfl)); intro gb690 hg w75 hbox hb; have n0_ := Aside0.mk (Kd.R_below (Kd.R_elderB (rq_ HO_688002.out) gb690 (Nat.le_of_eq hg.symm)) hb); have n1_ := Aside0.mk (bb_ BK680.out hb); have n2_ := Aside0.mk (bb_ BK681.out hb); have n3_ := Aside0.mk (bb_ BK687.out hb); have n4_ := Aside0.mk (below_step (hb_ HB.out) hb); have n5_ := Aside0.mk (hbox); have n6_ := Aside0.mk ((by rw [hg]; exact (below_size (hb_ HB.out)) : w.heap.size ≤ gb690)); have n7_ := Aside0.mk ((by rw [hg]; exact (below_size (hb_ HB.out)) : w.heap.size ≤ gb690)); have n8_ := Aside0.mk ((nl_ BK680.out hg : gb680 ≠ gb690)); have n9_ := Aside0.mk ((ng_ BK680.out hg : gb690 ≠ gb680)); have n10_ := Aside0.mk ((nl_ BK681.out hg : gb681 ≠ gb690)); have n11_ := Aside0.mk ((ng_ BK681.out hg : gb690 ≠ gb681)); have n12_ := Aside0.mk ((nl_ BK687.out hg : gb687 ≠ gb690)); have n13_ := Aside0.mk ((ng_ BK687.out hg : gb690 ≠ gb687)); clear HO_688002; clear BK680; clear BK681; clear BK687; clear HB; have HO_688002 := n0_; have BK680 := n1_; have BK681 := n2_; have BK687 := n3_; have HB := n4_; have BK690 := n5_; have GW690 := n6_; have GE690 := n7_; have NB680_690 := n8_; have NB690_680 := n9_; have NB681_690 := n10_; have NB690_681 := n11_; have NB687_690 := n12_; have NB690_687 := n13_; clear n0_ n1_ n2_ n3_ n4_ n5_ n6_ n7_ n8_ n9_ n10_ n11_ n12_ n13_; clear hb hbox hg; have hnb76 := NB690_680.out; have hnc76 := NB680_690.out; have hnb77 := NB690_681.out; have hnc77 := NB681_690.out; have hnb78 := NB690_687.out; have hnc78 := NB687_690.out; have hcz79_0 : w75.cell? ⟨gb690, 0, none⟩ = some (.int .i64 0) := bc_ BK690 0; have hcz79_1 : w75.cell? ⟨gb690, 1, none⟩ = some (.string (⟨#[]⟩ : ByteArray)) := bc_ BK690 1; have hcz79_2 : w75.cell? ⟨gb690, 2, none⟩ = some (.string (⟨#[]⟩ : ByteArray)) := bc_ BK690 2; have hcz79_3 : w75.cell? ⟨gb690, 3, none⟩ = some (.int .i64 0) := bc_ BK690 3; have hcz79_4 : w75.cell? ⟨gb690, 4, none⟩ = some (.int .i64 0) := bc_ BK690 4; have hfz79_0 := blk_frozen BK690.out 0; have hfz79_1 := blk_frozen BK690.out 1; have hfz79_2 := blk_frozen BK690.out 2; have hfz79_3 := blk_frozen BK690.out 3; have hfz79_4 := blk_frozen BK690.out 4) | ((with_reducible refine gate_store (t := 55) (p := 7) rfl ?_); (try (rw [drewN_self w75]; generalize hq_ : World.drewN w75 _ = w75; have n0_ := Aside0.mk (Kd.R_at hq_ HO_688002.out); have n1_ := Aside0.mk (blk_at hq_ BK680.out); have n2_ := Aside0.mk (blk_at hq_ BK681.out); have n3_ := Aside0.mk (blk_at hq_ BK687.out); have n4_ := Aside0.mk (blk_at hq_ BK690.out); have n5_ := Aside0.mk (below_at hq_ HB.out); clear hq_ HO_688002 BK680 BK681 BK687 BK690 HB; have HO_688002 := n0_; have BK680 := n1_; have BK681 := n2_; have BK687 := n3_; have BK690 := n4_; have HB := n5_; clear n0_ n1_ n2_ n3_ n4_ n5_)); refine store_event (t := 55) (p := 7) (v := ?vo_w80) (w1 := (((((w75.setCell ⟨gb690, 0, none⟩ (.int .i64 ((rd_Item l0_2 x23_2).f0))).setCell ⟨gb690, 1, none⟩ (.string ((rd_Item l0_2 x23_2).f1))).setCell ⟨gb690, 2, none⟩ (.string ((rd_Item l0_2 x23_2).f2))).setCell ⟨gb690, 3, none⟩ (.int .i64 ((rd_Item l0_2 x23_2).f3))).setCell ⟨gb690, 4, none⟩ (.int .i64 ((rd_Item l0_2 x23_2).f4)))) ?hg ?ho ?hn ?hr ?_; (case ho => rfl); (case hg => rfl); (case hn => rfl); (case hr => first | (go_simp; done) | (go_simp; rfl)); intro w80 hw; have n0_ : Aside0 (Kd.R k_Item 55 w80 w.heap.size (fun k_ => k_ ≠ gb690) u688002 x688002_2) := ⟨(by rw [hw]; exact (qg0_))⟩; have n1_ : Aside0 (w80.heap[gb680]? = some (.cells #[.int .i64 a0_0, .int .i64 a0_1, .slice (some ad689) l0_2.length c0_2] 48 (0, 0))) := ⟨(by rw [hw]; exact (bf_ NB680_690.out BK680.out))⟩; have n2_ : Aside0 (w80.heap[gb681]? = some (.cells #[.int .i64 0, .int .i64 0, .slice none 0 0] 48 (0, 0))) := ⟨(by rw [hw]; exact (bf_ NB681_690.out BK681.out))⟩; have n3_ : Aside0 (w80.heap[gb687]? = some (.cells #[.int .i64 t682, .int .i64 t683, u688002] 48 (0, 0))) := ⟨(by rw [hw]; exact (bf_ NB687_690.out BK687.out))⟩; have n4_ : Aside0 (w80.heap[gb690]? = some (.cells #[.int .i64 ((rd_Item l0_2 x23_2).f0), .string ((rd_Item l0_2 x23_2).f1), .string ((rd_Item l0_2 x23_2).f2), .int .i64 ((rd_Item l0_2 x23_2).f3), .int .i64 ((rd_Item l0_2 x23_2).f4)] 55 (0, 0))) := ⟨(by rw [hw]; exact (bp_ BK690.out))⟩; have n5_ : Aside0 (Below w.heap.size w w80) := ⟨(by rw [hw]; exact (hb_ HB.out))⟩; clear hw; clear HO_688002; clear BK680; clear BK681; clear BK687; clear BK690; clear HB; have HO_688002 := n0_; have BK680 := n1_; have BK681 := n2_; have BK687 := n3_; have BK690 := n4_; have HB := n5_; clear n0_ n1_ n2_ n3_ n4_ n5_; have hcz81_0 : w80.cell? ⟨gb690, 0, none⟩ = some (.int .i64 ((rd_Item l0_2 x23_2).f0)) := bc_ BK690 0; have hcz81_1 : w80.cell? ⟨gb690, 1, none⟩ = some (.string ((rd_Item l0_2 x23_2).f1)) := bc_ BK690 1; have hcz81_2 : w80.cell? ⟨gb690, 2, none⟩ = some (.string ((rd_Item l0_2 x23_2).f2)) := bc_ BK690 2; have hcz81_3 : w80.cell? ⟨gb690, 3, none⟩ = some (.int .i64 ((rd_Item l0_2 x23_2).f3)) := bc_ BK690 3; have hcz81_4 : w80.cell? ⟨gb690, 4, none⟩ = some (.int .i64 ((rd_Item l0_2 x23_2).f4)) := bc_ BK690 4; have hfz81_0 := blk_frozen BK690.out 0; have hfz81_1 := blk_frozen BK690.out 1; have hfz81_2 := blk_frozen BK690.out 2; have hfz81_3 := blk_frozen BK690.out 3; have hfz81_4 := blk_frozen BK690.out 4; have hnb82 := NB680_681.out; have hnc82 := NB681_680.out; have hnb83 := NB680_687.out; have hnc83 := NB687_680.out; have hcz84_0 : w80.cell? ⟨gb680, 0, none⟩ = some (.int .i64 a0_0) := bc_ BK680 0; have hcz84_1 : w80.cell? ⟨gb680, 1, none⟩ = some (.int .i64 a0_1) := bc_ BK680 1; have hcz84_2 : w80.cell? ⟨gb680, 2, none⟩ = some (.slice (some ad689) l0_2.length c0_2) := bc_ BK680 2; have hfz84_0 := blk_frozen BK680.out 0; have hfz84_1 := blk_frozen BK680.out 1; have hfz84_2 := blk_frozen BK680.out 2; have q85 : ((ji48) : Int) ≤ ((l0_2.length : Int) : Int) := of_decide_eq_true dt_; obtain ⟨i085, hi085, _, hsz85, _⟩ := info_parts info55; have hroom85 : l0_2.length ≤ c0_2 := HC0_2.out; have hC85 : Kd.C k_Item _ (some ad689) l0_2.length l0_2 := HR0_2.out; have q085 : (0 : Int) ≤ ((ji48) : Int) := of_decide_eq_true dt_; have hcut85 := cut_from (P := Try.prog) 46 55 .i64 Try.underlying46 hi085 5 hsz85 (some ad689) l0_2.length c0_2 (ji48) q085 q85; have hr85 := Kd.C_drop (m := ((ji48) : Int).toNat) (c := c0_2) hC85 (by omega) hroom85; obtain ⟨A85, hA85⟩ : ∃ A1, A1 = (if c0_2 = ((ji48) : Int).toNat then (some ad689) else ((some ad689) : Option Addr).map (·.add (((ji48) : Int).toNat * 5))) := ⟨_, rfl⟩; obtain ⟨c85, hc85⟩ : ∃ c1, c1 = c0_2 - ((ji48) : Int).toNat := ⟨_, rfl⟩; have hy85 : y694.length = l0_2.length - ((ji48) : Int).toNat := (by rw [Ny694.out, List.length_drop] <;> omega); rw [show (l0_2).drop ((ji48) : Int).toNat = y694 from Ny694.out.symm] at hr85; replace hr85 : Kd.C k_Item _ A85 y694.length y694 := (by rw [hA85]; exact hr85); rw [← hy85, ← hA85, ← hc85] at hcut85; have HR697 := Aside0.mk hr85; have HC697 := Aside0.mk (show y694.length ≤ c85 from by rw [hy85, hc85]; exact Nat.sub_le_sub_right hroom85 _); clear hr85 hC85 hroom85 hi085 hsz85 hc85; have KY85 := Aside0.mk hy85; have KA85 := Aside0.mk hA85; clear hy85 hA85; replace q85 := eq_true q85) | (go_at_call 73; (with_reducible refine (slices_ContainsFunc_RowPack.calls _ _ y694 ((rd_Item l0_2 x23_2).f1) true _ ?side1 ?side2 A51.out (show _ = some (Obj.cells #[.int .i64 ((rd_Item l0_2 x23_2).f0), .string ((rd_Item l0_2 x23_2).f1), .string ((rd_Item l0_2 x23_2).f2), .int .i64 ((rd_Item l0_2 x23_2).f3), .int .i64 ((rd_Item l0_2 x23_2).f4)] 55 (0, 0)) from (bq_ BK690.out))).mono ?_); (case side1 => repeat (first | exact (Kd.C_below HR697.out HB.out) | (with_reducible refine Kd.C_alloc ?_ _) | (with_reducible refine Kd.C_drewN ?_ _) | (with_reducible refine Kd.C_drew ?_))); (case side2 => exact HC697.out); rintro e w86 ⟨rfl, hb⟩; have n0_ := Aside0.mk (Kd.R_below (rq_ HO_688002.out) hb); have n1_ := Aside0.mk (bb_ BK680.out hb); have n2_ := Aside0.mk (bb_ BK681.out hb); have n3_ := Aside0.mk (bb_ BK687.out hb); have n4_ := Aside0.mk (bb_ BK690.out hb); have n5_ := Aside0.mk (below_step (hb_ HB.out) hb); clear HO_688002; clear BK680; clear BK681; clear BK687; clear BK690; clear HB; have HO_688002 := n0_; have BK680 := n1_; have BK681 := n2_; have BK687 := n3_; have BK690 := n4_; have HB := n5_; clear n0_ n1_ n2_ n3_ n4_ n5_; (try clear hb); (try clear hb2); (try clear hk); (try clear hi); have hcz87_0 : w86.cell? ⟨gb690, 0, none⟩ = some (.int .i64 ((rd_Item l0_2 x23_2).f0)) := bc_ BK690 0; have hcz87_1 : w86.cell? ⟨gb690, 1, none⟩ = some (.string ((rd_Item l0_2 x23_2).f1)) := bc_ BK690 1; have hcz87_2 : w86.cell? ⟨gb690, 2, none⟩ = some (.string ((rd_Item l0_2 x23_2).f2)) := bc_ BK690 2; have hcz87_3 : w86.cell? ⟨gb690, 3, none⟩ = some (.int .i64 ((rd_Item l0_2 x23_2).f3)) := bc_ BK690 3; have hcz87_4 : w86.cell? ⟨gb690, 4, none⟩ = some (.int .i64 ((rd_Item l0_2 x23_2).f4)) := bc_ BK690 4; have hfz87_0 := blk_frozen BK690.out 0; have hfz87_1 := blk_frozen BK690.out 1; have hfz87_2 := blk_frozen BK690.out 2; have hfz87_3 := blk_frozen BK690.out 3; have hfz87_4 := blk_frozen BK690.out 4; have hcz88_0 : w86.cell? ⟨gb680, 0, none⟩ = some (.int .i64 a0_0) := bc_ BK680 0; have hcz88_1 : w86.cell? ⟨gb680, 1, none⟩ = some (.int .i64 a0_1) := bc_ BK680 1; have hcz88_2 : w86.cell? ⟨gb680, 2, none⟩ = some (.slice (some ad689) l0_2.length c0_2) := bc_ BK680 2; have hfz88_0 := blk_frozen BK680.out 0; have hfz88_1 := blk_frozen BK680.out 1; have hfz88_2 := blk_frozen BK680.out 2))
               go_roundg k2
               case measure => have := HJ3.out; have := HK2.out; omega
               case rel => exact ⟨(ji48), (x688002_2), (u688002), (qg1_), H', ⟨qg3_⟩, ⟨by (with_reducible repeat (first | apply Kd.R_alloc | apply Kd.R_drewN | apply Kd.R_drew)); exact Kd.R_mono HO_688002.out (fun _ hk => trivial)⟩, ⟨bq_ BK680.out⟩, ⟨bq_ BK681.out⟩, ⟨bq_ BK687.out⟩, ⟨hb_ HB.out⟩⟩
            ·
             replace c52 := Bool.eq_false_iff.mpr c52
             subst c52
             have H1 : (if x688002_2.length < 2513169434916 then (impl_RowPack.l0 k2 a1 l0_2 (l0_2.length : Int) ji48 a0_0 a0_1 l0_2 t682 t683 (x688002_2 ++ [(⟨(rd_Item l0_2 x23_2).f0, (rd_Item l0_2 x23_2).f1, (rd_Item l0_2 x23_2).f2, (rd_Item l0_2 x23_2).f3, (rd_Item l0_2 x23_2).f4⟩ : S_Item)])) else (none)) = some (r1, r2, r3) := by rw [if_neg (show ¬ (false = true) by decide)] at H; exact H
             clear H
             have H := H1
             clear H1
             by_cases c89 : x688002_2.length < 2513169434916
             ·
              rw [if_pos c89] at H
              have LMc89 := Aside0.mk c89
              clear c89
              obtain ⟨y702, hy702⟩ : ∃ y_ : List (S_Item), y_ = (x688002_2 ++ [(⟨(rd_Item l0_2 x23_2).f0, (rd_Item l0_2 x23_2).f1, (rd_Item l0_2 x23_2).f2, (rd_Item l0_2 x23_2).f3, (rd_Item l0_2 x23_2).f4⟩ : S_Item)]) := ⟨_, rfl⟩
              replace H : (impl_RowPack.l0 k2 a1 l0_2 (l0_2.length : Int) ji48 a0_0 a0_1 l0_2 t682 t683 y702) = some (r1, r2, r3) := by first | (rw [hy702]; with_reducible exact H) | (have H2_ := (Option.bind_some _ _).symm.trans H; rw [hy702]; with_reducible exact H2_) | (have H2_ := (Option.bind_some _ _).symm.trans H; with_reducible exact H2_) | with_reducible exact H | (rw [hy702]; exact H) | exact H
              have Ny702 := Aside0.mk hy702
              clear hy702
              have H' := Aside0.mk H
              clear H
              have p689 : 0 ≤ (x23_2 : Int) := of_decide_eq_true dt_
              have q689 : x23_2 < (l0_2.length : Int) := of_decide_eq_true dt_
              obtain ⟨ad689, e689, hx689_0, hx689_1, hx689_2, hx689_3, hx689_4⟩ := at_Item HR0_2.out x23_2 p689 q689
              cases e689
              replace hx689_0 := hc_ HB hx689_0
              replace hx689_1 := hc_ HB hx689_1
              replace hx689_2 := hc_ HB hx689_2
              replace hx689_3 := hc_ HB hx689_3
              replace hx689_4 := hc_ HB hx689_4
              replace p689 := eq_true p689
              replace q689 := eq_true q689
              go_wp2_with (first | (go_quiet (exact qgh4_)) | ((with_reducible refine gate_dst (N := 7) rfl ?_); refine box_event ?hg (N := 7) ?hd (cs := #[.int .i64 0, .string (⟨#[]⟩ : ByteArray), .string (⟨#[]⟩ : ByteArray), .int .i64 0, .int .i64 0]) (t := 55) ?hr ?_; (case hd => rfl); (case hg => rfl); (case hr => first | (go_simp; done) | (go_simp; rfl)); intro gb690 hg w90 hbox hb; have n0_ := Aside0.mk (Kd.R_below (Kd.R_elderB (rq_ HO_688002.out) gb690 (Nat.le_of_eq hg.symm)) hb); have n1_ := Aside0.mk (bb_ BK680.out hb); have n2_ := Aside0.mk (bb_ BK681.out hb); have n3_ := Aside0.mk (bb_ BK687.out hb); have n4_ := Aside0.mk (below_step (hb_ HB.out) hb); have n5_ := Aside0.mk (hbox); have n6_ := Aside0.mk ((by rw [hg]; exact (below_size (hb_ HB.out)) : w.heap.size ≤ gb690)); have n7_ := Aside0.mk ((by rw [hg]; exact (below_size (hb_ HB.out)) : w.heap.size ≤ gb690)); have n8_ := Aside0.mk ((nl_ BK680.out hg : gb680 ≠ gb690)); have n9_ := Aside0.mk ((ng_ BK680.out hg : gb690 ≠ gb680)); have n10_ := Aside0.mk ((nl_ BK681.out hg : gb681 ≠ gb690)); have n11_ := Aside0.mk ((ng_ BK681.out hg : gb690 ≠ gb681)); have n12_ := Aside0.mk ((nl_ BK687.out hg : gb687 ≠ gb690)); have n13_ := Aside0.mk ((ng_ BK687.out hg : gb690 ≠ gb687)); clear HO_688002; clear BK680; clear BK681; clear BK687; clear HB; have HO_688002 := n0_; have BK680 := n1_; have BK681 := n2_; have BK687 := n3_; have HB := n4_; have BK690 := n5_; have GW690 := n6_; have GE690 := n7_; have NB680_690 := n8_; have NB690_680 := n9_; have NB681_690 := n10_; have NB690_681 := n11_; have NB687_690 := n12_; have NB690_687 := n13_; clear n0_ n1_ n2_ n3_ n4_ n5_ n6_ n7_ n8_ n9_ n10_ n11_ n12_ n13_; clear hb hbox hg; have hnb91 := NB690_680.out; have hnc91 := NB680_690.out; have hnb92 := NB690_681.out; have hnc92 := NB681_690.out; have hnb93 := NB690_687.out; have hnc93 := NB687_690.out; have hcz94_0 : w90.cell? ⟨gb690, 0, none⟩ = some (.int .i64 0) := bc_ BK690 0; have hcz94_1 : w90.cell? ⟨gb690, 1, none⟩ = some (.string (⟨#[]⟩ : ByteArray)) := bc_ BK690 1; have hcz94_2 : w90.cell? ⟨gb690, 2, none⟩ = some (.string (⟨#[]⟩ : ByteArray)) := bc_ BK690 2; have hcz94_3 : w90.cell? ⟨gb690, 3, none⟩ = some (.int .i64 0) := bc_ BK690 3; have hcz94_4 : w90.cell? ⟨gb690, 4, none⟩ = some (.int .i64 0) := bc_ BK690 4; have hfz94_0 := blk_frozen BK690.out 0; have hfz94_1 := blk_frozen BK690.out 1; have hfz94_2 := blk_frozen BK690.out 2; have hfz94_3 := blk_frozen BK690.out 3; have hfz94_4 := blk_frozen BK690.out 4) | ((with_reducible refine gate_store (t := 55) (p := 7) rfl ?_); (try (rw [drewN_self w90]; generalize hq_ : World.drewN w90 _ = w90; have n0_ := Aside0.mk (Kd.R_at hq_ HO_688002.out); have n1_ := Aside0.mk (blk_at hq_ BK680.out); have n2_ := Aside0.mk (blk_at hq_ BK681.out); have n3_ := Aside0.mk (blk_at hq_ BK687.out); have n4_ := Aside0.mk (blk_at hq_ BK690.out); have n5_ := Aside0.mk (below_at hq_ HB.out); clear hq_ HO_688002 BK680 BK681 BK687 BK690 HB; have HO_688002 := n0_; have BK680 := n1_; have BK681 := n2_; have BK687 := n3_; have BK690 := n4_; have HB := n5_; clear n0_ n1_ n2_ n3_ n4_ n5_)); refine store_event (t := 55) (p := 7) (v := ?vo_w95) (w1 := (((((w90.setCell ⟨gb690, 0, none⟩ (.int .i64 ((rd_Item l0_2 x23_2).f0))).setCell ⟨gb690, 1, none⟩ (.string ((rd_Item l0_2 x23_2).f1))).setCell ⟨gb690, 2, none⟩ (.string ((rd_Item l0_2 x23_2).f2))).setCell ⟨gb690, 3, none⟩ (.int .i64 ((rd_Item l0_2 x23_2).f3))).setCell ⟨gb690, 4, none⟩ (.int .i64 ((rd_Item l0_2 x23_2).f4)))) ?hg ?ho ?hn ?hr ?_; (case ho => rfl); (case hg => rfl); (case hn => rfl); (case hr => first | (go_simp; done) | (go_simp; rfl)); intro w95 hw; have n0_ : Aside0 (Kd.R k_Item 55 w95 w.heap.size (fun k_ => k_ ≠ gb690) u688002 x688002_2) := ⟨(by rw [hw]; exact (qg0_))⟩; have n1_ : Aside0 (w95.heap[gb680]? = some (.cells #[.int .i64 a0_0, .int .i64 a0_1, .slice (some ad689) l0_2.length c0_2] 48 (0, 0))) := ⟨(by rw [hw]; exact (bf_ NB680_690.out BK680.out))⟩; have n2_ : Aside0 (w95.heap[gb681]? = some (.cells #[.int .i64 0, .int .i64 0, .slice none 0 0] 48 (0, 0))) := ⟨(by rw [hw]; exact (bf_ NB681_690.out BK681.out))⟩; have n3_ : Aside0 (w95.heap[gb687]? = some (.cells #[.int .i64 t682, .int .i64 t683, u688002] 48 (0, 0))) := ⟨(by rw [hw]; exact (bf_ NB687_690.out BK687.out))⟩; have n4_ : Aside0 (w95.heap[gb690]? = some (.cells #[.int .i64 ((rd_Item l0_2 x23_2).f0), .string ((rd_Item l0_2 x23_2).f1), .string ((rd_Item l0_2 x23_2).f2), .int .i64 ((rd_Item l0_2 x23_2).f3), .int .i64 ((rd_Item l0_2 x23_2).f4)] 55 (0, 0))) := ⟨(by rw [hw]; exact (bp_ BK690.out))⟩; have n5_ : Aside0 (Below w.heap.size w w95) := ⟨(by rw [hw]; exact (hb_ HB.out))⟩; clear hw; clear HO_688002; clear BK680; clear BK681; clear BK687; clear BK690; clear HB; have HO_688002 := n0_; have BK680 := n1_; have BK681 := n2_; have BK687 := n3_; have BK690 := n4_; have HB := n5_; clear n0_ n1_ n2_ n3_ n4_ n5_; have hcz96_0 : w95.cell? ⟨gb690, 0, none⟩ = some (.int .i64 ((rd_Item l0_2 x23_2).f0)) := bc_ BK690 0; have hcz96_1 : w95.cell? ⟨gb690, 1, none⟩ = some (.string ((rd_Item l0_2 x23_2).f1)) := bc_ BK690 1; have hcz96_2 : w95.cell? ⟨gb690, 2, none⟩ = some (.string ((rd_Item l0_2 x23_2).f2)) := bc_ BK690 2; have hcz96_3 : w95.cell? ⟨gb690, 3, none⟩ = some (.int .i64 ((rd_Item l0_2 x23_2).f3)) := bc_ BK690 3; have hcz96_4 : w95.cell? ⟨gb690, 4, none⟩ = some (.int .i64 ((rd_Item l0_2 x23_2).f4)) := bc_ BK690 4; have hfz96_0 := blk_frozen BK690.out 0; have hfz96_1 := blk_frozen BK690.out 1; have hfz96_2 := blk_frozen BK690.out 2; have hfz96_3 := blk_frozen BK690.out 3; have hfz96_4 := blk_frozen BK690.out 4; have hnb97 := NB680_681.out; have hnc97 := NB681_680.out; have hnb98 := NB680_687.out; have hnc98 := NB687_680.out; have hcz99_0 : w95.cell? ⟨gb680, 0, none⟩ = some (.int .i64 a0_0) := bc_ BK680 0; have hcz99_1 : w95.cell? ⟨gb680, 1, none⟩ = some (.int .i64 a0_1) := bc_ BK680 1; have hcz99_2 : w95.cell? ⟨gb680, 2, none⟩ = some (.slice (some ad689) l0_2.length c0_2) := bc_ BK680 2; have hfz99_0 := blk_frozen BK680.out 0; have hfz99_1 := blk_frozen BK680.out 1; have hfz99_2 := blk_frozen BK680.out 2; have q100 : ((ji48) : Int) ≤ ((l0_2.length : Int) : Int) := of_decide_eq_true dt_; obtain ⟨i0100, hi0100, _, hsz100, _⟩ := info_parts info55; have hroom100 : l0_2.length ≤ c0_2 := HC0_2.out; have hC100 : Kd.C k_Item _ (some ad689) l0_2.length l0_2 := HR0_2.out; have q0100 : (0 : Int) ≤ ((ji48) : Int) := of_decide_eq_true dt_; have hcut100 := cut_from (P := Try.prog) 46 55 .i64 Try.underlying46 hi0100 5 hsz100 (some ad689) l0_2.length c0_2 (ji48) q0100 q100; have hr100 := Kd.C_drop (m := ((ji48) : Int).toNat) (c := c0_2) hC100 (by omega) hroom100; obtain ⟨A100, hA100⟩ : ∃ A1, A1 = (if c0_2 = ((ji48) : Int).toNat then (some ad689) else ((some ad689) : Option Addr).map (·.add (((ji48) : Int).toNat * 5))) := ⟨_, rfl⟩; obtain ⟨c100, hc100⟩ : ∃ c1, c1 = c0_2 - ((ji48) : Int).toNat := ⟨_, rfl⟩; have hy100 : y694.length = l0_2.length - ((ji48) : Int).toNat := (by rw [Ny694.out, List.length_drop] <;> omega); rw [show (l0_2).drop ((ji48) : Int).toNat = y694 from Ny694.out.symm] at hr100; replace hr100 : Kd.C k_Item _ A100 y694.length y694 := (by rw [hA100]; exact hr100); rw [← hy100, ← hA100, ← hc100] at hcut100; have HR697 := Aside0.mk hr100; have HC697 := Aside0.mk (show y694.length ≤ c100 from by rw [hy100, hc100]; exact Nat.sub_le_sub_right hroom100 _); clear hr100 hC100 hroom100 hi0100 hsz100 hc100; have KY100 := Aside0.mk hy100; have KA100 := Aside0.mk hA100; clear hy100 hA100; replace q100 := eq_true q100) | (go_at_call 73; (with_reducible refine (slices_ContainsFunc_RowPack.calls _ _ y694 ((rd_Item l0_2 x23_2).f1) false _ ?side1 ?side2 A51.out (show _ = some (Obj.cells #[.int .i64 ((rd_Item l0_2 x23_2).f0), .string ((rd_Item l0_2 x23_2).f1), .string ((rd_Item l0_2 x23_2).f2), .int .i64 ((rd_Item l0_2 x23_2).f3), .int .i64 ((rd_Item l0_2 x23_2).f4)] 55 (0, 0)) from (bq_ BK690.out))).mono ?_); (case side1 => repeat (first | exact (Kd.C_below HR697.out HB.out) | (with_reducible refine Kd.C_alloc ?_ _) | (with_reducible refine Kd.C_drewN ?_ _) | (with_reducible refine Kd.C_drew ?_))); (case side2 => exact HC697.out); rintro e w101 ⟨rfl, hb⟩; have n0_ := Aside0.mk (Kd.R_below (rq_ HO_688002.out) hb); have n1_ := Aside0.mk (bb_ BK680.out hb); have n2_ := Aside0.mk (bb_ BK681.out hb); have n3_ := Aside0.mk (bb_ BK687.out hb); have n4_ := Aside0.mk (bb_ BK690.out hb); have n5_ := Aside0.mk (below_step (hb_ HB.out) hb); clear HO_688002; clear BK680; clear BK681; clear BK687; clear BK690; clear HB; have HO_688002 := n0_; have BK680 := n1_; have BK681 := n2_; have BK687 := n3_; have BK690 := n4_; have HB := n5_; clear n0_ n1_ n2_ n3_ n4_ n5_; (try clear hb); (try clear hb2); (try clear hk); (try clear hi); have hnb102 := NB687_681.out; have hnc102 := NB681_687.out; have hcz103_0 : w101.cell? ⟨gb687, 0, none⟩ = some (.int .i64 t682) := bc_ BK687 0; have hcz103_1 : w101.cell? ⟨gb687, 1, none⟩ = some (.int .i64 t683) := bc_ BK687 1; have hcz103_2 : w101.cell? ⟨gb687, 2, none⟩ = some (u688002) := bc_ BK687 2; have hfz103_0 := blk_frozen BK687.out 0; have hfz103_1 := blk_frozen BK687.out 1; have hfz103_2 := blk_frozen BK687.out 2; have hcz104_0 : w101.cell? ⟨gb690, 0, none⟩ = some (.int .i64 ((rd_Item l0_2 x23_2).f0)) := bc_ BK690 0; have hcz104_1 : w101.cell? ⟨gb690, 1, none⟩ = some (.string ((rd_Item l0_2 x23_2).f1)) := bc_ BK690 1; have hcz104_2 : w101.cell? ⟨gb690, 2, none⟩ = some (.string ((rd_Item l0_2 x23_2).f2)) := bc_ BK690 2; have hcz104_3 : w101.cell? ⟨gb690, 3, none⟩ = some (.int .i64 ((rd_Item l0_2 x23_2).f3)) := bc_ BK690 3; have hcz104_4 : w101.cell? ⟨gb690, 4, none⟩ = some (.int .i64 ((rd_Item l0_2 x23_2).f4)) := bc_ BK690 4; have hfz104_0 := blk_frozen BK690.out 0; have hfz104_1 := blk_frozen BK690.out 1; have hfz104_2 := blk_frozen BK690.out 2; have hfz104_3 := blk_frozen BK690.out 3; have hfz104_4 := blk_frozen BK690.out 4) | ((with_reducible refine gate_builtin (b := .append) (xs := #[.tmp 55, .tmp 57]) rfl ?_); at_builtin; refine Kd.R_append k_Item (w0 := w) w.heap.size rfl (.tmp 55) (.tmp 57) 46 55 (.agg #[(.int .i64 0), (.string ⟨#[]⟩), (.string ⟨#[]⟩), (.int .i64 0), (.int .i64 0)]) 56 rfl Try.underlying46 info55 rfl (by decide) (by omega) u688002 x688002_2 (⟨(rd_Item l0_2 x23_2).f0, (rd_Item l0_2 x23_2).f1, (rd_Item l0_2 x23_2).f2, (rd_Item l0_2 x23_2).f3, (rd_Item l0_2 x23_2).f4⟩ : S_Item) [.int .i64 ((rd_Item l0_2 x23_2).f0), .string ((rd_Item l0_2 x23_2).f1), .string ((rd_Item l0_2 x23_2).f2), .int .i64 ((rd_Item l0_2 x23_2).f3), .int .i64 ((rd_Item l0_2 x23_2).f4)] (fun k_ => k_ ≠ gb690) (fun _ => False) rfl rfl ?aP (fun _ hk => hk.elim) ?aF ?aO ?aB ?aS ?aL ?_; (case aP => exact k_Item_mkM _ _ _ (⟨(rd_Item l0_2 x23_2).f0, (rd_Item l0_2 x23_2).f1, (rd_Item l0_2 x23_2).f2, (rd_Item l0_2 x23_2).f3, (rd_Item l0_2 x23_2).f4⟩ : S_Item)); (case aB => exact (hb_ HB.out)); (case aF => exact (fun k_ hk => Kd.freshB (g := gb690) (o := .cells #[.int .i64 ((rd_Item l0_2 x23_2).f0), .string ((rd_Item l0_2 x23_2).f1), .string ((rd_Item l0_2 x23_2).f2), .int .i64 ((rd_Item l0_2 x23_2).f3), .int .i64 ((rd_Item l0_2 x23_2).f4)] 55 (0, 0)) (bq_ BK690.out) k_ hk)); (case aO => exact (rq_ HO_688002.out)); (case aS => exact (below_size (hb_ HB.out))); (case aL => have := LMc89.out; omega); intro v703 w105 ho hb hg hat; rw [← Ny702.out] at ho; have n0_ := Aside0.mk (blk_grown (g := gb680) (o := .cells #[.int .i64 a0_0, .int .i64 a0_1, .slice (some ad689) l0_2.length c0_2] 48 (0, 0)) (bq_ BK680.out) hg (Kd.R_ne HO_688002.out BK680.out (by decide))); have n1_ := Aside0.mk (blk_grown (g := gb681) (o := .cells #[.int .i64 0, .int .i64 0, .slice none 0 0] 48 (0, 0)) (bq_ BK681.out) hg (Kd.R_ne HO_688002.out BK681.out (by decide))); have n2_ := Aside0.mk (blk_grown (g := gb687) (o := .cells #[.int .i64 t682, .int .i64 t683, u688002] 48 (0, 0)) (bq_ BK687.out) hg (Kd.R_ne HO_688002.out BK687.out (by decide))); have n3_ := Aside0.mk (blk_grown (g := gb690) (o := .cells #[.int .i64 ((rd_Item l0_2 x23_2).f0), .string ((rd_Item l0_2 x23_2).f1), .string ((rd_Item l0_2 x23_2).f2), .int .i64 ((rd_Item l0_2 x23_2).f3), .int .i64 ((rd_Item l0_2 x23_2).f4)] 55 (0, 0)) (bq_ BK690.out) hg (Kd.R_away HO_688002.out (fun _ hk => hk))); have n4_ := Aside0.mk (hb); have n5_ := Aside0.mk (ho); clear BK680; clear BK681; clear BK687; clear BK690; clear HB; clear HO_688002; have BK680 := n0_; have BK681 := n1_; have BK687 := n2_; have BK690 := n3_; have HB := n4_; have HO704 := n5_; clear n0_ n1_ n2_ n3_ n4_ n5_; clear ho hb hg hat; obtain ⟨Ao106, co106, eo106⟩ := Kd.R_slice HO704.out; subst eo106; have hcz107_0 : w105.cell? ⟨gb687, 0, none⟩ = some (.int .i64 t682) := bc_ BK687 0; have hcz107_1 : w105.cell? ⟨gb687, 1, none⟩ = some (.int .i64 t683) := bc_ BK687 1; have hcz107_2 : w105.cell? ⟨gb687, 2, none⟩ = some (u688002) := bc_ BK687 2; have hfz107_0 := blk_frozen BK687.out 0; have hfz107_1 := blk_frozen BK687.out 1; have hfz107_2 := blk_frozen BK687.out 2))
              go_roundg k2
              case measure => have := HJ3.out; have := HK2.out; omega
              case rel => exact ⟨(ji48), (y702), (.slice Ao106 y702.length co106), (qg1_), H', ⟨qg3_⟩, ⟨by (with_reducible repeat (first | apply Kd.R_alloc | apply Kd.R_drewN | apply Kd.R_drew)); exact Kd.R_mono (Kd.R_far (p := ⟨gb687, 2, none⟩) (Kd.R_types HO704.out BK687.out (by decide)) (fun _ hk => hk.2) (.slice Ao106 y702.length co106)) (fun _ hk => trivial)⟩, ⟨bf_ NB680_687.out BK680.out⟩, ⟨bf_ NB681_687.out BK681.out⟩, ⟨bp_ BK687.out⟩, ⟨hb_ HB.out⟩⟩
             ·
              rw [if_neg c89] at H
              exact absurd H (by simp)
           ·
            rw [if_neg c50] at H
            exact absurd H (by simp)
          ·
           rw [if_neg c49] at H
           exact absurd H (by simp)
        ·
         rw [if_neg c34] at H
         exact absurd H (by simp)
       ·
        rw [if_neg c33] at H
        exact absurd H (by simp)
      ·
       rw [if_neg c32] at H
       have c32b0 : decide (x23_2 < (l0_2.length : Int)) = false := decide_eq_false c32
       clear c32
       simp only [Option.some.injEq, Prod.mk.injEq] at H
       obtain ⟨rfl, rfl, rfl⟩ := H
       have hnb108 := NB687_680.out
       have hnc108 := NB680_687.out
       have hnb109 := NB687_681.out
       have hnc109 := NB681_687.out
       have hcz110_0 : wr.cell? ⟨gb687, 0, none⟩ = some (.int .i64 t682) := bc_ BK687 0
       have hcz110_1 : wr.cell? ⟨gb687, 1, none⟩ = some (.int .i64 t683) := bc_ BK687 1
       have hcz110_2 : wr.cell? ⟨gb687, 2, none⟩ = some (u688002) := bc_ BK687 2
       have hfz110_0 := blk_frozen BK687.out 0
       have hfz110_1 := blk_frozen BK687.out 1
       have hfz110_2 := blk_frozen BK687.out 2
       have hnb111 := NB681_680.out
       have hnc111 := NB680_681.out
       have hcz112_0 : wr.cell? ⟨gb681, 0, none⟩ = some (.int .i64 0) := bc_ BK681 0
       have hcz112_1 : wr.cell? ⟨gb681, 1, none⟩ = some (.int .i64 0) := bc_ BK681 1
       have hcz112_2 : wr.cell? ⟨gb681, 2, none⟩ = some (.slice none 0 0) := bc_ BK681 2
       have hfz112_0 := blk_frozen BK681.out 0
       have hfz112_1 := blk_frozen BK681.out 1
       have hfz112_2 := blk_frozen BK681.out 2
       obtain ⟨Ao113, co113, eo113⟩ := Kd.R_slice HO_688002.out
       subst eo113
       go_wp2
       repeat (go_quiet (fail); try go_wp2)
       refine bodyPost_ret (results_cell_row rfl _ _ gb681 48 #[.int .i64 t682, .int .i64 t683, .slice Ao113 x688002_2.length co113] (0, 0) _ rfl (bp_ BK681.out) Try.underlying48 rfl (by kernel_rfl)) rfl ?_
       exact ⟨_, er_, by (with_reducible repeat (first | apply Kd.R_alloc | apply Kd.R_drewN | apply Kd.R_drew)); exact Kd.R_mono (Kd.R_far (p := ⟨gb681, 2, none⟩) (Kd.R_far (p := ⟨gb681, 1, none⟩) (Kd.R_far (p := ⟨gb681, 0, none⟩) (Kd.R_types HO_688002.out BK681.out (by decide)) (fun _ hk => hk.2) (.int .i64 t682)) (fun _ hk => hk.2) (.int .i64 t683)) (fun _ hk => hk.2) (.slice Ao113 x688002_2.length co113)) (fun _ hk => trivial), hb_ HB.out⟩
section
attribute [local go_sem high] eqA_Item
/-! ### laws_FnPacked: function 13 -/
abbrev laws_FnPacked.m0 : Array Bool := #[f_,f_,f_,f_,f_,f_,f_,f_,f_,f_,f_,f_,f_,f_]
abbrev laws_FnPacked.m1 : Array Bool := #[f_,t_,f_,f_,f_,f_,f_,f_,f_,f_,f_,f_,f_,f_]
abbrev laws_FnPacked.m2 : Array Bool := #[f_,t_,f_,t_,f_,f_,f_,f_,f_,f_,f_,f_,f_,f_]
abbrev laws_FnPacked.m3 : Array Bool := #[t_,t_,f_,t_,f_,f_,f_,f_,f_,f_,f_,f_,f_,f_]
abbrev laws_FnPacked.m4 : Array Bool := #[t_,t_,t_,t_,f_,f_,f_,f_,f_,f_,f_,f_,f_,f_]
abbrev laws_FnPacked.m5 : Array Bool := #[t_,t_,t_,t_,t_,f_,f_,f_,f_,f_,f_,f_,f_,f_]
abbrev laws_FnPacked.m6 : Array Bool := #[t_,t_,t_,t_,t_,t_,f_,f_,f_,f_,f_,f_,f_,f_]
abbrev laws_FnPacked.m7 : Array Bool := #[t_,t_,t_,t_,t_,t_,t_,f_,f_,f_,f_,f_,f_,f_]
abbrev laws_FnPacked.m8 : Array Bool := #[t_,t_,t_,t_,t_,t_,t_,t_,t_,t_,t_,t_,f_,f_]
abbrev laws_FnPacked.m9 : Array Bool := #[t_,t_,t_,t_,t_,t_,t_,t_,f_,f_,f_,f_,f_,f_]
abbrev laws_FnPacked.m10 : Array Bool := #[t_,t_,t_,t_,t_,t_,t_,f_,f_,f_,f_,t_,f_,f_]
abbrev laws_FnPacked.m11 : Array Bool := #[t_,t_,t_,t_,t_,t_,t_,t_,t_,f_,f_,f_,f_,f_]
abbrev laws_FnPacked.m12 : Array Bool := #[t_,t_,t_,t_,t_,t_,t_,t_,t_,t_,f_,f_,f_,f_]
abbrev laws_FnPacked.m13 : Array Bool := #[t_,t_,t_,t_,t_,t_,t_,t_,t_,t_,t_,f_,f_,f_]
abbrev laws_FnPacked.m14 : Array Bool := #[t_,t_,t_,t_,t_,t_,t_,t_,f_,f_,f_,t_,f_,f_]
abbrev laws_FnPacked.m15 : Array Bool := #[t_,t_,t_,t_,t_,t_,t_,t_,t_,f_,f_,t_,f_,f_]
abbrev laws_FnPacked.m16 : Array Bool := #[t_,t_,t_,t_,t_,t_,t_,t_,t_,t_,f_,t_,f_,f_]
abbrev laws_FnPacked.m17 : Array Bool := #[t_,t_,t_,t_,t_,t_,t_,t_,t_,t_,t_,t_,t_,f_]
abbrev laws_FnPacked.m18 : Array Bool := #[t_,t_,t_,t_,t_,t_,t_,t_,t_,t_,t_,t_,t_,t_]
abbrev laws_FnPacked.m19 : Array Bool := #[f_,f_,f_,f_,f_,f_,f_,f_,f_,f_,f_]
abbrev laws_FnPacked.m20 : Array Bool := #[t_,f_,f_,f_,f_,f_,f_,f_,f_,f_,f_]
abbrev laws_FnPacked.m21 : Array Bool := #[t_,t_,f_,f_,f_,f_,f_,f_,f_,f_,f_]
abbrev laws_FnPacked.m22 : Array Bool := #[t_,t_,t_,f_,f_,f_,f_,f_,f_,f_,f_]
abbrev laws_FnPacked.m23 : Array Bool := #[t_,t_,t_,t_,t_,t_,t_,f_,f_,f_,f_]
abbrev laws_FnPacked.m24 : Array Bool := #[t_,t_,t_,t_,t_,t_,t_,t_,f_,f_,f_]
abbrev laws_FnPacked.m25 : Array Bool := #[t_,t_,t_,t_,t_,t_,t_,t_,t_,f_,f_]
abbrev laws_FnPacked.m26 : Array Bool := #[t_,t_,t_,t_,t_,t_,t_,t_,t_,t_,f_]
abbrev laws_FnPacked.m27 : Array Bool := #[t_,t_,t_,t_,t_,t_,t_,t_,t_,t_,t_]
abbrev laws_FnPacked.m28 : Array Bool := #[f_,f_,f_,f_,f_,f_,f_,f_,f_,f_,f_,f_,f_,f_,f_,f_,f_,f_,f_,f_,f_,f_,f_,f_]
abbrev laws_FnPacked.m29 : Array Bool := #[t_,f_,f_,f_,f_,f_,f_,f_,f_,f_,f_,f_,f_,f_,f_,f_,f_,f_,f_,f_,f_,f_,f_,f_]
abbrev laws_FnPacked.m30 : Array Bool := #[t_,t_,f_,f_,f_,f_,f_,f_,f_,f_,f_,f_,f_,f_,f_,f_,f_,f_,f_,f_,f_,f_,f_,f_]
abbrev laws_FnPacked.m31 : Array Bool := #[t_,t_,t_,f_,f_,f_,f_,f_,f_,f_,f_,f_,f_,f_,f_,f_,f_,f_,f_,f_,f_,f_,f_,f_]
abbrev laws_FnPacked.m32 : Array Bool := #[t_,t_,t_,t_,f_,f_,f_,f_,f_,f_,f_,f_,f_,f_,f_,f_,f_,f_,f_,f_,f_,f_,f_,f_]
abbrev laws_FnPacked.m33 : Array Bool := #[t_,t_,t_,t_,f_,t_,f_,f_,f_,f_,f_,f_,f_,f_,f_,f_,f_,f_,f_,f_,f_,f_,f_,f_]
abbrev laws_FnPacked.m34 : Array Bool := #[t_,t_,t_,t_,t_,t_,f_,f_,f_,f_,f_,f_,f_,f_,f_,f_,f_,f_,f_,f_,f_,f_,f_,f_]
abbrev laws_FnPacked.m35 : Array Bool := #[t_,t_,t_,t_,t_,t_,t_,f_,f_,f_,f_,f_,f_,f_,f_,f_,f_,f_,f_,f_,f_,f_,f_,f_]
abbrev laws_FnPacked.m36 : Array Bool := #[t_,t_,t_,t_,t_,t_,t_,t_,f_,f_,f_,f_,f_,f_,f_,f_,f_,f_,f_,f_,f_,f_,f_,f_]
abbrev laws_FnPacked.m37 : Array Bool := #[t_,t_,t_,t_,t_,t_,t_,t_,t_,f_,f_,f_,f_,f_,f_,f_,f_,f_,f_,f_,f_,f_,f_,f_]
abbrev laws_FnPacked.m38 : Array Bool := #[t_,t_,t_,t_,t_,t_,t_,t_,t_,t_,f_,f_,f_,f_,f_,f_,f_,f_,f_,f_,f_,f_,f_,f_]
abbrev laws_FnPacked.m39 : Array Bool := #[t_,t_,t_,t_,t_,t_,t_,t_,t_,t_,t_,f_,f_,f_,f_,f_,f_,f_,f_,f_,f_,f_,f_,f_]
abbrev laws_FnPacked.m40 : Array Bool := #[t_,t_,t_,t_,t_,t_,t_,t_,t_,t_,t_,f_,t_,f_,f_,f_,f_,f_,f_,f_,f_,f_,f_,f_]
abbrev laws_FnPacked.m41 : Array Bool := #[t_,t_,t_,t_,t_,t_,t_,t_,t_,t_,t_,t_,t_,f_,f_,f_,f_,f_,f_,f_,f_,f_,f_,f_]
abbrev laws_FnPacked.m42 : Array Bool := #[t_,t_,t_,t_,t_,t_,t_,t_,t_,t_,t_,t_,t_,t_,f_,f_,f_,f_,f_,f_,f_,f_,f_,f_]
abbrev laws_FnPacked.m43 : Array Bool := #[t_,t_,t_,t_,t_,t_,t_,t_,t_,t_,t_,t_,t_,t_,t_,f_,f_,f_,f_,f_,f_,f_,f_,f_]
abbrev laws_FnPacked.m44 : Array Bool := #[t_,t_,t_,t_,t_,t_,t_,t_,t_,t_,t_,t_,t_,t_,t_,t_,f_,f_,f_,f_,f_,f_,f_,f_]
abbrev laws_FnPacked.m45 : Array Bool := #[t_,t_,t_,t_,t_,t_,t_,t_,t_,t_,t_,t_,t_,t_,t_,t_,t_,f_,f_,f_,f_,f_,f_,f_]
abbrev laws_FnPacked.m46 : Array Bool := #[t_,t_,t_,t_,t_,t_,t_,t_,t_,t_,t_,t_,t_,t_,t_,t_,t_,t_,t_,f_,f_,f_,f_,f_]
abbrev laws_FnPacked.m47 : Array Bool := #[t_,t_,t_,t_,t_,t_,t_,t_,t_,t_,t_,t_,t_,t_,t_,t_,t_,t_,t_,t_,t_,f_,f_,f_]
abbrev laws_FnPacked.m48 : Array Bool := #[t_,t_,t_,t_,t_,t_,t_,t_,t_,t_,t_,t_,t_,t_,t_,t_,t_,t_,t_,t_,t_,t_,f_,f_]
abbrev laws_FnPacked.m49 : Array Bool := #[t_,t_,t_,t_,t_,t_,t_,t_,t_,t_,t_,t_,t_,t_,t_,t_,t_,t_,t_,t_,t_,t_,t_,f_]
abbrev laws_FnPacked.m50 : Array Bool := #[t_,t_,t_,t_,t_,t_,t_,t_,t_,t_,t_,t_,t_,t_,t_,t_,t_,t_,t_,t_,t_,t_,t_,t_]
abbrev laws_FnPacked.m51 : Array Bool := #[t_,t_,t_,t_,t_,t_,t_,t_,t_,t_,t_,t_,t_,t_,t_,t_,t_,t_,f_,f_,f_,f_,f_,f_]
abbrev laws_FnPacked.m52 : Array Bool := #[t_,t_,t_,t_,t_,t_,t_,t_,t_,t_,t_,t_,t_,t_,t_,t_,t_,t_,t_,t_,f_,f_,f_,f_]
abbrev laws_FnPacked.m53 : Array Bool := #[t_,t_,t_,t_,t_,t_,t_,t_,t_,t_,t_,t_,f_,f_,f_,f_,f_,f_,f_,f_,f_,f_,f_,f_]
mutual
def laws_FnPacked.j0 : Nat → List Int → Option (Bool)
 | 0, _ => none
 | k + 1, x0 => (spec_DrawRowPack.f k x0).bind fun bt714 => ((impl_RowPack.f k bt714.1 bt714.2.1 bt714.2.2.1 bt714.2.2.2).bind fun bt721 => ((spec_RowPack.f k bt714.1 bt714.2.1 bt714.2.2.1 bt714.2.2.2).bind fun bt727 => ((laws_sameRow.f k bt721.1 bt721.2.1 bt721.2.2 bt727.1 bt727.2.1 bt727.2.2).bind fun t732 => (if t732 = true then (laws_FnPacked.j1 k bt714.2.2.2 bt714.1 bt714.2.1 bt714.2.2.1 bt721.1 bt721.2.1 bt721.2.2) else (some false)))))
def laws_FnPacked.j1 : Nat → Int → Int → Int → List (S_Item) → Int → Int → List (S_Item) → Option (Bool)
 | 0, _, _, _, _, _, _, _ => none
 | k + 1, x4, x721000, x721001, x721002, x727000, x727001, x727002 => if x4 < 1 then (laws_FnPacked.j2 k x4 true x721000 x721001 x721002 x727000 x727001 x727002) else ((impl_RowOk.f k x721000 x721001 x721002).bind fun t733 => (laws_FnPacked.j2 k x4 (!t733) x721000 x721001 x721002 x727000 x727001 x727002))
def laws_FnPacked.j2 : Nat → Int → Bool → Int → Int → List (S_Item) → Int → Int → List (S_Item) → Option (Bool)
 | 0, _, _, _, _, _, _, _, _ => none
 | k + 1, x4, x36, x721000, x721001, x721002, x727000, x727001, x727002 => if x36 = true then ((laws_sameRow.f k x727000 x727001 x727002 x721000 x721001 x721002).bind fun t734 => (some t734)) else (laws_FnPacked.j3 k x4 x721000 x721001 x721002 x727000 x727001 x727002)
def laws_FnPacked.j3 : Nat → Int → Int → Int → List (S_Item) → Int → Int → List (S_Item) → Option (Bool)
 | 0, _, _, _, _, _, _, _ => none
 | k + 1, x4, x721000, x721001, x721002, x727000, x727001, x727002 => laws_FnPacked.l0 k x4 0 x721000 x721001 x721002 x727000 x727001 x727002
def laws_FnPacked.j7 : Nat → Int → Int → Int → List (S_Item) → Int → Int → List (S_Item) → Option (Bool)
 | 0, _, _, _, _, _, _, _ => none
 | k + 1, x4, x721000, x721001, x721002, x727000, x727001, x727002 => laws_FnPacked.l1 k x4 0 x721000 x721001 x721002 x727000 x727001 x727002
def laws_FnPacked.j11 : Nat → Int → Int → Int → List (S_Item) → Int → Int → List (S_Item) → Option (Bool)
 | 0, _, _, _, _, _, _, _ => none
 | k + 1, x4, x721000, x721001, x721002, x727000, x727001, x727002 => (impl_RowOk.f k x727000 x727001 x727002).bind fun t760 => (if t760 = true then (if x727000 = x721000 then (if x727001 = x721001 then ((impl_RowPack.f k x727000 x727001 x727002 x4).bind fun bt761 => ((laws_sameRow.f k bt761.1 bt761.2.1 bt761.2.2 x727000 x727001 x727002).bind fun t766 => (some t766))) else (some false)) else (some false)) else (some false))
def laws_FnPacked.l1 : Nat → Int → Int → Int → Int → List (S_Item) → Int → Int → List (S_Item) → Option (Bool)
 | 0, _, _, _, _, _, _, _, _ => none
 | k + 1, x4, x11, x721000, x721001, x721002, x727000, x727001, x727002 => if x11 < (x727002.length : Int) then (laws_FnPacked.j9 k x4 x11 x721000 x721001 x721002 x727000 x727001 x727002) else (laws_FnPacked.j11 k x4 x721000 x721001 x721002 x727000 x727001 x727002)
def laws_FnPacked.j9 : Nat → Int → Int → Int → Int → List (S_Item) → Int → Int → List (S_Item) → Option (Bool)
 | 0, _, _, _, _, _, _, _, _ => none
 | k + 1, x4, x11, x721000, x721001, x721002, x727000, x727001, x727002 => if 0 ≤ x11 then (if x11 < (x727002.length : Int) then ((impl_RowGet.f k x721000 x721001 x721002 ((rd_Item x727002 x11).f0)).bind fun bt752 => (if bt752.2.2.2.2.2 = 0 then (laws_FnPacked.j10 k x4 x11 (!(bt752.1 == ((rd_Item x727002 x11).f0)) || (!(bt752.2.1.toList == (((rd_Item x727002 x11).f1).toList)) || (!(bt752.2.2.1.toList == (((rd_Item x727002 x11).f2).toList)) || (!(bt752.2.2.2.1 == ((rd_Item x727002 x11).f3)) || (!(bt752.2.2.2.2.1 == ((rd_Item x727002 x11).f4))))))) x721000 x721001 x721002 x727000 x727001 x727002) else (laws_FnPacked.j10 k x4 x11 true x721000 x721001 x721002 x727000 x727001 x727002))) else (none)) else (none)
def laws_FnPacked.j10 : Nat → Int → Int → Bool → Int → Int → List (S_Item) → Int → Int → List (S_Item) → Option (Bool)
 | 0, _, _, _, _, _, _, _, _, _ => none
 | k + 1, x4, x11, x105, x721000, x721001, x721002, x727000, x727001, x727002 => if x105 = true then (some false) else (laws_FnPacked.l1 k x4 (wrap64 (x11 + 1)) x721000 x721001 x721002 x727000 x727001 x727002)
def laws_FnPacked.l0 : Nat → Int → Int → Int → Int → List (S_Item) → Int → Int → List (S_Item) → Option (Bool)
 | 0, _, _, _, _, _, _, _, _ => none
 | k + 1, x4, x6, x721000, x721001, x721002, x727000, x727001, x727002 => if x6 < (x721002.length : Int) then (laws_FnPacked.j5 k x4 x6 x721000 x721001 x721002 x727000 x727001 x727002) else (laws_FnPacked.j7 k x4 x721000 x721001 x721002 x727000 x727001 x727002)
def laws_FnPacked.j5 : Nat → Int → Int → Int → Int → List (S_Item) → Int → Int → List (S_Item) → Option (Bool)
 | 0, _, _, _, _, _, _, _, _ => none
 | k + 1, x4, x6, x721000, x721001, x721002, x727000, x727001, x727002 => if 0 ≤ x6 then (if x6 < (x721002.length : Int) then ((impl_Latest.f k x721000 x721001 x721002 ((rd_Item x721002 x6).f1)).bind fun bt736 => ((impl_Latest.f k x727000 x727001 x727002 ((rd_Item x721002 x6).f1)).bind fun bt744 => (if (bt736.2.2.2.2.2 != bt744.2.2.2.2.2) = true then (laws_FnPacked.j6 k x4 x6 true x721000 x721001 x721002 x727000 x727001 x727002) else (laws_FnPacked.j6 k x4 x6 (!(bt736.1 == bt744.1) || (!(bt736.2.1.toList == bt744.2.1.toList) || (!(bt736.2.2.1.toList == bt744.2.2.1.toList) || (!(bt736.2.2.2.1 == bt744.2.2.2.1) || (!(bt736.2.2.2.2.1 == bt744.2.2.2.2.1)))))) x721000 x721001 x721002 x727000 x727001 x727002)))) else (none)) else (none)
def laws_FnPacked.j6 : Nat → Int → Int → Bool → Int → Int → List (S_Item) → Int → Int → List (S_Item) → Option (Bool)
 | 0, _, _, _, _, _, _, _, _, _ => none
 | k + 1, x4, x6, x76, x721000, x721001, x721002, x727000, x727001, x727002 => if x76 = true then (some false) else (laws_FnPacked.l0 k x4 (wrap64 (x6 + 1)) x721000 x721001 x721002 x727000 x727001 x727002)
end
def laws_FnPacked.f (k : Nat) (l0 : List Int) : Option (Bool) := (laws_big.f l0).bind fun t713 => (if t713 = true then (some true) else (laws_FnPacked.j0 k l0))
theorem laws_FnPacked.mono_l : ∀ k, (∀ y0, LeO (laws_FnPacked.j0 k y0) (laws_FnPacked.j0 (k + 1) y0)) ∧ (∀ y0 y1 y2 y3 y4 y5 y6, LeO (laws_FnPacked.j1 k y0 y1 y2 y3 y4 y5 y6) (laws_FnPacked.j1 (k + 1) y0 y1 y2 y3 y4 y5 y6)) ∧ (∀ y0 y1 y2 y3 y4 y5 y6 y7, LeO (laws_FnPacked.j2 k y0 y1 y2 y3 y4 y5 y6 y7) (laws_FnPacked.j2 (k + 1) y0 y1 y2 y3 y4 y5 y6 y7)) ∧ (∀ y0 y1 y2 y3 y4 y5 y6, LeO (laws_FnPacked.j3 k y0 y1 y2 y3 y4 y5 y6) (laws_FnPacked.j3 (k + 1) y0 y1 y2 y3 y4 y5 y6)) ∧ (∀ y0 y1 y2 y3 y4 y5 y6, LeO (laws_FnPacked.j7 k y0 y1 y2 y3 y4 y5 y6) (laws_FnPacked.j7 (k + 1) y0 y1 y2 y3 y4 y5 y6)) ∧ (∀ y0 y1 y2 y3 y4 y5 y6, LeO (laws_FnPacked.j11 k y0 y1 y2 y3 y4 y5 y6) (laws_FnPacked.j11 (k + 1) y0 y1 y2 y3 y4 y5 y6)) ∧ (∀ y0 y1 y2 y3 y4 y5 y6 y7, LeO (laws_FnPacked.l1 k y0 y1 y2 y3 y4 y5 y6 y7) (laws_FnPacked.l1 (k + 1) y0 y1 y2 y3 y4 y5 y6 y7)) ∧ (∀ y0 y1 y2 y3 y4 y5 y6 y7, LeO (laws_FnPacked.j9 k y0 y1 y2 y3 y4 y5 y6 y7) (laws_FnPacked.j9 (k + 1) y0 y1 y2 y3 y4 y5 y6 y7)) ∧ (∀ y0 y1 y2 y3 y4 y5 y6 y7 y8, LeO (laws_FnPacked.j10 k y0 y1 y2 y3 y4 y5 y6 y7 y8) (laws_FnPacked.j10 (k + 1) y0 y1 y2 y3 y4 y5 y6 y7 y8)) ∧ (∀ y0 y1 y2 y3 y4 y5 y6 y7, LeO (laws_FnPacked.l0 k y0 y1 y2 y3 y4 y5 y6 y7) (laws_FnPacked.l0 (k + 1) y0 y1 y2 y3 y4 y5 y6 y7)) ∧ (∀ y0 y1 y2 y3 y4 y5 y6 y7, LeO (laws_FnPacked.j5 k y0 y1 y2 y3 y4 y5 y6 y7) (laws_FnPacked.j5 (k + 1) y0 y1 y2 y3 y4 y5 y6 y7)) ∧ (∀ y0 y1 y2 y3 y4 y5 y6 y7 y8, LeO (laws_FnPacked.j6 k y0 y1 y2 y3 y4 y5 y6 y7 y8) (laws_FnPacked.j6 (k + 1) y0 y1 y2 y3 y4 y5 y6 y7 y8))
 | 0 => ⟨fun _ r h => by simp [laws_FnPacked.j0] at h, fun _ _ _ _ _ _ _ r h => by simp [laws_FnPacked.j1] at h, fun _ _ _ _ _ _ _ _ r h => by simp [laws_FnPacked.j2] at h, fun _ _ _ _ _ _ _ r h => by simp [laws_FnPacked.j3] at h, fun _ _ _ _ _ _ _ r h => by simp [laws_FnPacked.j7] at h, fun _ _ _ _ _ _ _ r h => by simp [laws_FnPacked.j11] at h, fun _ _ _ _ _ _ _ _ r h => by simp [laws_FnPacked.l1] at h, fun _ _ _ _ _ _ _ _ r h => by simp [laws_FnPacked.j9] at h, fun _ _ _ _ _ _ _ _ _ r h => by simp [laws_FnPacked.j10] at h, fun _ _ _ _ _ _ _ _ r h => by simp [laws_FnPacked.l0] at h, fun _ _ _ _ _ _ _ _ r h => by simp [laws_FnPacked.j5] at h, fun _ _ _ _ _ _ _ _ _ r h => by simp [laws_FnPacked.j6] at h⟩
 | k + 1 => by
  obtain ⟨ih0, ih1, ih2, ih3, ih4, ih5, ih6, ih7, ih8, ih9, ih10, ih11⟩ := laws_FnPacked.mono_l k
  refine ⟨?_, ?_, ?_, ?_, ?_, ?_, ?_, ?_, ?_, ?_, ?_, ?_⟩
  ·
   intro y0
   unfold laws_FnPacked.j0
   repeat' first
   | (with_reducible exact ih0 _)
   | (with_reducible exact ih1 _ _ _ _ _ _ _)
   | (with_reducible exact ih2 _ _ _ _ _ _ _ _)
   | (with_reducible exact ih3 _ _ _ _ _ _ _)
   | (with_reducible exact ih4 _ _ _ _ _ _ _)
   | (with_reducible exact ih5 _ _ _ _ _ _ _)
   | (with_reducible exact ih6 _ _ _ _ _ _ _ _)
   | (with_reducible exact ih7 _ _ _ _ _ _ _ _)
   | (with_reducible exact ih8 _ _ _ _ _ _ _ _ _)
   | (with_reducible exact ih9 _ _ _ _ _ _ _ _)
   | (with_reducible exact ih10 _ _ _ _ _ _ _ _)
   | (with_reducible exact ih11 _ _ _ _ _ _ _ _ _)
   | (with_reducible exact impl_Latest.mono _ _ _ _ _)
   | (with_reducible exact impl_RowGet.mono _ _ _ _ _)
   | (with_reducible exact impl_RowOk.mono _ _ _ _)
   | (with_reducible exact impl_RowPack.mono _ _ _ _ _)
   | (with_reducible exact laws_sameRow.mono _ _ _ _ _ _ _)
   | (with_reducible exact spec_DrawRowPack.mono _ _)
   | (with_reducible exact spec_RowPack.mono _ _ _ _ _)
   | (with_reducible exact LeO.refl _)
   | (with_reducible exact LeO.none _)
   | (with_reducible refine LeO.ite ?_ ?_)
   | (with_reducible refine LeO.bind ?_ (fun _ => ?_))
   | exact ih0 _
   | exact ih1 _ _ _ _ _ _ _
   | exact ih2 _ _ _ _ _ _ _ _
   | exact ih3 _ _ _ _ _ _ _
   | exact ih4 _ _ _ _ _ _ _
   | exact ih5 _ _ _ _ _ _ _
   | exact ih6 _ _ _ _ _ _ _ _
   | exact ih7 _ _ _ _ _ _ _ _
   | exact ih8 _ _ _ _ _ _ _ _ _
   | exact ih9 _ _ _ _ _ _ _ _
   | exact ih10 _ _ _ _ _ _ _ _
   | exact ih11 _ _ _ _ _ _ _ _ _
   | exact impl_Latest.mono _ _ _ _ _
   | exact impl_RowGet.mono _ _ _ _ _
   | exact impl_RowOk.mono _ _ _ _
   | exact impl_RowPack.mono _ _ _ _ _
   | exact laws_sameRow.mono _ _ _ _ _ _ _
   | exact spec_DrawRowPack.mono _ _
   | exact spec_RowPack.mono _ _ _ _ _
   | exact LeO.none _
   | refine LeO.ite ?_ ?_
   | refine LeO.bind ?_ (fun _ => ?_)
  ·
   intro y0 y1 y2 y3 y4 y5 y6
   unfold laws_FnPacked.j1
   repeat' first
   | (with_reducible exact ih0 _)
   | (with_reducible exact ih1 _ _ _ _ _ _ _)
   | (with_reducible exact ih2 _ _ _ _ _ _ _ _)
   | (with_reducible exact ih3 _ _ _ _ _ _ _)
   | (with_reducible exact ih4 _ _ _ _ _ _ _)
   | (with_reducible exact ih5 _ _ _ _ _ _ _)
   | (with_reducible exact ih6 _ _ _ _ _ _ _ _)
   | (with_reducible exact ih7 _ _ _ _ _ _ _ _)
   | (with_reducible exact ih8 _ _ _ _ _ _ _ _ _)
   | (with_reducible exact ih9 _ _ _ _ _ _ _ _)
   | (with_reducible exact ih10 _ _ _ _ _ _ _ _)
   | (with_reducible exact ih11 _ _ _ _ _ _ _ _ _)
   | (with_reducible exact impl_Latest.mono _ _ _ _ _)
   | (with_reducible exact impl_RowGet.mono _ _ _ _ _)
   | (with_reducible exact impl_RowOk.mono _ _ _ _)
   | (with_reducible exact impl_RowPack.mono _ _ _ _ _)
   | (with_reducible exact laws_sameRow.mono _ _ _ _ _ _ _)
   | (with_reducible exact spec_DrawRowPack.mono _ _)
   | (with_reducible exact spec_RowPack.mono _ _ _ _ _)
   | (with_reducible exact LeO.refl _)
   | (with_reducible exact LeO.none _)
   | (with_reducible refine LeO.ite ?_ ?_)
   | (with_reducible refine LeO.bind ?_ (fun _ => ?_))
   | exact ih0 _
   | exact ih1 _ _ _ _ _ _ _
   | exact ih2 _ _ _ _ _ _ _ _
   | exact ih3 _ _ _ _ _ _ _
   | exact ih4 _ _ _ _ _ _ _
   | exact ih5 _ _ _ _ _ _ _
   | exact ih6 _ _ _ _ _ _ _ _
   | exact ih7 _ _ _ _ _ _ _ _
   | exact ih8 _ _ _ _ _ _ _ _ _
   | exact ih9 _ _ _ _ _ _ _ _
   | exact ih10 _ _ _ _ _ _ _ _
   | exact ih11 _ _ _ _ _ _ _ _ _
   | exact impl_Latest.mono _ _ _ _ _
   | exact impl_RowGet.mono _ _ _ _ _
   | exact impl_RowOk.mono _ _ _ _
   | exact impl_RowPack.mono _ _ _ _ _
   | exact laws_sameRow.mono _ _ _ _ _ _ _
   | exact spec_DrawRowPack.mono _ _
   | exact spec_RowPack.mono _ _ _ _ _
   | exact LeO.none _
   | refine LeO.ite ?_ ?_
   | refine LeO.bind ?_ (fun _ => ?_)
  ·
   intro y0 y1 y2 y3 y4 y5 y6 y7
   unfold laws_FnPacked.j2
   repeat' first
   | (with_reducible exact ih0 _)
   | (with_reducible exact ih1 _ _ _ _ _ _ _)
   | (with_reducible exact ih2 _ _ _ _ _ _ _ _)
   | (with_reducible exact ih3 _ _ _ _ _ _ _)
   | (with_reducible exact ih4 _ _ _ _ _ _ _)
   | (with_reducible exact ih5 _ _ _ _ _ _ _)
   | (with_reducible exact ih6 _ _ _ _ _ _ _ _)
   | (with_reducible exact ih7 _ _ _ _ _ _ _ _)
   | (with_reducible exact ih8 _ _ _ _ _ _ _ _ _)
   | (with_reducible exact ih9 _ _ _ _ _ _ _ _)
   | (with_reducible exact ih10 _ _ _ _ _ _ _ _)
   | (with_reducible exact ih11 _ _ _ _ _ _ _ _ _)
   | (with_reducible exact impl_Latest.mono _ _ _ _ _)
   | (with_reducible exact impl_RowGet.mono _ _ _ _ _)
   | (with_reducible exact impl_RowOk.mono _ _ _ _)
   | (with_reducible exact impl_RowPack.mono _ _ _ _ _)
   | (with_reducible exact laws_sameRow.mono _ _ _ _ _ _ _)
   | (with_reducible exact spec_DrawRowPack.mono _ _)
   | (with_reducible exact spec_RowPack.mono _ _ _ _ _)
   | (with_reducible exact LeO.refl _)
   | (with_reducible exact LeO.none _)
   | (with_reducible refine LeO.ite ?_ ?_)
   | (with_reducible refine LeO.bind ?_ (fun _ => ?_))
   | exact ih0 _
   | exact ih1 _ _ _ _ _ _ _
   | exact ih2 _ _ _ _ _ _ _ _
   | exact ih3 _ _ _ _ _ _ _
   | exact ih4 _ _ _ _ _ _ _
   | exact ih5 _ _ _ _ _ _ _
   | exact ih6 _ _ _ _ _ _ _ _
   | exact ih7 _ _ _ _ _ _ _ _
   | exact ih8 _ _ _ _ _ _ _ _ _
   | exact ih9 _ _ _ _ _ _ _ _
   | exact ih10 _ _ _ _ _ _ _ _
   | exact ih11 _ _ _ _ _ _ _ _ _
   | exact impl_Latest.mono _ _ _ _ _
   | exact impl_RowGet.mono _ _ _ _ _
   | exact impl_RowOk.mono _ _ _ _
   | exact impl_RowPack.mono _ _ _ _ _
   | exact laws_sameRow.mono _ _ _ _ _ _ _
   | exact spec_DrawRowPack.mono _ _
   | exact spec_RowPack.mono _ _ _ _ _
   | exact LeO.none _
   | refine LeO.ite ?_ ?_
   | refine LeO.bind ?_ (fun _ => ?_)
  ·
   intro y0 y1 y2 y3 y4 y5 y6
   unfold laws_FnPacked.j3
   repeat' first
   | (with_reducible exact ih0 _)
   | (with_reducible exact ih1 _ _ _ _ _ _ _)
   | (with_reducible exact ih2 _ _ _ _ _ _ _ _)
   | (with_reducible exact ih3 _ _ _ _ _ _ _)
   | (with_reducible exact ih4 _ _ _ _ _ _ _)
   | (with_reducible exact ih5 _ _ _ _ _ _ _)
   | (with_reducible exact ih6 _ _ _ _ _ _ _ _)
   | (with_reducible exact ih7 _ _ _ _ _ _ _ _)
   | (with_reducible exact ih8 _ _ _ _ _ _ _ _ _)
   | (with_reducible exact ih9 _ _ _ _ _ _ _ _)
   | (with_reducible exact ih10 _ _ _ _ _ _ _ _)
   | (with_reducible exact ih11 _ _ _ _ _ _ _ _ _)
   | (with_reducible exact impl_Latest.mono _ _ _ _ _)
   | (with_reducible exact impl_RowGet.mono _ _ _ _ _)
   | (with_reducible exact impl_RowOk.mono _ _ _ _)
   | (with_reducible exact impl_RowPack.mono _ _ _ _ _)
   | (with_reducible exact laws_sameRow.mono _ _ _ _ _ _ _)
   | (with_reducible exact spec_DrawRowPack.mono _ _)
   | (with_reducible exact spec_RowPack.mono _ _ _ _ _)
   | (with_reducible exact LeO.refl _)
   | (with_reducible exact LeO.none _)
   | (with_reducible refine LeO.ite ?_ ?_)
   | (with_reducible refine LeO.bind ?_ (fun _ => ?_))
   | exact ih0 _
   | exact ih1 _ _ _ _ _ _ _
   | exact ih2 _ _ _ _ _ _ _ _
   | exact ih3 _ _ _ _ _ _ _
   | exact ih4 _ _ _ _ _ _ _
   | exact ih5 _ _ _ _ _ _ _
   | exact ih6 _ _ _ _ _ _ _ _
   | exact ih7 _ _ _ _ _ _ _ _
   | exact ih8 _ _ _ _ _ _ _ _ _
   | exact ih9 _ _ _ _ _ _ _ _
   | exact ih10 _ _ _ _ _ _ _ _
   | exact ih11 _ _ _ _ _ _ _ _ _
   | exact impl_Latest.mono _ _ _ _ _
   | exact impl_RowGet.mono _ _ _ _ _
   | exact impl_RowOk.mono _ _ _ _
   | exact impl_RowPack.mono _ _ _ _ _
   | exact laws_sameRow.mono _ _ _ _ _ _ _
   | exact spec_DrawRowPack.mono _ _
   | exact spec_RowPack.mono _ _ _ _ _
   | exact LeO.none _
   | refine LeO.ite ?_ ?_
   | refine LeO.bind ?_ (fun _ => ?_)
  ·
   intro y0 y1 y2 y3 y4 y5 y6
   unfold laws_FnPacked.j7
   repeat' first
   | (with_reducible exact ih0 _)
   | (with_reducible exact ih1 _ _ _ _ _ _ _)
   | (with_reducible exact ih2 _ _ _ _ _ _ _ _)
   | (with_reducible exact ih3 _ _ _ _ _ _ _)
   | (with_reducible exact ih4 _ _ _ _ _ _ _)
   | (with_reducible exact ih5 _ _ _ _ _ _ _)
   | (with_reducible exact ih6 _ _ _ _ _ _ _ _)
   | (with_reducible exact ih7 _ _ _ _ _ _ _ _)
   | (with_reducible exact ih8 _ _ _ _ _ _ _ _ _)
   | (with_reducible exact ih9 _ _ _ _ _ _ _ _)
   | (with_reducible exact ih10 _ _ _ _ _ _ _ _)
   | (with_reducible exact ih11 _ _ _ _ _ _ _ _ _)
   | (with_reducible exact impl_Latest.mono _ _ _ _ _)
   | (with_reducible exact impl_RowGet.mono _ _ _ _ _)
   | (with_reducible exact impl_RowOk.mono _ _ _ _)
   | (with_reducible exact impl_RowPack.mono _ _ _ _ _)
   | (with_reducible exact laws_sameRow.mono _ _ _ _ _ _ _)
   | (with_reducible exact spec_DrawRowPack.mono _ _)
   | (with_reducible exact spec_RowPack.mono _ _ _ _ _)
   | (with_reducible exact LeO.refl _)
   | (with_reducible exact LeO.none _)
   | (with_reducible refine LeO.ite ?_ ?_)
   | (with_reducible refine LeO.bind ?_ (fun _ => ?_))
   | exact ih0 _
   | exact ih1 _ _ _ _ _ _ _
   | exact ih2 _ _ _ _ _ _ _ _
   | exact ih3 _ _ _ _ _ _ _
   | exact ih4 _ _ _ _ _ _ _
   | exact ih5 _ _ _ _ _ _ _
   | exact ih6 _ _ _ _ _ _ _ _
   | exact ih7 _ _ _ _ _ _ _ _
   | exact ih8 _ _ _ _ _ _ _ _ _
   | exact ih9 _ _ _ _ _ _ _ _
   | exact ih10 _ _ _ _ _ _ _ _
   | exact ih11 _ _ _ _ _ _ _ _ _
   | exact impl_Latest.mono _ _ _ _ _
   | exact impl_RowGet.mono _ _ _ _ _
   | exact impl_RowOk.mono _ _ _ _
   | exact impl_RowPack.mono _ _ _ _ _
   | exact laws_sameRow.mono _ _ _ _ _ _ _
   | exact spec_DrawRowPack.mono _ _
   | exact spec_RowPack.mono _ _ _ _ _
   | exact LeO.none _
   | refine LeO.ite ?_ ?_
   | refine LeO.bind ?_ (fun _ => ?_)
  ·
   intro y0 y1 y2 y3 y4 y5 y6
   unfold laws_FnPacked.j11
   repeat' first
   | (with_reducible exact ih0 _)
   | (with_reducible exact ih1 _ _ _ _ _ _ _)
   | (with_reducible exact ih2 _ _ _ _ _ _ _ _)
   | (with_reducible exact ih3 _ _ _ _ _ _ _)
   | (with_reducible exact ih4 _ _ _ _ _ _ _)
   | (with_reducible exact ih5 _ _ _ _ _ _ _)
   | (with_reducible exact ih6 _ _ _ _ _ _ _ _)
   | (with_reducible exact ih7 _ _ _ _ _ _ _ _)
   | (with_reducible exact ih8 _ _ _ _ _ _ _ _ _)
   | (with_reducible exact ih9 _ _ _ _ _ _ _ _)
   | (with_reducible exact ih10 _ _ _ _ _ _ _ _)
   | (with_reducible exact ih11 _ _ _ _ _ _ _ _ _)
   | (with_reducible exact impl_Latest.mono _ _ _ _ _)
   | (with_reducible exact impl_RowGet.mono _ _ _ _ _)
   | (with_reducible exact impl_RowOk.mono _ _ _ _)
   | (with_reducible exact impl_RowPack.mono _ _ _ _ _)
   | (with_reducible exact laws_sameRow.mono _ _ _ _ _ _ _)
   | (with_reducible exact spec_DrawRowPack.mono _ _)
   | (with_reducible exact spec_RowPack.mono _ _ _ _ _)
   | (with_reducible exact LeO.refl _)
   | (with_reducible exact LeO.none _)
   | (with_reducible refine LeO.ite ?_ ?_)
   | (with_reducible refine LeO.bind ?_ (fun _ => ?_))
   | exact ih0 _
   | exact ih1 _ _ _ _ _ _ _
   | exact ih2 _ _ _ _ _ _ _ _
   | exact ih3 _ _ _ _ _ _ _
   | exact ih4 _ _ _ _ _ _ _
   | exact ih5 _ _ _ _ _ _ _
   | exact ih6 _ _ _ _ _ _ _ _
   | exact ih7 _ _ _ _ _ _ _ _
   | exact ih8 _ _ _ _ _ _ _ _ _
   | exact ih9 _ _ _ _ _ _ _ _
   | exact ih10 _ _ _ _ _ _ _ _
   | exact ih11 _ _ _ _ _ _ _ _ _
   | exact impl_Latest.mono _ _ _ _ _
   | exact impl_RowGet.mono _ _ _ _ _
   | exact impl_RowOk.mono _ _ _ _
   | exact impl_RowPack.mono _ _ _ _ _
   | exact laws_sameRow.mono _ _ _ _ _ _ _
   | exact spec_DrawRowPack.mono _ _
   | exact spec_RowPack.mono _ _ _ _ _
   | exact LeO.none _
   | refine LeO.ite ?_ ?_
   | refine LeO.bind ?_ (fun _ => ?_)
  ·
   intro y0 y1 y2 y3 y4 y5 y6 y7
   unfold laws_FnPacked.l1
   repeat' first
   | (with_reducible exact ih0 _)
   | (with_reducible exact ih1 _ _ _ _ _ _ _)
   | (with_reducible exact ih2 _ _ _ _ _ _ _ _)
   | (with_reducible exact ih3 _ _ _ _ _ _ _)
   | (with_reducible exact ih4 _ _ _ _ _ _ _)
   | (with_reducible exact ih5 _ _ _ _ _ _ _)
   | (with_reducible exact ih6 _ _ _ _ _ _ _ _)
   | (with_reducible exact ih7 _ _ _ _ _ _ _ _)
   | (with_reducible exact ih8 _ _ _ _ _ _ _ _ _)
   | (with_reducible exact ih9 _ _ _ _ _ _ _ _)
   | (with_reducible exact ih10 _ _ _ _ _ _ _ _)
   | (with_reducible exact ih11 _ _ _ _ _ _ _ _ _)
   | (with_reducible exact impl_Latest.mono _ _ _ _ _)
   | (with_reducible exact impl_RowGet.mono _ _ _ _ _)
   | (with_reducible exact impl_RowOk.mono _ _ _ _)
   | (with_reducible exact impl_RowPack.mono _ _ _ _ _)
   | (with_reducible exact laws_sameRow.mono _ _ _ _ _ _ _)
   | (with_reducible exact spec_DrawRowPack.mono _ _)
   | (with_reducible exact spec_RowPack.mono _ _ _ _ _)
   | (with_reducible exact LeO.refl _)
   | (with_reducible exact LeO.none _)
   | (with_reducible refine LeO.ite ?_ ?_)
   | (with_reducible refine LeO.bind ?_ (fun _ => ?_))
   | exact ih0 _
   | exact ih1 _ _ _ _ _ _ _
   | exact ih2 _ _ _ _ _ _ _ _
   | exact ih3 _ _ _ _ _ _ _
   | exact ih4 _ _ _ _ _ _ _
   | exact ih5 _ _ _ _ _ _ _
   | exact ih6 _ _ _ _ _ _ _ _
   | exact ih7 _ _ _ _ _ _ _ _
   | exact ih8 _ _ _ _ _ _ _ _ _
   | exact ih9 _ _ _ _ _ _ _ _
   | exact ih10 _ _ _ _ _ _ _ _
   | exact ih11 _ _ _ _ _ _ _ _ _
   | exact impl_Latest.mono _ _ _ _ _
   | exact impl_RowGet.mono _ _ _ _ _
   | exact impl_RowOk.mono _ _ _ _
   | exact impl_RowPack.mono _ _ _ _ _
   | exact laws_sameRow.mono _ _ _ _ _ _ _
   | exact spec_DrawRowPack.mono _ _
   | exact spec_RowPack.mono _ _ _ _ _
   | exact LeO.none _
   | refine LeO.ite ?_ ?_
   | refine LeO.bind ?_ (fun _ => ?_)
  ·
   intro y0 y1 y2 y3 y4 y5 y6 y7
   unfold laws_FnPacked.j9
   repeat' first
   | (with_reducible exact ih0 _)
   | (with_reducible exact ih1 _ _ _ _ _ _ _)
   | (with_reducible exact ih2 _ _ _ _ _ _ _ _)
   | (with_reducible exact ih3 _ _ _ _ _ _ _)
   | (with_reducible exact ih4 _ _ _ _ _ _ _)
   | (with_reducible exact ih5 _ _ _ _ _ _ _)
   | (with_reducible exact ih6 _ _ _ _ _ _ _ _)
   | (with_reducible exact ih7 _ _ _ _ _ _ _ _)
   | (with_reducible exact ih8 _ _ _ _ _ _ _ _ _)
   | (with_reducible exact ih9 _ _ _ _ _ _ _ _)
   | (with_reducible exact ih10 _ _ _ _ _ _ _ _)
   | (with_reducible exact ih11 _ _ _ _ _ _ _ _ _)
   | (with_reducible exact impl_Latest.mono _ _ _ _ _)
   | (with_reducible exact impl_RowGet.mono _ _ _ _ _)
   | (with_reducible exact impl_RowOk.mono _ _ _ _)
   | (with_reducible exact impl_RowPack.mono _ _ _ _ _)
   | (with_reducible exact laws_sameRow.mono _ _ _ _ _ _ _)
   | (with_reducible exact spec_DrawRowPack.mono _ _)
   | (with_reducible exact spec_RowPack.mono _ _ _ _ _)
   | (with_reducible exact LeO.refl _)
   | (with_reducible exact LeO.none _)
   | (with_reducible refine LeO.ite ?_ ?_)
   | (with_reducible refine LeO.bind ?_ (fun _ => ?_))
   | exact ih0 _
   | exact ih1 _ _ _ _ _ _ _
   | exact ih2 _ _ _ _ _ _ _ _
   | exact ih3 _ _ _ _ _ _ _
   | exact ih4 _ _ _ _ _ _ _
   | exact ih5 _ _ _ _ _ _ _
   | exact ih6 _ _ _ _ _ _ _ _
   | exact ih7 _ _ _ _ _ _ _ _
   | exact ih8 _ _ _ _ _ _ _ _ _
   | exact ih9 _ _ _ _ _ _ _ _
   | exact ih10 _ _ _ _ _ _ _ _
   | exact ih11 _ _ _ _ _ _ _ _ _
   | exact impl_Latest.mono _ _ _ _ _
   | exact impl_RowGet.mono _ _ _ _ _
   | exact impl_RowOk.mono _ _ _ _
   | exact impl_RowPack.mono _ _ _ _ _
   | exact laws_sameRow.mono _ _ _ _ _ _ _
   | exact spec_DrawRowPack.mono _ _
   | exact spec_RowPack.mono _ _ _ _ _
   | exact LeO.none _
   | refine LeO.ite ?_ ?_
   | refine LeO.bind ?_ (fun _ => ?_)
  ·
   intro y0 y1 y2 y3 y4 y5 y6 y7 y8
   unfold laws_FnPacked.j10
   repeat' first
   | (with_reducible exact ih0 _)
   | (with_reducible exact ih1 _ _ _ _ _ _ _)
   | (with_reducible exact ih2 _ _ _ _ _ _ _ _)
   | (with_reducible exact ih3 _ _ _ _ _ _ _)
   | (with_reducible exact ih4 _ _ _ _ _ _ _)
   | (with_reducible exact ih5 _ _ _ _ _ _ _)
   | (with_reducible exact ih6 _ _ _ _ _ _ _ _)
   | (with_reducible exact ih7 _ _ _ _ _ _ _ _)
   | (with_reducible exact ih8 _ _ _ _ _ _ _ _ _)
   | (with_reducible exact ih9 _ _ _ _ _ _ _ _)
   | (with_reducible exact ih10 _ _ _ _ _ _ _ _)
   | (with_reducible exact ih11 _ _ _ _ _ _ _ _ _)
   | (with_reducible exact impl_Latest.mono _ _ _ _ _)
   | (with_reducible exact impl_RowGet.mono _ _ _ _ _)
   | (with_reducible exact impl_RowOk.mono _ _ _ _)
   | (with_reducible exact impl_RowPack.mono _ _ _ _ _)
   | (with_reducible exact laws_sameRow.mono _ _ _ _ _ _ _)
   | (with_reducible exact spec_DrawRowPack.mono _ _)
   | (with_reducible exact spec_RowPack.mono _ _ _ _ _)
   | (with_reducible exact LeO.refl _)
   | (with_reducible exact LeO.none _)
   | (with_reducible refine LeO.ite ?_ ?_)
   | (with_reducible refine LeO.bind ?_ (fun _ => ?_))
   | exact ih0 _
   | exact ih1 _ _ _ _ _ _ _
   | exact ih2 _ _ _ _ _ _ _ _
   | exact ih3 _ _ _ _ _ _ _
   | exact ih4 _ _ _ _ _ _ _
   | exact ih5 _ _ _ _ _ _ _
   | exact ih6 _ _ _ _ _ _ _ _
   | exact ih7 _ _ _ _ _ _ _ _
   | exact ih8 _ _ _ _ _ _ _ _ _
   | exact ih9 _ _ _ _ _ _ _ _
   | exact ih10 _ _ _ _ _ _ _ _
   | exact ih11 _ _ _ _ _ _ _ _ _
   | exact impl_Latest.mono _ _ _ _ _
   | exact impl_RowGet.mono _ _ _ _ _
   | exact impl_RowOk.mono _ _ _ _
   | exact impl_RowPack.mono _ _ _ _ _
   | exact laws_sameRow.mono _ _ _ _ _ _ _
   | exact spec_DrawRowPack.mono _ _
   | exact spec_RowPack.mono _ _ _ _ _
   | exact LeO.none _
   | refine LeO.ite ?_ ?_
   | refine LeO.bind ?_ (fun _ => ?_)
  ·
   intro y0 y1 y2 y3 y4 y5 y6 y7
   unfold laws_FnPacked.l0
   repeat' first
   | (with_reducible exact ih0 _)
   | (with_reducible exact ih1 _ _ _ _ _ _ _)
   | (with_reducible exact ih2 _ _ _ _ _ _ _ _)
   | (with_reducible exact ih3 _ _ _ _ _ _ _)
   | (with_reducible exact ih4 _ _ _ _ _ _ _)
   | (with_reducible exact ih5 _ _ _ _ _ _ _)
   | (with_reducible exact ih6 _ _ _ _ _ _ _ _)
   | (with_reducible exact ih7 _ _ _ _ _ _ _ _)
   | (with_reducible exact ih8 _ _ _ _ _ _ _ _ _)
   | (with_reducible exact ih9 _ _ _ _ _ _ _ _)
   | (with_reducible exact ih10 _ _ _ _ _ _ _ _)
   | (with_reducible exact ih11 _ _ _ _ _ _ _ _ _)
   | (with_reducible exact impl_Latest.mono _ _ _ _ _)
   | (with_reducible exact impl_RowGet.mono _ _ _ _ _)
   | (with_reducible exact impl_RowOk.mono _ _ _ _)
   | (with_reducible exact impl_RowPack.mono _ _ _ _ _)
   | (with_reducible exact laws_sameRow.mono _ _ _ _ _ _ _)
   | (with_reducible exact spec_DrawRowPack.mono _ _)
   | (with_reducible exact spec_RowPack.mono _ _ _ _ _)
   | (with_reducible exact LeO.refl _)
   | (with_reducible exact LeO.none _)
   | (with_reducible refine LeO.ite ?_ ?_)
   | (with_reducible refine LeO.bind ?_ (fun _ => ?_))
   | exact ih0 _
   | exact ih1 _ _ _ _ _ _ _
   | exact ih2 _ _ _ _ _ _ _ _
   | exact ih3 _ _ _ _ _ _ _
   | exact ih4 _ _ _ _ _ _ _
   | exact ih5 _ _ _ _ _ _ _
   | exact ih6 _ _ _ _ _ _ _ _
   | exact ih7 _ _ _ _ _ _ _ _
   | exact ih8 _ _ _ _ _ _ _ _ _
   | exact ih9 _ _ _ _ _ _ _ _
   | exact ih10 _ _ _ _ _ _ _ _
   | exact ih11 _ _ _ _ _ _ _ _ _
   | exact impl_Latest.mono _ _ _ _ _
   | exact impl_RowGet.mono _ _ _ _ _
   | exact impl_RowOk.mono _ _ _ _
   | exact impl_RowPack.mono _ _ _ _ _
   | exact laws_sameRow.mono _ _ _ _ _ _ _
   | exact spec_DrawRowPack.mono _ _
   | exact spec_RowPack.mono _ _ _ _ _
   | exact LeO.none _
   | refine LeO.ite ?_ ?_
   | refine LeO.bind ?_ (fun _ => ?_)
  ·
   intro y0 y1 y2 y3 y4 y5 y6 y7
   unfold laws_FnPacked.j5
   repeat' first
   | (with_reducible exact ih0 _)
   | (with_reducible exact ih1 _ _ _ _ _ _ _)
   | (with_reducible exact ih2 _ _ _ _ _ _ _ _)
   | (with_reducible exact ih3 _ _ _ _ _ _ _)
   | (with_reducible exact ih4 _ _ _ _ _ _ _)
   | (with_reducible exact ih5 _ _ _ _ _ _ _)
   | (with_reducible exact ih6 _ _ _ _ _ _ _ _)
   | (with_reducible exact ih7 _ _ _ _ _ _ _ _)
   | (with_reducible exact ih8 _ _ _ _ _ _ _ _ _)
   | (with_reducible exact ih9 _ _ _ _ _ _ _ _)
   | (with_reducible exact ih10 _ _ _ _ _ _ _ _)
   | (with_reducible exact ih11 _ _ _ _ _ _ _ _ _)
   | (with_reducible exact impl_Latest.mono _ _ _ _ _)
   | (with_reducible exact impl_RowGet.mono _ _ _ _ _)
   | (with_reducible exact impl_RowOk.mono _ _ _ _)
   | (with_reducible exact impl_RowPack.mono _ _ _ _ _)
   | (with_reducible exact laws_sameRow.mono _ _ _ _ _ _ _)
   | (with_reducible exact spec_DrawRowPack.mono _ _)
   | (with_reducible exact spec_RowPack.mono _ _ _ _ _)
   | (with_reducible exact LeO.refl _)
   | (with_reducible exact LeO.none _)
   | (with_reducible refine LeO.ite ?_ ?_)
   | (with_reducible refine LeO.bind ?_ (fun _ => ?_))
   | exact ih0 _
   | exact ih1 _ _ _ _ _ _ _
   | exact ih2 _ _ _ _ _ _ _ _
   | exact ih3 _ _ _ _ _ _ _
   | exact ih4 _ _ _ _ _ _ _
   | exact ih5 _ _ _ _ _ _ _
   | exact ih6 _ _ _ _ _ _ _ _
   | exact ih7 _ _ _ _ _ _ _ _
   | exact ih8 _ _ _ _ _ _ _ _ _
   | exact ih9 _ _ _ _ _ _ _ _
   | exact ih10 _ _ _ _ _ _ _ _
   | exact ih11 _ _ _ _ _ _ _ _ _
   | exact impl_Latest.mono _ _ _ _ _
   | exact impl_RowGet.mono _ _ _ _ _
   | exact impl_RowOk.mono _ _ _ _
   | exact impl_RowPack.mono _ _ _ _ _
   | exact laws_sameRow.mono _ _ _ _ _ _ _
   | exact spec_DrawRowPack.mono _ _
   | exact spec_RowPack.mono _ _ _ _ _
   | exact LeO.none _
   | refine LeO.ite ?_ ?_
   | refine LeO.bind ?_ (fun _ => ?_)
  ·
   intro y0 y1 y2 y3 y4 y5 y6 y7 y8
   unfold laws_FnPacked.j6
   repeat' first
   | (with_reducible exact ih0 _)
   | (with_reducible exact ih1 _ _ _ _ _ _ _)
   | (with_reducible exact ih2 _ _ _ _ _ _ _ _)
   | (with_reducible exact ih3 _ _ _ _ _ _ _)
   | (with_reducible exact ih4 _ _ _ _ _ _ _)
   | (with_reducible exact ih5 _ _ _ _ _ _ _)
   | (with_reducible exact ih6 _ _ _ _ _ _ _ _)
   | (with_reducible exact ih7 _ _ _ _ _ _ _ _)
   | (with_reducible exact ih8 _ _ _ _ _ _ _ _ _)
   | (with_reducible exact ih9 _ _ _ _ _ _ _ _)
   | (with_reducible exact ih10 _ _ _ _ _ _ _ _)
   | (with_reducible exact ih11 _ _ _ _ _ _ _ _ _)
   | (with_reducible exact impl_Latest.mono _ _ _ _ _)
   | (with_reducible exact impl_RowGet.mono _ _ _ _ _)
   | (with_reducible exact impl_RowOk.mono _ _ _ _)
   | (with_reducible exact impl_RowPack.mono _ _ _ _ _)
   | (with_reducible exact laws_sameRow.mono _ _ _ _ _ _ _)
   | (with_reducible exact spec_DrawRowPack.mono _ _)
   | (with_reducible exact spec_RowPack.mono _ _ _ _ _)
   | (with_reducible exact LeO.refl _)
   | (with_reducible exact LeO.none _)
   | (with_reducible refine LeO.ite ?_ ?_)
   | (with_reducible refine LeO.bind ?_ (fun _ => ?_))
   | exact ih0 _
   | exact ih1 _ _ _ _ _ _ _
   | exact ih2 _ _ _ _ _ _ _ _
   | exact ih3 _ _ _ _ _ _ _
   | exact ih4 _ _ _ _ _ _ _
   | exact ih5 _ _ _ _ _ _ _
   | exact ih6 _ _ _ _ _ _ _ _
   | exact ih7 _ _ _ _ _ _ _ _
   | exact ih8 _ _ _ _ _ _ _ _ _
   | exact ih9 _ _ _ _ _ _ _ _
   | exact ih10 _ _ _ _ _ _ _ _
   | exact ih11 _ _ _ _ _ _ _ _ _
   | exact impl_Latest.mono _ _ _ _ _
   | exact impl_RowGet.mono _ _ _ _ _
   | exact impl_RowOk.mono _ _ _ _
   | exact impl_RowPack.mono _ _ _ _ _
   | exact laws_sameRow.mono _ _ _ _ _ _ _
   | exact spec_DrawRowPack.mono _ _
   | exact spec_RowPack.mono _ _ _ _ _
   | exact LeO.none _
   | refine LeO.ite ?_ ?_
   | refine LeO.bind ?_ (fun _ => ?_)
theorem laws_FnPacked.mono : ∀ a0 k, LeO (laws_FnPacked.f k a0) (laws_FnPacked.f (k + 1) a0) := by
 intro a0 k
 obtain ⟨ih0, ih1, ih2, ih3, ih4, ih5, ih6, ih7, ih8, ih9, ih10, ih11⟩ := laws_FnPacked.mono_l k
 unfold laws_FnPacked.f
 repeat' first
  | (with_reducible exact ih0 _)
  | (with_reducible exact ih1 _ _ _ _ _ _ _)
  | (with_reducible exact ih2 _ _ _ _ _ _ _ _)
  | (with_reducible exact ih3 _ _ _ _ _ _ _)
  | (with_reducible exact ih4 _ _ _ _ _ _ _)
  | (with_reducible exact ih5 _ _ _ _ _ _ _)
  | (with_reducible exact ih6 _ _ _ _ _ _ _ _)
  | (with_reducible exact ih7 _ _ _ _ _ _ _ _)
  | (with_reducible exact ih8 _ _ _ _ _ _ _ _ _)
  | (with_reducible exact ih9 _ _ _ _ _ _ _ _)
  | (with_reducible exact ih10 _ _ _ _ _ _ _ _)
  | (with_reducible exact ih11 _ _ _ _ _ _ _ _ _)
  | (with_reducible exact impl_Latest.mono _ _ _ _ _)
  | (with_reducible exact impl_RowGet.mono _ _ _ _ _)
  | (with_reducible exact impl_RowOk.mono _ _ _ _)
  | (with_reducible exact impl_RowPack.mono _ _ _ _ _)
  | (with_reducible exact laws_sameRow.mono _ _ _ _ _ _ _)
  | (with_reducible exact spec_DrawRowPack.mono _ _)
  | (with_reducible exact spec_RowPack.mono _ _ _ _ _)
  | (with_reducible exact LeO.refl _)
  | (with_reducible exact LeO.none _)
  | (with_reducible refine LeO.ite ?_ ?_)
  | (with_reducible refine LeO.bind ?_ (fun _ => ?_))
  | exact ih0 _
  | exact ih1 _ _ _ _ _ _ _
  | exact ih2 _ _ _ _ _ _ _ _
  | exact ih3 _ _ _ _ _ _ _
  | exact ih4 _ _ _ _ _ _ _
  | exact ih5 _ _ _ _ _ _ _
  | exact ih6 _ _ _ _ _ _ _ _
  | exact ih7 _ _ _ _ _ _ _ _
  | exact ih8 _ _ _ _ _ _ _ _ _
  | exact ih9 _ _ _ _ _ _ _ _
  | exact ih10 _ _ _ _ _ _ _ _
  | exact ih11 _ _ _ _ _ _ _ _ _
  | exact impl_Latest.mono _ _ _ _ _
  | exact impl_RowGet.mono _ _ _ _ _
  | exact impl_RowOk.mono _ _ _ _
  | exact impl_RowPack.mono _ _ _ _ _
  | exact laws_sameRow.mono _ _ _ _ _ _ _
  | exact spec_DrawRowPack.mono _ _
  | exact spec_RowPack.mono _ _ _ _ _
  | exact LeO.none _
  | refine LeO.ite ?_ ?_
  | refine LeO.bind ?_ (fun _ => ?_)
def laws_FnPacked.T12 : Bool × List (List Nat × List Nat) := (true, [([], []), ([], []), ([1], [1]), ([], []), ([2, 3], [2, 3]), ([4], [4]), ([5], [5]), ([0, 6], [0, 6]), ([7], [7]), ([8], [8]), ([8], [8]), ([], []), ([11, 9, 7, 0, 1, 2, 3, 4, 5, 6, 7, 8, 9, 11], [9, 11]), ([10, 12, 0, 1, 2, 3, 4, 5, 6, 7, 8, 9, 10, 11, 12], [10])])
def laws_FnPacked.B12 : List Nat := [0, 0, 2, 0, 14, 30, 62, 127, 255, 511, 511, 0, 3071, 8191]
theorem laws_FnPacked.tab12 : rtab .any (opsOf Try.f13 12) = laws_FnPacked.T12 := by kernel_rfl
theorem laws_FnPacked.bits12 : waitsOk laws_FnPacked.T12.2 laws_FnPacked.B12 = true := by kernel_rfl
def laws_FnPacked.T13 : Bool × List (List Nat × List Nat) := (true, [([], []), ([], []), ([1], [1]), ([], []), ([2, 3], [2, 3]), ([4], [4]), ([5], [5]), ([0, 6], [0, 6]), ([7], [7]), ([8], [8]), ([8], [8]), ([], []), ([11, 9, 7, 0, 1, 2, 3, 4, 5, 6, 7, 8, 9, 11], [9, 11]), ([10, 12, 0, 1, 2, 3, 4, 5, 6, 7, 8, 9, 10, 11, 12], [10])])
def laws_FnPacked.B13 : List Nat := [0, 0, 2, 0, 14, 30, 62, 127, 255, 511, 511, 0, 3071, 8191]
theorem laws_FnPacked.tab13 : rtab .any (opsOf Try.f13 13) = laws_FnPacked.T13 := by kernel_rfl
theorem laws_FnPacked.bits13 : waitsOk laws_FnPacked.T13.2 laws_FnPacked.B13 = true := by kernel_rfl
def laws_FnPacked.T19 : Bool × List (List Nat × List Nat) := (true, [([], []), ([], []), ([1], [1]), ([], []), ([2, 3], [2, 3]), ([4], [4]), ([5], [5]), ([0, 6], [0, 6]), ([7], [7]), ([8], [8]), ([8], [8]), ([], []), ([11, 9, 7, 0, 1, 2, 3, 4, 5, 6, 7, 8, 9, 11], [9, 11]), ([10, 12, 0, 1, 2, 3, 4, 5, 6, 7, 8, 9, 10, 11, 12], [10])])
def laws_FnPacked.B19 : List Nat := [0, 0, 2, 0, 14, 30, 62, 127, 255, 511, 511, 0, 3071, 8191]
theorem laws_FnPacked.tab19 : rtab .any (opsOf Try.f13 19) = laws_FnPacked.T19 := by kernel_rfl
theorem laws_FnPacked.bits19 : waitsOk laws_FnPacked.T19.2 laws_FnPacked.B19 = true := by kernel_rfl
def laws_FnPacked.T20 : Bool × List (List Nat × List Nat) := (true, [([], []), ([0], [0]), ([1], [1]), ([2], [2]), ([2], [2]), ([4, 2], [2, 4]), ([2], [2]), ([5, 6, 2], [2, 5, 6]), ([7, 2], [2, 7]), ([3, 8, 2], [2, 3, 8]), ([2, 9], [2, 9])])
def laws_FnPacked.B20 : List Nat := [0, 1, 3, 7, 7, 23, 7, 119, 247, 511, 1023]
theorem laws_FnPacked.tab20 : rtab .any (opsOf Try.f13 20) = laws_FnPacked.T20 := by kernel_rfl
theorem laws_FnPacked.bits20 : waitsOk laws_FnPacked.T20.2 laws_FnPacked.B20 = true := by kernel_rfl
def laws_FnPacked.T22 : Bool × List (List Nat × List Nat) := (true, [([], []), ([0], [0]), ([1, 1], [1]), ([2], [2]), ([3, 2], [2, 3]), ([2], [2]), ([5, 2], [2, 5]), ([4, 6, 2], [2, 4, 6]), ([2, 7], [2, 7]), ([8, 2], [8]), ([9], [9]), ([10, 9], [9, 10]), ([9], [9]), ([12, 9], [9, 12]), ([11, 13, 9], [9, 11, 13]), ([9, 14], [9, 14]), ([15, 9], [15]), ([16], [16]), ([16], [16]), ([17, 18, 16, 16], [16, 17, 18]), ([16], [16]), ([19, 20, 19, 16], [16, 19, 20]), ([16, 21], [16, 21]), ([22, 21, 0, 1, 2, 3, 4, 5, 6, 7, 8, 9, 10, 11, 12, 13, 14, 15, 16, 17, 18, 19, 20, 21, 22], [22])])
def laws_FnPacked.B22 : List Nat := [0, 1, 3, 7, 15, 7, 39, 127, 255, 511, 1023, 2047, 1023, 5119, 16383, 32767, 65535, 131071, 131071, 524287, 131071, 2097151, 4194303, 8388607]
theorem laws_FnPacked.tab22 : rtab .any (opsOf Try.f13 22) = laws_FnPacked.T22 := by kernel_rfl
theorem laws_FnPacked.bits22 : waitsOk laws_FnPacked.T22.2 laws_FnPacked.B22 = true := by kernel_rfl
end
end Go.Proofs.Ythkepjgolaichaa.Q
