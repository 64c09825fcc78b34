/- Made by a program of ours out of the print of the loaded functions: for each of some functions a plain function, and the walk that shows that a call comes to what it says. No condition but those of each theorem. -/
import Derived.Test.YtgkeapbeogmfjaaZXMakerPut0
import Derived.Test.YtgkeapbeogmfjaaZXMakerPuta
import Derived.Test.YtgkeapbeogmfjaaZXMakerPutb
namespace Go.Proofs.Ytgkeapbeogmfjaa.Q
open Go.RowKit Go.Proofs.YtgkeapbeogmfjaaW.PrintWords Go.Proofs.YtgkeapbeogmfjaaW.PrintLast Go.Proofs.YtgkeapbeogmfjaaW.PrintMore
attribute [local go_sem] max2_int min2_int max_two min_two max_three min_three max_four min_four   -- for this text's walks alone
set_option linter.unusedVariables false
set_option linter.unusedSimpArgs false

/-! ### spec_MakerPut: function 71 -/
abbrev spec_MakerPut.m0 : Array Bool := #[true, true, true, true, true, true, true, true, true, true, false, false, false]
mutual
def spec_MakerPut.j0 : Nat → Int → Int → Int → Int → Int → Int → Int → Int → List (S_Mark) → Int → Int → Int → Int → List (S_Mark) → Option (Int × Int × Int × Int × (List (S_Mark)))
 | 0, _, _, _, _, _, _, _, _, _, _, _, _, _, _ => none
 | k + 1, x1, x2, x3, x4, x1096000, x1096001, x1096002, x1096003, x1096004, x1105000, x1105001, x1105002, x1105003, x1105004 => if x2 > x1096002 then (spec_MakerPut.j1 k x1 x2 x3 x4 x1105000 x1105001 x1105002 x1105003 ([] : List (S_Mark))) else (spec_MakerPut.j1 k x1 x2 x3 x4 x1105000 x1105001 x1105002 x1105003 x1105004)
def spec_MakerPut.j1 : Nat → Int → Int → Int → Int → Int → Int → Int → Int → List (S_Mark) → Option (Int × Int × Int × Int × (List (S_Mark)))
 | 0, _, _, _, _, _, _, _, _, _ => none
 | k + 1, x1, x2, x3, x4, x1105000, x1105001, x1105002, x1105003, x1105004 => if x1105004.length < 8796093022208 then ((some (x1105004 ++ [(⟨x3, x4⟩ : S_Mark)] : List (S_Mark))).bind fun y1107 => ((spec_l1Max.f x1 0).bind fun t1110 => (if (y1107.length : Int) > t1110 then ((some (([] : List (S_Mark)) : List (S_Mark))).bind fun y1111 => ((spec_l1Max.f x1 0).bind fun t1114 => (if 0 ≤ (wrap64 ((y1107.length : Int) - t1114)) then (if (wrap64 ((y1107.length : Int) - t1114)) ≤ (y1107.length : Int) then ((some (y1107.drop ((wrap64 ((y1107.length : Int) - t1114)) : Int).toNat : List (S_Mark))).bind fun y1115 => (if y1111.length + y1115.length < 8796093022208 then (some (x1105000, x1105001, x2, x3, (y1111 ++ y1115))) else (none))) else (none)) else (none)))) else (some (x1105000, x1105001, x2, x3, y1107))))) else (none)
end
def spec_MakerPut.f (k : Nat) (a0_0 : Int) (a0_1 : Int) (a0_2 : Int) (a0_3 : Int) (l0_4 : List (S_Mark)) (a1 : Int) (a2 : Int) (a3 : Int) (a4 : Int) : Option (Int × Int × Int × Int × (List (S_Mark))) := (spec_l4Copy.f a0_0 a0_1 a0_2 a0_3 l0_4).bind fun bt1097 => ((spec_MakerAsk.f k a0_0 a0_1 a0_2 a0_3 l0_4 a2 a3).bind fun bt1105 => (if bt1105.1 = 0 then (spec_MakerPut.j0 k a1 a2 a3 a4 a0_0 a0_1 a0_2 a0_3 l0_4 bt1097.1 bt1097.2.1 bt1097.2.2.1 bt1097.2.2.2.1 bt1097.2.2.2.2) else (some (bt1097.1, bt1097.2.1, bt1097.2.2.1, bt1097.2.2.2.1, bt1097.2.2.2.2))))
theorem spec_MakerPut.mono_l : ∀ k, (∀ y0 y1 y2 y3 y4 y5 y6 y7 y8 y9 y10 y11 y12 y13, LeO (spec_MakerPut.j0 k y0 y1 y2 y3 y4 y5 y6 y7 y8 y9 y10 y11 y12 y13) (spec_MakerPut.j0 (k + 1) y0 y1 y2 y3 y4 y5 y6 y7 y8 y9 y10 y11 y12 y13)) ∧ (∀ y0 y1 y2 y3 y4 y5 y6 y7 y8, LeO (spec_MakerPut.j1 k y0 y1 y2 y3 y4 y5 y6 y7 y8) (spec_MakerPut.j1 (k + 1) y0 y1 y2 y3 y4 y5 y6 y7 y8))
 | 0 => ⟨fun _ _ _ _ _ _ _ _ _ _ _ _ _ _ r h => by simp [spec_MakerPut.j0] at h, fun _ _ _ _ _ _ _ _ _ r h => by simp [spec_MakerPut.j1] at h⟩
 | k + 1 => by
  obtain ⟨ih0, ih1⟩ := spec_MakerPut.mono_l k
  refine ⟨?_, ?_⟩
  ·
   intro y0 y1 y2 y3 y4 y5 y6 y7 y8 y9 y10 y11 y12 y13
   unfold spec_MakerPut.j0
   repeat' first
   | (with_reducible exact ih0 _ _ _ _ _ _ _ _ _ _ _ _ _ _)
   | (with_reducible exact ih1 _ _ _ _ _ _ _ _ _)
   | (with_reducible exact spec_MakerAsk.mono _ _ _ _ _ _ _ _)
   | (with_reducible exact LeO.refl _)
   | (with_reducible exact LeO.none _)
   | (with_reducible refine LeO.ite ?_ ?_)
   | (with_reducible refine LeO.bind ?_ (fun _ => ?_))
   | exact ih0 _ _ _ _ _ _ _ _ _ _ _ _ _ _
   | exact ih1 _ _ _ _ _ _ _ _ _
   | exact spec_MakerAsk.mono _ _ _ _ _ _ _ _
   | exact LeO.none _
   | refine LeO.ite ?_ ?_
   | refine LeO.bind ?_ (fun _ => ?_)
  ·
   intro y0 y1 y2 y3 y4 y5 y6 y7 y8
   unfold spec_MakerPut.j1
   repeat' first
   | (with_reducible exact ih0 _ _ _ _ _ _ _ _ _ _ _ _ _ _)
   | (with_reducible exact ih1 _ _ _ _ _ _ _ _ _)
   | (with_reducible exact spec_MakerAsk.mono _ _ _ _ _ _ _ _)
   | (with_reducible exact LeO.refl _)
   | (with_reducible exact LeO.none _)
   | (with_reducible refine LeO.ite ?_ ?_)
   | (with_reducible refine LeO.bind ?_ (fun _ => ?_))
   | exact ih0 _ _ _ _ _ _ _ _ _ _ _ _ _ _
   | exact ih1 _ _ _ _ _ _ _ _ _
   | exact spec_MakerAsk.mono _ _ _ _ _ _ _ _
   | exact LeO.none _
   | refine LeO.ite ?_ ?_
   | refine LeO.bind ?_ (fun _ => ?_)
theorem spec_MakerPut.mono : ∀ a0 a1 a2 a3 a4 a5 a6 a7 a8 k, LeO (spec_MakerPut.f k a0 a1 a2 a3 a4 a5 a6 a7 a8) (spec_MakerPut.f (k + 1) a0 a1 a2 a3 a4 a5 a6 a7 a8) := by
 intro a0 a1 a2 a3 a4 a5 a6 a7 a8 k
 obtain ⟨ih0, ih1⟩ := spec_MakerPut.mono_l k
 unfold spec_MakerPut.f
 repeat' first
  | (with_reducible exact ih0 _ _ _ _ _ _ _ _ _ _ _ _ _ _)
  | (with_reducible exact ih1 _ _ _ _ _ _ _ _ _)
  | (with_reducible exact spec_MakerAsk.mono _ _ _ _ _ _ _ _)
  | (with_reducible exact LeO.refl _)
  | (with_reducible exact LeO.none _)
  | (with_reducible refine LeO.ite ?_ ?_)
  | (with_reducible refine LeO.bind ?_ (fun _ => ?_))
  | exact ih0 _ _ _ _ _ _ _ _ _ _ _ _ _ _
  | exact ih1 _ _ _ _ _ _ _ _ _
  | exact spec_MakerAsk.mono _ _ _ _ _ _ _ _
  | exact LeO.none _
  | refine LeO.ite ?_ ?_
  | refine LeO.bind ?_ (fun _ => ?_)
def spec_MakerPut.T11 : Bool × List (List Nat × List Nat) := (true, [([], []), ([], []), ([1], [1]), ([], []), ([3], [3]), ([4], [4]), ([], []), ([6], [6]), ([5, 7], [5, 7]), ([2, 8], [2, 8]), ([0, 9, 7], [0, 9]), ([0, 1, 2, 3, 4, 5, 6, 7, 8, 9, 10], []), ([11, 10, 10, 0, 1, 2, 3, 4, 5, 6, 7, 8, 9, 10], [10, 11])])
def spec_MakerPut.B11 : List Nat := [0, 0, 2, 0, 8, 24, 0, 64, 248, 510, 1023, 2047, 4095]
theorem spec_MakerPut.tab11 : rtab .any (opsOf Try.f71 11) = spec_MakerPut.T11 := by kernel_rfl
theorem spec_MakerPut.bits11 : waitsOk spec_MakerPut.T11.2 spec_MakerPut.B11 = true := by kernel_rfl
set_option maxHeartbeats 8000000 in
set_option maxRecDepth 100000 in
theorem spec_MakerPut.calls (k : Nat) (a0_0 : Int) (a0_1 : Int) (a0_2 : Int) (a0_3 : Int) (A0_4 : Option Addr) (c0_4 : Nat) (l0_4 : List (S_Mark)) (a1 : Int) (a2 : Int) (a3 : Int) (a4 : Int) (r1 : Int) (r2 : Int) (r3 : Int) (r4 : Int) (r5 : List (S_Mark)) (w : World) (hr0_4 : Kd.C k_Mark w A0_4 l0_4.length l0_4) (hc0_4 : l0_4.length ≤ c0_4) (h : spec_MakerPut.f k a0_0 a0_1 a0_2 a0_3 l0_4 a1 a2 a3 a4 = some (r1, r2, r3, r4, r5)) :
 Calls Try.prog 71 #[.agg #[.int .i64 a0_0, .int .i64 a0_1, .int .i64 a0_2, .int .i64 a0_3, .slice A0_4 l0_4.length c0_4], .int .i64 a1, .int .i64 a2, .int .i64 a3, .int .i64 a4] w fun e w' => ∃ v4_ : Value, e = .returned (.agg #[.int .i64 r1, .int .i64 r2, .int .i64 r3, .int .i64 r4, v4_]) ∧ Kd.R k_Mark 118 w' w.heap.size (fun _ => True) v4_ r5 ∧ Below w.heap.size w w' := by
 have hu54 := Try.underlying54
 have hu118 := Try.underlying118
 have HR0_4 := Aside0.mk hr0_4
 have HC0_4 := Aside0.mk hc0_4
 clear hr0_4 hc0_4
 have HB := Aside0.mk (Below.refl w.heap.size w)
 have H : ((spec_l4Copy.f a0_0 a0_1 a0_2 a0_3 l0_4).bind fun bt1097 => ((spec_MakerAsk.f k a0_0 a0_1 a0_2 a0_3 l0_4 a2 a3).bind fun bt1105 => (if bt1105.1 = 0 then (spec_MakerPut.j0 k a1 a2 a3 a4 a0_0 a0_1 a0_2 a0_3 l0_4 bt1097.1 bt1097.2.1 bt1097.2.2.1 bt1097.2.2.2.1 bt1097.2.2.2.2) else (some (bt1097.1, bt1097.2.1, bt1097.2.2.1, bt1097.2.2.2.1, bt1097.2.2.2.2))))) = some (r1, r2, r3, r4, r5) := h
 clear h
 replace H := Option.bind_eq_some_iff.mp H
 obtain ⟨⟨t1097, t1098, t1099, t1100, t1101⟩, A60, H⟩ := H
 replace H : ((spec_MakerAsk.f k a0_0 a0_1 a0_2 a0_3 l0_4 a2 a3).bind fun bt1105 => (if bt1105.1 = 0 then (spec_MakerPut.j0 k a1 a2 a3 a4 a0_0 a0_1 a0_2 a0_3 l0_4 t1097 t1098 t1099 t1100 t1101) else (some (t1097, t1098, t1099, t1100, t1101)))) = some (r1, r2, r3, r4, r5) := H
 have A6 := Aside0.mk A60
 clear A60
 replace H := Option.bind_eq_some_iff.mp H
 obtain ⟨⟨t1105, t1106⟩, A70, H⟩ := H
 replace H : (if t1105 = 0 then (spec_MakerPut.j0 k a1 a2 a3 a4 a0_0 a0_1 a0_2 a0_3 l0_4 t1097 t1098 t1099 t1100 t1101) else (some (t1097, t1098, t1099, t1100, t1101))) = some (r1, r2, r3, r4, r5) := H
 have A7 := Aside0.mk A70
 clear A70
 have HC8 := Aside0.mk H
 clear H
 go_enter Try.func71, Try.ntmps71
 go_upto_if 24 with (first | ((with_reducible refine gate_dst (N := 5) rfl ?_); refine box_event ?hg (N := 5) ?hd (cs := #[.int .i64 a0_0, .int .i64 a0_1, .int .i64 a0_2, .int .i64 a0_3, .slice A0_4 l0_4.length c0_4]) (t := 54) ?hr ?_; (case hd => rfl); (case hg => rfl); (case hr => first | (go_simp; done) | (go_simp; rfl)); intro gb1095 hg w9 hbox hb; have n0_ := Aside0.mk (below_step (hb_ HB.out) hb); have n1_ := Aside0.mk (hbox); have n2_ := Aside0.mk ((by rw [hg]; exact (below_size (hb_ HB.out)) : w.heap.size ≤ gb1095)); have n3_ := Aside0.mk ((by rw [hg]; exact (below_size (hb_ HB.out)) : w.heap.size ≤ gb1095)); clear HB; have HB := n0_; have BK1095 := n1_; have GW1095 := n2_; have GE1095 := n3_; clear n0_ n1_ n2_ n3_; clear hb hbox hg) | ((with_reducible refine gate_dst (N := 10) rfl ?_); refine box_event ?hg (N := 10) ?hd (cs := #[.int .i64 0, .int .i64 0, .int .i64 0, .int .i64 0, .slice none 0 0]) (t := 54) ?hr ?_; (case hd => rfl); (case hg => rfl); (case hr => first | (go_simp; done) | (go_simp; rfl)); intro gb1096 hg w10 hbox hb; have n0_ := Aside0.mk (bb_ BK1095.out hb); have n1_ := Aside0.mk (below_step (hb_ HB.out) hb); have n2_ := Aside0.mk (hbox); have n3_ := Aside0.mk ((by rw [hg]; exact (below_size (hb_ HB.out)) : w.heap.size ≤ gb1096)); have n4_ := Aside0.mk ((by rw [hg]; exact (below_size (hb_ HB.out)) : w.heap.size ≤ gb1096)); have n5_ := Aside0.mk ((nl_ BK1095.out hg : gb1095 ≠ gb1096)); have n6_ := Aside0.mk ((ng_ BK1095.out hg : gb1096 ≠ gb1095)); clear BK1095; clear HB; have BK1095 := n0_; have HB := n1_; have BK1096 := n2_; have GW1096 := n3_; have GE1096 := n4_; have NB1095_1096 := n5_; have NB1096_1095 := n6_; clear n0_ n1_ n2_ n3_ n4_ n5_ n6_; clear hb hbox hg; have hnb11 := NB1095_1096.out; have hnc11 := NB1096_1095.out; have hcz12_0 : w10.cell? ⟨gb1095, 0, none⟩ = some (.int .i64 a0_0) := (blk_cell BK1095.out 0).trans rfl; have hcz12_1 : w10.cell? ⟨gb1095, 1, none⟩ = some (.int .i64 a0_1) := (blk_cell BK1095.out 1).trans rfl; have hcz12_2 : w10.cell? ⟨gb1095, 2, none⟩ = some (.int .i64 a0_2) := (blk_cell BK1095.out 2).trans rfl; have hcz12_3 : w10.cell? ⟨gb1095, 3, none⟩ = some (.int .i64 a0_3) := (blk_cell BK1095.out 3).trans rfl; have hcz12_4 : w10.cell? ⟨gb1095, 4, none⟩ = some (.slice A0_4 l0_4.length c0_4) := (blk_cell BK1095.out 4).trans rfl; have hfz12_0 := blk_frozen BK1095.out 0; have hfz12_1 := blk_frozen BK1095.out 1; have hfz12_2 := blk_frozen BK1095.out 2; have hfz12_3 := blk_frozen BK1095.out 3; have hfz12_4 := blk_frozen BK1095.out 4) | ((with_reducible refine gate_callee (f := 110) rfl ?_); refine goesL_ (some 15) rfl rfl Try.func110 (by kernel_rfl) rfl #[.agg #[.int .i64 a0_0, .int .i64 a0_1, .int .i64 a0_2, .int .i64 a0_3, .slice A0_4 l0_4.length c0_4]] rfl sm_ ?_; (with_reducible refine (spec_l4Copy.calls a0_0 a0_1 a0_2 a0_3 _ _ l0_4 t1097 t1098 t1099 t1100 t1101 _ ?side1 ?side2 A6.out).mono ?_); (case side1 => repeat (first | exact (Kd.C_below HR0_4.out HB.out) | (with_reducible refine Kd.C_alloc ?_ _) | (with_reducible refine Kd.C_drewN ?_ _) | (with_reducible refine Kd.C_drew ?_))); (case side2 => exact HC0_4.out); rintro e w13 ⟨v1102, rfl, ho0, hb⟩; refine ⟨_, rfl, ?_⟩; have n0_ := Aside0.mk (Kd.R_lower ho0 (below_size (hb_ HB.out))); have n1_ := Aside0.mk (bb_ BK1095.out hb); have n2_ := Aside0.mk (bb_ BK1096.out hb); have n3_ := Aside0.mk (below_step (hb_ HB.out) hb); clear BK1095; clear BK1096; clear HB; have HO1103 := n0_; have BK1095 := n1_; have BK1096 := n2_; have HB := n3_; clear n0_ n1_ n2_ n3_; (try clear hb); (try clear hb2); (try clear hk); (try clear hi); (try clear ho0)) | ((with_reducible refine gate_dst (N := 11) rfl ?_); refine box_event ?hg (N := 11) ?hd (cs := #[.int .i64 0, .int .i64 0, .int .i64 0, .int .i64 0, .slice none 0 0]) (t := 54) ?hr ?_; (case hd => rfl); (case hg => rfl); (case hr => first | (go_simp; done) | (go_simp; rfl)); intro gb1104 hg w14 hbox hb; have n0_ := Aside0.mk (Kd.R_below (rq_ HO1103.out) hb); have n1_ := Aside0.mk (bb_ BK1095.out hb); have n2_ := Aside0.mk (bb_ BK1096.out hb); have n3_ := Aside0.mk (below_step (hb_ HB.out) hb); have n4_ := Aside0.mk (hbox); have n5_ := Aside0.mk ((by rw [hg]; exact (below_size (hb_ HB.out)) : w.heap.size ≤ gb1104)); have n6_ := Aside0.mk ((by rw [hg]; exact (below_size (hb_ HB.out)) : w.heap.size ≤ gb1104)); have n7_ := Aside0.mk ((nl_ BK1095.out hg : gb1095 ≠ gb1104)); have n8_ := Aside0.mk ((ng_ BK1095.out hg : gb1104 ≠ gb1095)); have n9_ := Aside0.mk ((nl_ BK1096.out hg : gb1096 ≠ gb1104)); have n10_ := Aside0.mk ((ng_ BK1096.out hg : gb1104 ≠ gb1096)); clear HO1103; clear BK1095; clear BK1096; clear HB; have HO1103 := n0_; have BK1095 := n1_; have BK1096 := n2_; have HB := n3_; have BK1104 := n4_; have GW1104 := n5_; have GE1104 := n6_; have NB1095_1104 := n7_; have NB1104_1095 := n8_; have NB1096_1104 := n9_; have NB1104_1096 := n10_; clear n0_ n1_ n2_ n3_ n4_ n5_ n6_ n7_ n8_ n9_ n10_; clear hb hbox hg; have hnb15 := NB1104_1095.out; have hnc15 := NB1095_1104.out; have hnb16 := NB1104_1096.out; have hnc16 := NB1096_1104.out; have hcz17_0 : w14.cell? ⟨gb1104, 0, none⟩ = some (.int .i64 0) := (blk_cell BK1104.out 0).trans rfl; have hcz17_1 : w14.cell? ⟨gb1104, 1, none⟩ = some (.int .i64 0) := (blk_cell BK1104.out 1).trans rfl; have hcz17_2 : w14.cell? ⟨gb1104, 2, none⟩ = some (.int .i64 0) := (blk_cell BK1104.out 2).trans rfl; have hcz17_3 : w14.cell? ⟨gb1104, 3, none⟩ = some (.int .i64 0) := (blk_cell BK1104.out 3).trans rfl; have hcz17_4 : w14.cell? ⟨gb1104, 4, none⟩ = some (.slice none 0 0) := (blk_cell BK1104.out 4).trans rfl; have hfz17_0 := blk_frozen BK1104.out 0; have hfz17_1 := blk_frozen BK1104.out 1; have hfz17_2 := blk_frozen BK1104.out 2; have hfz17_3 := blk_frozen BK1104.out 3; have hfz17_4 := blk_frozen BK1104.out 4; obtain ⟨Ao18, co18, eo18⟩ := Kd.R_slice HO1103.out; subst eo18; have hcz19_0 : w14.cell? ⟨gb1095, 0, none⟩ = some (.int .i64 a0_0) := (blk_cell BK1095.out 0).trans rfl; have hcz19_1 : w14.cell? ⟨gb1095, 1, none⟩ = some (.int .i64 a0_1) := (blk_cell BK1095.out 1).trans rfl; have hcz19_2 : w14.cell? ⟨gb1095, 2, none⟩ = some (.int .i64 a0_2) := (blk_cell BK1095.out 2).trans rfl; have hcz19_3 : w14.cell? ⟨gb1095, 3, none⟩ = some (.int .i64 a0_3) := (blk_cell BK1095.out 3).trans rfl; have hcz19_4 : w14.cell? ⟨gb1095, 4, none⟩ = some (.slice A0_4 l0_4.length c0_4) := (blk_cell BK1095.out 4).trans rfl; have hfz19_0 := blk_frozen BK1095.out 0; have hfz19_1 := blk_frozen BK1095.out 1; have hfz19_2 := blk_frozen BK1095.out 2; have hfz19_3 := blk_frozen BK1095.out 3; have hfz19_4 := blk_frozen BK1095.out 4) | ((with_reducible refine gate_callee (f := 27) rfl ?_); refine goesL_ (some 20) rfl rfl Try.func27 (by kernel_rfl) rfl #[.agg #[.int .i64 a0_0, .int .i64 a0_1, .int .i64 a0_2, .int .i64 a0_3, .slice A0_4 l0_4.length c0_4], .int .i64 a2, .int .i64 a3] rfl sm_ ?_; (with_reducible refine (spec_MakerAsk.calls k a0_0 a0_1 a0_2 a0_3 _ _ l0_4 a2 a3 t1105 t1106 _ ?side1 ?side2 A7.out).mono ?_); (case side1 => exact Kd.C_below HR0_4.out (hb_ HB.out)); (case side2 => exact HC0_4.out); rintro e w20 ⟨rfl, hb⟩; refine ⟨_, rfl, ?_⟩; have n0_ := Aside0.mk (Kd.R_below (rk_ HO1103.out BK1104.out) hb); have n1_ := Aside0.mk (blk_below (g := gb1095) (o := .cells #[.int .i64 a0_0, .int .i64 a0_1, .int .i64 a0_2, .int .i64 a0_3, .slice A0_4 l0_4.length c0_4] 54 (0, 0)) (bf_ NB1095_1104.out BK1095.out) hb); have n2_ := Aside0.mk (blk_below (g := gb1096) (o := .cells #[.int .i64 0, .int .i64 0, .int .i64 0, .int .i64 0, .slice none 0 0] 54 (0, 0)) (bf_ NB1096_1104.out BK1096.out) hb); have n3_ := Aside0.mk (blk_below (g := gb1104) (o := .cells #[.int .i64 t1097, .int .i64 t1098, .int .i64 t1099, .int .i64 t1100, .slice Ao18 t1101.length co18] 54 (0, 0)) (bp_ BK1104.out) hb); have n4_ := Aside0.mk (below_step (hb_ HB.out) hb); clear HO1103; clear BK1095; clear BK1096; clear BK1104; clear HB; have HO1103 := n0_; have BK1095 := n1_; have BK1096 := n2_; have BK1104 := n3_; have HB := n4_; clear n0_ n1_ n2_ n3_ n4_; (try clear hb); (try clear hb2); (try clear hk); (try clear hi)))
 (try simp only [Act.put, List.setIfInBounds_toArray, List.set_cons_zero, List.set_cons_succ])
 go_cut [] (fun wc => ∃ (kq : Nat) (x1097000_7 : Int) (x1097001_7 : Int) (x1097002_7 : Int) (x1097003_7 : Int), Aside0 (spec_MakerPut.j0 kq a1 a2 a3 a4 a0_0 a0_1 a0_2 a0_3 l0_4 t1097 t1098 t1099 t1100 t1101 = some (r1, r2, r3, r4, r5)) ∧ Aside0 (kq ≤ k) ∧ Aside0 (Kd.R k_Mark 118 wc w.heap.size (fun _ => True) (.slice Ao18 t1101.length co18) t1101) ∧ Aside0 (wc.heap[gb1095]? = some (.cells #[.int .i64 a0_0, .int .i64 a0_1, .int .i64 a0_2, .int .i64 a0_3, (.slice A0_4 l0_4.length c0_4)] 54 (0, 0))) ∧ Aside0 (wc.heap[gb1096]? = some (.cells #[.int .i64 x1097000_7, .int .i64 x1097001_7, .int .i64 x1097002_7, .int .i64 x1097003_7, (.slice none 0 0)] 54 (0, 0))) ∧ Aside0 (wc.heap[gb1104]? = some (.cells #[.int .i64 t1097, .int .i64 t1098, .int .i64 t1099, .int .i64 t1100, (.slice Ao18 t1101.length co18)] 54 (0, 0))) ∧ Aside0 (Below w.heap.size w wc))
 case first =>
  have H := HC8.out
  clear HC8
  by_cases c21 : t1105 = 0
  ·
   rw [if_pos c21] at H
   have c21b0 : (t1105 == 0) = true := beq_iff_eq.mpr c21
   have c21b1 : (t1105 != 0) = false := bne_eq_false_iff_eq.mpr c21
   clear c21
   (first | rw [c21b0] | (simp only [i64_w, i32_w]; rw [c21b0]) | rw [c21b4] | rw [c21b3] | skip)
   have H' := Aside0.mk H
   clear H
   go_wp2
   go_meet
   case rel => exact ⟨_, (0), (0), (0), (0), H', ⟨by first | omega | exact Nat.le_refl _⟩, ⟨rq_ HO1103.out⟩, ⟨bq_ BK1095.out⟩, ⟨bq_ BK1096.out⟩, ⟨bq_ BK1104.out⟩, ⟨hb_ HB.out⟩⟩
  ·
   rw [if_neg c21] at H
   have c21b0 : (t1105 == 0) = false := beq_eq_false_iff_ne.mpr c21
   have c21b1 : (t1105 != 0) = true := bne_iff_ne.mpr c21
   (first | rw [c21b0] | (simp only [i64_w, i32_w]; rw [c21b0]) | rw [c21b4] | rw [c21b3] | skip)
   simp only [Option.some.injEq, Prod.mk.injEq] at H
   obtain ⟨rfl, rfl, rfl, rfl, rfl⟩ := H
   have hnb22 := NB1104_1095.out
   have hnc22 := NB1095_1104.out
   have hnb23 := NB1104_1096.out
   have hnc23 := NB1096_1104.out
   have hcz24_0 : w20.cell? ⟨gb1104, 0, none⟩ = some (.int .i64 t1097) := (blk_cell BK1104.out 0).trans rfl
   have hcz24_1 : w20.cell? ⟨gb1104, 1, none⟩ = some (.int .i64 t1098) := (blk_cell BK1104.out 1).trans rfl
   have hcz24_2 : w20.cell? ⟨gb1104, 2, none⟩ = some (.int .i64 t1099) := (blk_cell BK1104.out 2).trans rfl
   have hcz24_3 : w20.cell? ⟨gb1104, 3, none⟩ = some (.int .i64 t1100) := (blk_cell BK1104.out 3).trans rfl
   have hcz24_4 : w20.cell? ⟨gb1104, 4, none⟩ = some (.slice Ao18 t1101.length co18) := (blk_cell BK1104.out 4).trans rfl
   have hfz24_0 := blk_frozen BK1104.out 0
   have hfz24_1 := blk_frozen BK1104.out 1
   have hfz24_2 := blk_frozen BK1104.out 2
   have hfz24_3 := blk_frozen BK1104.out 3
   have hfz24_4 := blk_frozen BK1104.out 4
   have hnb25 := NB1096_1095.out
   have hnc25 := NB1095_1096.out
   have hcz26_0 : w20.cell? ⟨gb1096, 0, none⟩ = some (.int .i64 0) := (blk_cell BK1096.out 0).trans rfl
   have hcz26_1 : w20.cell? ⟨gb1096, 1, none⟩ = some (.int .i64 0) := (blk_cell BK1096.out 1).trans rfl
   have hcz26_2 : w20.cell? ⟨gb1096, 2, none⟩ = some (.int .i64 0) := (blk_cell BK1096.out 2).trans rfl
   have hcz26_3 : w20.cell? ⟨gb1096, 3, none⟩ = some (.int .i64 0) := (blk_cell BK1096.out 3).trans rfl
   have hcz26_4 : w20.cell? ⟨gb1096, 4, none⟩ = some (.slice none 0 0) := (blk_cell BK1096.out 4).trans rfl
   have hfz26_0 := blk_frozen BK1096.out 0
   have hfz26_1 := blk_frozen BK1096.out 1
   have hfz26_2 := blk_frozen BK1096.out 2
   have hfz26_3 := blk_frozen BK1096.out 3
   have hfz26_4 := blk_frozen BK1096.out 4
   go_wp2
   refine bodyPost_ret (results_cell_row rfl _ _ gb1096 54 #[.int .i64 t1097, .int .i64 t1098, .int .i64 t1099, .int .i64 t1100, .slice Ao18 t1101.length co18] (0, 0) _ rfl (bp_ BK1096.out) Try.underlying54 rfl (by kernel_rfl)) rfl ?_
   exact ⟨_, er_, by (with_reducible repeat (first | apply Kd.R_alloc | apply Kd.R_drewN | apply Kd.R_drew)); exact Kd.R_mono (Kd.R_far (p := ⟨gb1096, 4, none⟩) (Kd.R_far (p := ⟨gb1096, 3, none⟩) (Kd.R_far (p := ⟨gb1096, 2, none⟩) (Kd.R_far (p := ⟨gb1096, 1, none⟩) (Kd.R_far (p := ⟨gb1096, 0, none⟩) (Kd.R_types HO1103.out BK1096.out (by decide)) (fun _ hk => hk.2) (.int .i64 t1097)) (fun _ hk => hk.2) (.int .i64 t1098)) (fun _ hk => hk.2) (.int .i64 t1099)) (fun _ hk => hk.2) (.int .i64 t1100)) (fun _ hk => hk.2) (.slice Ao18 t1101.length co18)) (fun _ hk => trivial), hb_ HB.out⟩
 case rest =>
  clear HC8
  (try clear c1); (try clear c2); (try clear p2); (try clear c7); (try clear c11); (try clear c15); (try clear c16); (try clear c21); (try clear c21b0); (try clear c21b1); (try clear c22); (try clear c23); (try clear c25); (try clear hcz12_0); (try clear hcz12_1); (try clear hcz12_2); (try clear hcz12_3); (try clear hcz12_4); (try clear hcz17_0); (try clear hcz17_1); (try clear hcz17_2); (try clear hcz17_3); (try clear hcz17_4); (try clear hcz19_0); (try clear hcz19_1); (try clear hcz19_2); (try clear hcz19_3); (try clear hcz19_4); (try clear hcz24_0); (try clear hcz24_1); (try clear hcz24_2); (try clear hcz24_3); (try clear hcz24_4); (try clear hcz26_0); (try clear hcz26_1); (try clear hcz26_2); (try clear hcz26_3); (try clear hcz26_4); (try clear hfz12_0); (try clear hfz12_1); (try clear hfz12_2); (try clear hfz12_3); (try clear hfz12_4); (try clear hfz17_0); (try clear hfz17_1); (try clear hfz17_2); (try clear hfz17_3); (try clear hfz17_4); (try clear hfz19_0); (try clear hfz19_1); (try clear hfz19_2); (try clear hfz19_3); (try clear hfz19_4); (try clear hfz24_0); (try clear hfz24_1); (try clear hfz24_2); (try clear hfz24_3); (try clear hfz24_4); (try clear hfz26_0); (try clear hfz26_1); (try clear hfz26_2); (try clear hfz26_3); (try clear hfz26_4)
  obtain ⟨kq, x1097000_7, x1097001_7, x1097002_7, x1097003_7, HA, HJ7, HO_1105004, BK1095, BK1096, BK1104, HB⟩ := hcut
  cases kq with
  | zero => exact absurd HA.out (by simp [spec_MakerPut.j0])
  | succ kj7 =>
   have H := HA.out
   clear HA
   simp only [spec_MakerPut.j0] at H
   have HC27 := Aside0.mk H
   clear H
   have hnb28 := NB1095_1096.out
   have hnc28 := NB1096_1095.out
   have hnb29 := NB1095_1104.out
   have hnc29 := NB1104_1095.out
   have hcz30_0 : wc.cell? ⟨gb1095, 0, none⟩ = some (.int .i64 a0_0) := (blk_cell BK1095.out 0).trans rfl
   have hcz30_1 : wc.cell? ⟨gb1095, 1, none⟩ = some (.int .i64 a0_1) := (blk_cell BK1095.out 1).trans rfl
   have hcz30_2 : wc.cell? ⟨gb1095, 2, none⟩ = some (.int .i64 a0_2) := (blk_cell BK1095.out 2).trans rfl
   have hcz30_3 : wc.cell? ⟨gb1095, 3, none⟩ = some (.int .i64 a0_3) := (blk_cell BK1095.out 3).trans rfl
   have hcz30_4 : wc.cell? ⟨gb1095, 4, none⟩ = some (.slice A0_4 l0_4.length c0_4) := (blk_cell BK1095.out 4).trans rfl
   have hfz30_0 := blk_frozen BK1095.out 0
   have hfz30_1 := blk_frozen BK1095.out 1
   have hfz30_2 := blk_frozen BK1095.out 2
   have hfz30_3 := blk_frozen BK1095.out 3
   have hfz30_4 := blk_frozen BK1095.out 4
   go_upto_if 29 with (fail)
   go_cut [] (fun wc => ∃ (kq : Nat) (x1105004_26 : List (S_Mark)) (u1105004 : Value), Aside0 (spec_MakerPut.j1 kq a1 a2 a3 a4 t1097 t1098 t1099 t1100 x1105004_26 = some (r1, r2, r3, r4, r5)) ∧ Aside0 (kq ≤ kj7) ∧ Aside0 (Kd.R k_Mark 118 wc w.heap.size (fun _ => True) u1105004 x1105004_26) ∧ Aside0 (wc.heap[gb1095]? = some (.cells #[.int .i64 a0_0, .int .i64 a0_1, .int .i64 a0_2, .int .i64 a0_3, (.slice A0_4 l0_4.length c0_4)] 54 (0, 0))) ∧ Aside0 (wc.heap[gb1096]? = some (.cells #[.int .i64 x1097000_7, .int .i64 x1097001_7, .int .i64 x1097002_7, .int .i64 x1097003_7, (.slice none 0 0)] 54 (0, 0))) ∧ Aside0 (wc.heap[gb1104]? = some (.cells #[.int .i64 t1097, .int .i64 t1098, .int .i64 t1099, .int .i64 t1100, u1105004] 54 (0, 0))) ∧ Aside0 (Below w.heap.size w wc))
   case first =>
    have H := HC27.out
    clear HC27
    by_cases c31 : a2 > a0_2
    ·
     rw [if_pos c31] at H
     have c31b0 : decide (a0_2 < a2) = true := decide_eq_true c31
     clear c31
     (first | rw [c31b0] | (simp only [i64_w, i32_w]; rw [c31b0]) | rw [c31b4] | rw [c31b3] | skip)
     have H' := Aside0.mk H
     clear H
     have hnb32 := NB1104_1095.out
     have hnc32 := NB1095_1104.out
     have hnb33 := NB1104_1096.out
     have hnc33 := NB1096_1104.out
     have hcz34_0 : wc.cell? ⟨gb1104, 0, none⟩ = some (.int .i64 t1097) := (blk_cell BK1104.out 0).trans rfl
     have hcz34_1 : wc.cell? ⟨gb1104, 1, none⟩ = some (.int .i64 t1098) := (blk_cell BK1104.out 1).trans rfl
     have hcz34_2 : wc.cell? ⟨gb1104, 2, none⟩ = some (.int .i64 t1099) := (blk_cell BK1104.out 2).trans rfl
     have hcz34_3 : wc.cell? ⟨gb1104, 3, none⟩ = some (.int .i64 t1100) := (blk_cell BK1104.out 3).trans rfl
     have hcz34_4 : wc.cell? ⟨gb1104, 4, none⟩ = some (.slice Ao18 t1101.length co18) := (blk_cell BK1104.out 4).trans rfl
     have hfz34_0 := blk_frozen BK1104.out 0
     have hfz34_1 := blk_frozen BK1104.out 1
     have hfz34_2 := blk_frozen BK1104.out 2
     have hfz34_3 := blk_frozen BK1104.out 3
     have hfz34_4 := blk_frozen BK1104.out 4
     go_wp2
     go_meet
     case rel => exact ⟨_, (([] : List (S_Mark))), (.slice none 0 0), H', ⟨by have := HJ7.out; first | omega | exact Nat.le_refl _⟩, ⟨by first | exact Kd.R_nil _ _ _ _ _ | exact Kd.N_nil _ _ _ _ _ | exact Kd.V_nil _ _ _ _ _ | exact Kd.Q_nil _ _ _ _ _ | exact Kd.S_nil _ _ _ _ _⟩, ⟨by (with_reducible repeat (first | refine blk_drewN ?_ _ | refine blk_drew ?_ | refine blk_alloc ?_ _)); refine blk_far ?_ NB1095_1104.out _; (with_reducible repeat (first | refine blk_drewN ?_ _ | refine blk_drew ?_ | refine blk_alloc ?_ _)); exact BK1095.out⟩, ⟨by (with_reducible repeat (first | refine blk_drewN ?_ _ | refine blk_drew ?_ | refine blk_alloc ?_ _)); refine blk_far ?_ NB1096_1104.out _; (with_reducible repeat (first | refine blk_drewN ?_ _ | refine blk_drew ?_ | refine blk_alloc ?_ _)); exact BK1096.out⟩, ⟨by (with_reducible repeat (first | refine blk_drewN ?_ _ | refine blk_drew ?_ | refine blk_alloc ?_ _)); refine blk_put (cs := #[.int .i64 t1097, .int .i64 t1098, .int .i64 t1099, .int .i64 t1100, .slice Ao18 t1101.length co18]) ?_ 4 _ rfl; (with_reducible repeat (first | refine blk_drewN ?_ _ | refine blk_drew ?_ | refine blk_alloc ?_ _)); exact BK1104.out⟩, ⟨hb_ HB.out⟩⟩
    ·
     rw [if_neg c31] at H
     have c31b0 : decide (a0_2 < a2) = false := decide_eq_false c31
     clear c31
     (first | rw [c31b0] | (simp only [i64_w, i32_w]; rw [c31b0]) | rw [c31b4] | rw [c31b3] | skip)
     have H' := Aside0.mk H
     clear H
     go_wp2
     go_meet
     case rel => exact ⟨_, (t1101), (.slice Ao18 t1101.length co18), H', ⟨by have := HJ7.out; first | omega | exact Nat.le_refl _⟩, ⟨rq_ HO_1105004.out⟩, ⟨bq_ BK1095.out⟩, ⟨bq_ BK1096.out⟩, ⟨bq_ BK1104.out⟩, ⟨hb_ HB.out⟩⟩
   case rest =>
    clear HC27
    (try clear c1); (try clear c2); (try clear p2); (try clear c3); (try clear c7); (try clear c11); (try clear c15); (try clear c16); (try clear c21); (try clear c21b0); (try clear c21b1); (try clear c22); (try clear c23); (try clear c25); (try clear c27); (try clear c28); (try clear c29); (try clear c31); (try clear c31b0); (try clear c32); (try clear c33); (try clear hcz12_0); (try clear hcz12_1); (try clear hcz12_2); (try clear hcz12_3); (try clear hcz12_4); (try clear hcz17_0); (try clear hcz17_1); (try clear hcz17_2); (try clear hcz17_3); (try clear hcz17_4); (try clear hcz19_0); (try clear hcz19_1); (try clear hcz19_2); (try clear hcz19_3); (try clear hcz19_4); (try clear hcz24_0); (try clear hcz24_1); (try clear hcz24_2); (try clear hcz24_3); (try clear hcz24_4); (try clear hcz26_0); (try clear hcz26_1); (try clear hcz26_2); (try clear hcz26_3); (try clear hcz26_4); (try clear hcz30_0); (try clear hcz30_1); (try clear hcz30_2); (try clear hcz30_3); (try clear hcz30_4); (try clear hcz34_0); (try clear hcz34_1); (try clear hcz34_2); (try clear hcz34_3); (try clear hcz34_4); (try clear hfz12_0); (try clear hfz12_1); (try clear hfz12_2); (try clear hfz12_3); (try clear hfz12_4); (try clear hfz17_0); (try clear hfz17_1); (try clear hfz17_2); (try clear hfz17_3); (try clear hfz17_4); (try clear hfz19_0); (try clear hfz19_1); (try clear hfz19_2); (try clear hfz19_3); (try clear hfz19_4); (try clear hfz24_0); (try clear hfz24_1); (try clear hfz24_2); (try clear hfz24_3); (try clear hfz24_4); (try clear hfz26_0); (try clear hfz26_1); (try clear hfz26_2); (try clear hfz26_3); (try clear hfz26_4); (try clear hfz30_0); (try clear hfz30_1); (try clear hfz30_2); (try clear hfz30_3); (try clear hfz30_4); (try clear hfz34_0); (try clear hfz34_1); (try clear hfz34_2); (try clear hfz34_3); (try clear hfz34_4); (try clear p2)
    obtain ⟨kq, x1105004_26, u1105004, HA, HJ26, HO_1105004, BK1095, BK1096, BK1104, HB⟩ := hcut
    cases kq with
    | zero => exact absurd HA.out (by simp [spec_MakerPut.j1])
    | succ kj26 =>
     have H := HA.out
     clear HA
     simp only [spec_MakerPut.j1] at H
     by_cases c35 : x1105004_26.length < 8796093022208
     ·
      rw [if_pos c35] at H
      have LMc35 := Aside0.mk c35
      clear c35
      obtain ⟨y1107, hy1107⟩ : ∃ y_ : List (S_Mark), y_ = (x1105004_26 ++ [(⟨a3, a4⟩ : S_Mark)]) := ⟨_, rfl⟩
      replace H : ((spec_l1Max.f a1 0).bind fun t1110 => (if (y1107.length : Int) > t1110 then ((some (([] : List (S_Mark)) : List (S_Mark))).bind fun y1111 => ((spec_l1Max.f a1 0).bind fun t1114 => (if 0 ≤ (wrap64 ((y1107.length : Int) - t1114)) then (if (wrap64 ((y1107.length : Int) - t1114)) ≤ (y1107.length : Int) then ((some (y1107.drop ((wrap64 ((y1107.length : Int) - t1114)) : Int).toNat : List (S_Mark))).bind fun y1115 => (if y1111.length + y1115.length < 8796093022208 then (some (t1097, t1098, a2, a3, (y1111 ++ y1115))) else (none))) else (none)) else (none)))) else (some (t1097, t1098, a2, a3, y1107)))) = some (r1, r2, r3, r4, r5) := by first | (rw [hy1107]; with_reducible exact H) | (have H2_ := (Option.bind_some _ _).symm.trans H; rw [hy1107]; with_reducible exact H2_) | (have H2_ := (Option.bind_some _ _).symm.trans H; with_reducible exact H2_) | with_reducible exact H | (rw [hy1107]; exact H) | exact H
      have Ny1107 := Aside0.mk hy1107
      clear hy1107
      replace H := Option.bind_eq_some_iff.mp H
      obtain ⟨t1110, A360, H⟩ := H
      replace H : (if (y1107.length : Int) > t1110 then ((some (([] : List (S_Mark)) : List (S_Mark))).bind fun y1111 => ((spec_l1Max.f a1 0).bind fun t1114 => (if 0 ≤ (wrap64 ((y1107.length : Int) - t1114)) then (if (wrap64 ((y1107.length : Int) - t1114)) ≤ (y1107.length : Int) then ((some (y1107.drop ((wrap64 ((y1107.length : Int) - t1114)) : Int).toNat : List (S_Mark))).bind fun y1115 => (if y1111.length + y1115.length < 8796093022208 then (some (t1097, t1098, a2, a3, (y1111 ++ y1115))) else (none))) else (none)) else (none)))) else (some (t1097, t1098, a2, a3, y1107))) = some (r1, r2, r3, r4, r5) := H
      have A36 := Aside0.mk A360
      clear A360
      by_cases c37 : (y1107.length : Int) > t1110
      ·
       rw [if_pos c37] at H
       have c37b0 : decide (t1110 < (y1107.length : Int)) = true := decide_eq_true c37
       clear c37
       obtain ⟨y1111, hy1111⟩ : ∃ y_ : List (S_Mark), y_ = (([] : List (S_Mark))) := ⟨_, rfl⟩
       replace H : ((spec_l1Max.f a1 0).bind fun t1114 => (if 0 ≤ (wrap64 ((y1107.length : Int) - t1114)) then (if (wrap64 ((y1107.length : Int) - t1114)) ≤ (y1107.length : Int) then ((some (y1107.drop ((wrap64 ((y1107.length : Int) - t1114)) : Int).toNat : List (S_Mark))).bind fun y1115 => (if y1111.length + y1115.length < 8796093022208 then (some (t1097, t1098, a2, a3, (y1111 ++ y1115))) else (none))) else (none)) else (none))) = some (r1, r2, r3, r4, r5) := by first | (rw [hy1111]; with_reducible exact H) | (have H2_ := (Option.bind_some _ _).symm.trans H; rw [hy1111]; with_reducible exact H2_) | (have H2_ := (Option.bind_some _ _).symm.trans H; with_reducible exact H2_) | with_reducible exact H | (rw [hy1111]; exact H) | exact H
       have Ny1111 := Aside0.mk hy1111
       clear hy1111
       replace H := Option.bind_eq_some_iff.mp H
       obtain ⟨t1114, A380, H⟩ := H
       replace H : (if 0 ≤ (wrap64 ((y1107.length : Int) - t1114)) then (if (wrap64 ((y1107.length : Int) - t1114)) ≤ (y1107.length : Int) then ((some (y1107.drop ((wrap64 ((y1107.length : Int) - t1114)) : Int).toNat : List (S_Mark))).bind fun y1115 => (if y1111.length + y1115.length < 8796093022208 then (some (t1097, t1098, a2, a3, (y1111 ++ y1115))) else (none))) else (none)) else (none)) = some (r1, r2, r3, r4, r5) := H
       have A38 := Aside0.mk A380
       clear A380
       obtain ⟨ji39, hji39⟩ : ∃ j_ : Int, (wrap64 ((y1107.length : Int) - t1114)) = j_ := ⟨_, rfl⟩
       replace H : (if 0 ≤ (ji39) then (if (ji39) ≤ (y1107.length : Int) then ((some (y1107.drop ((ji39) : Int).toNat : List (S_Mark))).bind fun y1115 => (if y1111.length + y1115.length < 8796093022208 then (some (t1097, t1098, a2, a3, (y1111 ++ y1115))) else (none))) else (none)) else (none)) = some (r1, r2, r3, r4, r5) := by first | (rw [hji39] at H; exact H) | (simp only [hji39] at H ⊢; exact H)
       (try rw [hji39] at A36)
       (try rw [hji39] at A38)
       have hji39w : (IntKind.i64.wrap ((y1107.length : Int) - t1114)) = ji39 := (i64_w _).trans hji39
       by_cases c40 : 0 ≤ (ji39)
       ·
        rw [if_pos c40] at H
        have c40b0 := eq_true c40
        have c40b1 : decide (0 ≤ (ji39)) = true := decide_eq_true c40
        clear c40
        by_cases c41 : (ji39) ≤ (y1107.length : Int)
        ·
         rw [if_pos c41] at H
         have c41b0 := eq_true c41
         have c41b1 : decide ((ji39) ≤ (y1107.length : Int)) = true := decide_eq_true c41
         clear c41
         obtain ⟨y1115, hy1115⟩ : ∃ y_ : List (S_Mark), y_ = (y1107.drop ((ji39) : Int).toNat) := ⟨_, rfl⟩
         replace H : (if y1111.length + y1115.length < 8796093022208 then (some (t1097, t1098, a2, a3, (y1111 ++ y1115))) else (none)) = some (r1, r2, r3, r4, r5) := by first | (rw [hy1115]; with_reducible exact H) | (have H2_ := (Option.bind_some _ _).symm.trans H; rw [hy1115]; with_reducible exact H2_) | (have H2_ := (Option.bind_some _ _).symm.trans H; with_reducible exact H2_) | with_reducible exact H | (rw [hy1115]; exact H) | exact H
         have Ny1115 := Aside0.mk hy1115
         clear hy1115
         by_cases c42 : y1111.length + y1115.length < 8796093022208
         ·
          rw [if_pos c42] at H
          have LMc42 := Aside0.mk c42
          clear c42
          obtain ⟨y1119, hy1119⟩ : ∃ y_ : List (S_Mark), y_ = (y1111 ++ y1115) := ⟨_, rfl⟩
          replace H : (some (t1097, t1098, a2, a3, y1119)) = some (r1, r2, r3, r4, r5) := by first | (rw [hy1119]; with_reducible exact H) | (have H2_ := (Option.bind_some _ _).symm.trans H; rw [hy1119]; with_reducible exact H2_) | (have H2_ := (Option.bind_some _ _).symm.trans H; with_reducible exact H2_) | with_reducible exact H | (rw [hy1119]; exact H) | exact H
          have Ny1119 := Aside0.mk hy1119
          clear hy1119
          simp only [Option.some.injEq, Prod.mk.injEq] at H
          obtain ⟨rfl, rfl, rfl, rfl, rfl⟩ := H
          have hnb43 := NB1104_1095.out
          have hnc43 := NB1095_1104.out
          have hnb44 := NB1104_1096.out
          have hnc44 := NB1096_1104.out
          have hcz45_0 : wc.cell? ⟨gb1104, 0, none⟩ = some (.int .i64 t1097) := (blk_cell BK1104.out 0).trans rfl
          have hcz45_1 : wc.cell? ⟨gb1104, 1, none⟩ = some (.int .i64 t1098) := (blk_cell BK1104.out 1).trans rfl
          have hcz45_2 : wc.cell? ⟨gb1104, 2, none⟩ = some (.int .i64 t1099) := (blk_cell BK1104.out 2).trans rfl
          have hcz45_3 : wc.cell? ⟨gb1104, 3, none⟩ = some (.int .i64 t1100) := (blk_cell BK1104.out 3).trans rfl
          have hcz45_4 : wc.cell? ⟨gb1104, 4, none⟩ = some (u1105004) := (blk_cell BK1104.out 4).trans rfl
          have hfz45_0 := blk_frozen BK1104.out 0
          have hfz45_1 := blk_frozen BK1104.out 1
          have hfz45_2 := blk_frozen BK1104.out 2
          have hfz45_3 := blk_frozen BK1104.out 3
          have hfz45_4 := blk_frozen BK1104.out 4
          try go_wp2_with (first | ((with_reducible refine gate_builtin (b := .append) (xs := #[.tmp 36, .tmp 40]) rfl ?_); at_builtin; refine Kd.R_append k_Mark (w0 := w) w.heap.size rfl (.tmp 36) (.tmp 40) 52 118 (.agg #[(.int .i64 0), (.int .i64 0)]) 16 rfl Try.underlying52 info118 rfl (by decide) (by omega) u1105004 x1105004_26 (⟨a3, a4⟩ : S_Mark) [.int .i64 a3, .int .i64 a4] (fun _ => True) (fun _ => False) rfl (by first | (go_simp; done) | (go_simp; rfl)) ?aP (fun _ hk => hk.elim) ?aF ?aO ?aB ?aS ?aL ?_; (case aP => exact k_Mark_mkM _ _ _ (⟨a3, a4⟩ : S_Mark)); (case aB => exact (hb_ HB.out)); (case aF => exact (fun _ _ => trivial)); (case aO => exact (by (with_reducible repeat (first | apply Kd.R_alloc | apply Kd.R_drewN | apply Kd.R_drew)); exact Kd.R_mono (Kd.R_far (p := ⟨gb1104, 3, none⟩) (Kd.R_far (p := ⟨gb1104, 2, none⟩) (Kd.R_types HO_1105004.out BK1104.out (by decide)) (fun _ hk => hk.2) (.int .i64 a2)) (fun _ hk => hk.2) (.int .i64 a3)) (fun _ hk => trivial))); (case aS => exact (below_size (hb_ HB.out))); (case aL => have := LMc35.out; omega); intro v1108 w46 ho hb hg hat; rw [← Ny1107.out] at ho; have n0_ := Aside0.mk (blk_grown (g := gb1095) (o := .cells #[.int .i64 a0_0, .int .i64 a0_1, .int .i64 a0_2, .int .i64 a0_3, .slice A0_4 l0_4.length c0_4] 54 (0, 0)) (bf_ NB1095_1104.out BK1095.out) hg (Kd.R_ne HO_1105004.out BK1095.out (by decide))); have n1_ := Aside0.mk (blk_grown (g := gb1096) (o := .cells #[.int .i64 x1097000_7, .int .i64 x1097001_7, .int .i64 x1097002_7, .int .i64 x1097003_7, .slice none 0 0] 54 (0, 0)) (bf_ NB1096_1104.out BK1096.out) hg (Kd.R_ne HO_1105004.out BK1096.out (by decide))); have n2_ := Aside0.mk (blk_grown (g := gb1104) (o := .cells #[.int .i64 t1097, .int .i64 t1098, .int .i64 a2, .int .i64 a3, u1105004] 54 (0, 0)) (bp_ BK1104.out) hg (Kd.R_ne HO_1105004.out BK1104.out (by decide))); have n3_ := Aside0.mk (hb); have n4_ := Aside0.mk (ho); clear BK1095; clear BK1096; clear BK1104; clear HB; clear HO_1105004; have BK1095 := n0_; have BK1096 := n1_; have BK1104 := n2_; have HB := n3_; have HO1109 := n4_; clear n0_ n1_ n2_ n3_ n4_; clear ho hb hg hat; obtain ⟨Ao47, co47, eo47⟩ := Kd.R_slice HO1109.out; subst eo47; have hcz48_0 : w46.cell? ⟨gb1104, 0, none⟩ = some (.int .i64 t1097) := (blk_cell BK1104.out 0).trans rfl; have hcz48_1 : w46.cell? ⟨gb1104, 1, none⟩ = some (.int .i64 t1098) := (blk_cell BK1104.out 1).trans rfl; have hcz48_2 : w46.cell? ⟨gb1104, 2, none⟩ = some (.int .i64 a2) := (blk_cell BK1104.out 2).trans rfl; have hcz48_3 : w46.cell? ⟨gb1104, 3, none⟩ = some (.int .i64 a3) := (blk_cell BK1104.out 3).trans rfl; have hcz48_4 : w46.cell? ⟨gb1104, 4, none⟩ = some (u1105004) := (blk_cell BK1104.out 4).trans rfl; have hfz48_0 := blk_frozen BK1104.out 0; have hfz48_1 := blk_frozen BK1104.out 1; have hfz48_2 := blk_frozen BK1104.out 2; have hfz48_3 := blk_frozen BK1104.out 3; have hfz48_4 := blk_frozen BK1104.out 4))
          have n0_ : Aside0 (Kd.R k_Mark 118 (w46.setCell ⟨gb1104, 4, none⟩ (.slice Ao47 y1107.length co47)) w.heap.size (fun _ => True) (.slice Ao47 y1107.length co47) y1107) := ⟨by (with_reducible repeat (first | apply Kd.R_alloc | apply Kd.R_drewN | apply Kd.R_drew)); exact Kd.R_mono (Kd.R_far (p := ⟨gb1104, 4, none⟩) (Kd.R_types HO1109.out BK1104.out (by decide)) (fun _ hk => hk.2) (.slice Ao47 y1107.length co47)) (fun _ hk => trivial)⟩
          have n1_ : Aside0 ((w46.setCell ⟨gb1104, 4, none⟩ (.slice Ao47 y1107.length co47)).heap[gb1095]? = some (.cells #[.int .i64 a0_0, .int .i64 a0_1, .int .i64 a0_2, .int .i64 a0_3, .slice A0_4 l0_4.length c0_4] 54 (0, 0))) := ⟨by (with_reducible repeat (first | refine blk_drewN ?_ _ | refine blk_drew ?_ | refine blk_alloc ?_ _)); refine blk_far ?_ NB1095_1104.out _; (with_reducible repeat (first | refine blk_drewN ?_ _ | refine blk_drew ?_ | refine blk_alloc ?_ _)); exact BK1095.out⟩
          have n2_ : Aside0 ((w46.setCell ⟨gb1104, 4, none⟩ (.slice Ao47 y1107.length co47)).heap[gb1096]? = some (.cells #[.int .i64 x1097000_7, .int .i64 x1097001_7, .int .i64 x1097002_7, .int .i64 x1097003_7, .slice none 0 0] 54 (0, 0))) := ⟨by (with_reducible repeat (first | refine blk_drewN ?_ _ | refine blk_drew ?_ | refine blk_alloc ?_ _)); refine blk_far ?_ NB1096_1104.out _; (with_reducible repeat (first | refine blk_drewN ?_ _ | refine blk_drew ?_ | refine blk_alloc ?_ _)); exact BK1096.out⟩
          have n3_ : Aside0 ((w46.setCell ⟨gb1104, 4, none⟩ (.slice Ao47 y1107.length co47)).heap[gb1104]? = some (.cells #[.int .i64 t1097, .int .i64 t1098, .int .i64 a2, .int .i64 a3, .slice Ao47 y1107.length co47] 54 (0, 0))) := ⟨by (with_reducible repeat (first | refine blk_drewN ?_ _ | refine blk_drew ?_ | refine blk_alloc ?_ _)); refine blk_put (cs := #[.int .i64 t1097, .int .i64 t1098, .int .i64 a2, .int .i64 a3, u1105004]) ?_ 4 _ rfl; (with_reducible repeat (first | refine blk_drewN ?_ _ | refine blk_drew ?_ | refine blk_alloc ?_ _)); exact BK1104.out⟩
          have n4_ : Aside0 (Below w.heap.size w (w46.setCell ⟨gb1104, 4, none⟩ (.slice Ao47 y1107.length co47))) := ⟨hb_ HB.out⟩
          (try clear HO1109)
          (try clear BK1095)
          (try clear BK1096)
          (try clear BK1104)
          (try clear HB)
          generalize (w46.setCell ⟨gb1104, 4, none⟩ (.slice Ao47 y1107.length co47)) = w49 at n0_ n1_ n2_ n3_ n4_ ⊢
          have HO1109 := n0_
          have BK1095 := n1_
          have BK1096 := n2_
          have BK1104 := n3_
          have HB := n4_
          clear n0_ n1_ n2_ n3_ n4_
          have n0_ := Aside0.mk (Kd.R_drew HO1109.out)
          have n1_ := Aside0.mk (blk_drew BK1095.out)
          have n2_ := Aside0.mk (blk_drew BK1096.out)
          have n3_ := Aside0.mk (blk_drew BK1104.out)
          have n4_ := Aside0.mk (below_drew1 HB.out)
          clear HO1109; clear BK1095
          clear BK1096; clear BK1104
          clear HB
          have HO1109 := n0_
          have BK1095 := n1_
          have BK1096 := n2_
          have BK1104 := n3_
          have HB := n4_
          clear n0_ n1_ n2_ n3_ n4_
          refine start_ (n := 6) (S := fun w' => w'.cell? ⟨gb1104, 0, none⟩ = some (.int .i64 t1097) ∧ w'.cell? ⟨gb1104, 1, none⟩ = some (.int .i64 t1098) ∧ w'.cell? ⟨gb1104, 2, none⟩ = some (.int .i64 a2) ∧ w'.cell? ⟨gb1104, 3, none⟩ = some (.int .i64 a3) ∧ w'.cell? ⟨gb1104, 4, none⟩ = some (.slice Ao47 y1107.length co47)) (ds := []) #[false, false, false, false, false, false] (by kernel_rfl) rfl rfl ⟨(blk_cell BK1104.out 0).trans rfl, (blk_cell BK1104.out 1).trans rfl, (blk_cell BK1104.out 2).trans rfl, (blk_cell BK1104.out 3).trans rfl, (blk_cell BK1104.out 4).trans rfl⟩ (fun hHeld => ?_)
          generalize w49.drew = w50 at HO1109 BK1095 BK1096 BK1104 HB hHeld ⊢
          refine pure_ (i := 0) (N := some 43) (v := ?_) (a' := ?_) #[true, false, false, false, false, false] rfl rfl (by kernel_rfl) (fun _ _ _ h => h) (Or.inl ⟨by rfl, ?_⟩) ?_ ?_; rotate_left; (focus intro w'; go_simp; with_reducible rfl); rotate_left; (focus simp only [Act.put, List.setIfInBounds_toArray, List.set_cons_zero, List.set_cons_succ, i64_w, i32_w]; rfl)
          refine pure_ (i := 3) (N := some 46) (v := ?_) (a' := ?_) #[true, false, false, true, false, false] rfl rfl (by kernel_rfl) (fun _ _ _ h => h) (Or.inl ⟨by rfl, ?_⟩) ?_ ?_; rotate_left; (focus intro w'; go_simp; with_reducible rfl); rotate_left; (focus simp only [Act.put, List.setIfInBounds_toArray, List.set_cons_zero, List.set_cons_succ, i64_w, i32_w]; rfl)
          refine take_ (i := 1) (N := some 44) (v := ?_) (a' := ?_) #[true, true, false, true, false, false] rfl rfl (by kernel_rfl) (fun _ _ _ h => h) (Or.inl ⟨by rfl, ?_⟩) hHeld ?_ ?_
          rotate_left
          ·
           rintro w' ⟨s0, s1, s2, s3, s4⟩
           go_simp
           with_reducible rfl
          rotate_left; (focus simp only [Act.put, List.setIfInBounds_toArray, List.set_cons_zero, List.set_cons_succ, i64_w, i32_w]; rfl)
          refine pure_ (i := 2) (N := some 45) (v := ?_) (a' := ?_) #[true, true, true, true, false, false] rfl rfl (by kernel_rfl) (fun _ _ _ h => h) (Or.inl ⟨by rfl, ?_⟩) ?_ ?_; rotate_left; (focus intro w'; go_simp; with_reducible rfl); rotate_left; (focus simp only [Act.put, List.setIfInBounds_toArray, List.set_cons_zero, List.set_cons_succ, i64_w, i32_w]; rfl)
          refine one_ (i := 4) (N := some 47) #[true, true, true, true, true, false] rfl rfl (by kernel_rfl) (by decide) (fun K hK => ?_)
          refine goes_ Try.func113 (by kernel_rfl) rfl #[.int .i64 a1, .int .i64 0] (by rfl) rfl rfl sm_ ?_
          with_reducible refine (spec_l1Max.calls a1 0 t1110 _ A36.out).mono ?_
          rintro e w' ⟨rfl, ⟨nd, rfl⟩⟩
          refine ⟨_, rfl, ?_⟩
          refine hK.out _ _ ⟨(blk_cell BK1104.out 0).trans rfl, (blk_cell BK1104.out 1).trans rfl, (blk_cell BK1104.out 2).trans rfl, (blk_cell BK1104.out 3).trans rfl, (blk_cell BK1104.out 4).trans rfl⟩ (fun hHeld => ?_)
          clear hK K
          refine norm_ (a' := ?_) ?_ ?_
          rotate_left
          ·
           show Act.put _ (some 47) _ = _
           simp only [Act.put, List.setIfInBounds_toArray, List.set_cons_zero, List.set_cons_succ, i64_w, i32_w]
           rfl
          refine pure_ (i := 5) (N := some 48) (v := ?_) (a' := ?_) #[true, true, true, true, true, true] rfl rfl (by kernel_rfl) (fun _ _ _ h => h) (Or.inl ⟨by rfl, ?_⟩) ?_ ?_; rotate_left; (focus intro w'; go_simp; with_reducible rfl); rotate_left; (focus simp only [Act.put, List.setIfInBounds_toArray, List.set_cons_zero, List.set_cons_succ, i64_w, i32_w]; rfl)
          refine done_ (by kernel_rfl) ?_
          try go_wp2
          (try (rw [drewN_self w50]; generalize hq_ : World.drewN w50 _ = w50; have n0_ : Aside0 (Kd.R k_Mark 118 w50 w.heap.size (fun _ => True) (.slice Ao47 y1107.length co47) y1107) := ⟨by rw [← hq_]; exact (rq_ HO1109.out)⟩; have n1_ : Aside0 (w50.heap[gb1095]? = some (.cells #[.int .i64 a0_0, .int .i64 a0_1, .int .i64 a0_2, .int .i64 a0_3, .slice A0_4 l0_4.length c0_4] 54 (0, 0))) := ⟨by rw [← hq_]; exact (bq_ BK1095.out)⟩; have n2_ : Aside0 (w50.heap[gb1096]? = some (.cells #[.int .i64 x1097000_7, .int .i64 x1097001_7, .int .i64 x1097002_7, .int .i64 x1097003_7, .slice none 0 0] 54 (0, 0))) := ⟨by rw [← hq_]; exact (bq_ BK1096.out)⟩; have n3_ : Aside0 (w50.heap[gb1104]? = some (.cells #[.int .i64 t1097, .int .i64 t1098, .int .i64 a2, .int .i64 a3, .slice Ao47 y1107.length co47] 54 (0, 0))) := ⟨by rw [← hq_]; exact (bq_ BK1104.out)⟩; have n4_ : Aside0 (Below w.heap.size w w50) := ⟨by rw [← hq_]; exact (hb_ HB.out)⟩; clear HO1109 BK1095 BK1096 BK1104 HB hq_; have HO1109 := n0_; have BK1095 := n1_; have BK1096 := n2_; have BK1104 := n3_; have HB := n4_; clear n0_ n1_ n2_ n3_ n4_))
          have n0_ := Aside0.mk (Kd.R_drew HO1109.out)
          have n1_ := Aside0.mk (blk_drew BK1095.out)
          have n2_ := Aside0.mk (blk_drew BK1096.out)
          have n3_ := Aside0.mk (blk_drew BK1104.out)
          have n4_ := Aside0.mk (below_drew1 HB.out)
          clear HO1109; clear BK1095
          clear BK1096; clear BK1104
          clear HB
          have HO1109 := n0_
          have BK1095 := n1_
          have BK1096 := n2_
          have BK1104 := n3_
          have HB := n4_
          clear n0_ n1_ n2_ n3_ n4_
          refine start_ (n := 13) (S := fun w' => w'.cell? ⟨gb1104, 0, none⟩ = some (.int .i64 t1097) ∧ w'.cell? ⟨gb1104, 1, none⟩ = some (.int .i64 t1098) ∧ w'.cell? ⟨gb1104, 2, none⟩ = some (.int .i64 a2) ∧ w'.cell? ⟨gb1104, 3, none⟩ = some (.int .i64 a3) ∧ w'.cell? ⟨gb1104, 4, none⟩ = some (.slice Ao47 y1107.length co47)) (ds := [12]) #[false, false, false, false, false, false, false, false, false, false, false, false, false] (by kernel_rfl) rfl rfl ⟨(blk_cell BK1104.out 0).trans rfl, (blk_cell BK1104.out 1).trans rfl, (blk_cell BK1104.out 2).trans rfl, (blk_cell BK1104.out 3).trans rfl, (blk_cell BK1104.out 4).trans rfl⟩ (fun hHeld => ?_); refine with_tabW spec_MakerPut.tab11 spec_MakerPut.bits11 (fun HT_ HW_ => ?_)
          generalize w50.drew = w51 at HO1109 BK1095 BK1096 BK1104 HB hHeld ⊢
          refine pI_ 1 50 HT_ #[false, true, false, false, false, false, false, false, false, false, false, false, false] rfl rfl ?_
          refine pI_ 3 52 HT_ #[false, true, false, true, false, false, false, false, false, false, false, false, false] rfl rfl ?_
          refine pI_ 6 55 HT_ #[false, true, false, true, false, false, true, false, false, false, false, false, false] rfl rfl ?_
          refine take_ (i := 2) (N := some 51) (v := ?_) (a' := ?_) #[false, true, true, true, false, false, true, false, false, false, false, false, false] rfl rfl (take_ofW HT_.out HW_.out (by kernel_rfl)) (fun _ _ _ h => h) (Or.inl ⟨by rfl, ?_⟩) hHeld ?_ ?_
          rotate_left
          ·
           rintro w' ⟨s0, s1, s2, s3, s4⟩
           go_simp
           with_reducible rfl
          rotate_left; (focus simp only [Act.put, List.setIfInBounds_toArray, List.set_cons_zero, List.set_cons_succ, i64_w, i32_w]; rfl)
          refine take_ (i := 4) (N := some 53) (v := ?_) (a' := ?_) #[false, true, true, true, true, false, true, false, false, false, false, false, false] rfl rfl (take_ofW HT_.out HW_.out (by kernel_rfl)) (fun _ _ _ h => h) (Or.inl ⟨by rfl, ?_⟩) hHeld ?_ ?_
          rotate_left
          ·
           rintro w' ⟨s0, s1, s2, s3, s4⟩
           go_simp
           with_reducible rfl
          rotate_left; (focus simp only [Act.put, List.setIfInBounds_toArray, List.set_cons_zero, List.set_cons_succ, i64_w, i32_w]; rfl)
          refine pI_ 5 54 HT_ #[false, true, true, true, true, true, true, false, false, false, false, false, false] rfl rfl ?_
          have q55 : ((ji39) : Int) ≤ ((y1107.length : Int) : Int) := of_decide_eq_true (by first | (with_reducible assumption) | assumption)
          obtain ⟨i055, hi055, _, hsz55, _⟩ := info_parts info118
          have q055 : (0 : Int) ≤ ((ji39) : Int) := of_decide_eq_true (by first | (with_reducible assumption) | assumption)
          have hcut55 := cut_from (P := Try.prog) 52 118 .i64 Try.underlying52 hi055 2 hsz55 Ao47 y1107.length co47 (ji39) q055 q55
          obtain ⟨A55, hA55⟩ : ∃ A1, A1 = (if co47 = ((ji39) : Int).toNat then Ao47 else (Ao47 : Option Addr).map (·.add (((ji39) : Int).toNat * 2))) := ⟨_, rfl⟩
          obtain ⟨c55, hc55⟩ : ∃ c1, c1 = co47 - ((ji39) : Int).toNat := ⟨_, rfl⟩
          have hy55 : y1115.length = y1107.length - ((ji39) : Int).toNat := (by rw [Ny1115.out, List.length_drop] <;> omega)
          rw [← hy55, ← hA55, ← hc55] at hcut55
          have KA55 := Aside0.mk hA55
          have KC55 := Aside0.mk hc55
          clear hy55 hA55 hc55 hi055 hsz55
          replace q55 := eq_true q55
          refine join_ (σ := Value) 3 spec_MakerPut.m0 (fun s_ => [(49, s_), (56, .int .i64 t1114), (57, .int .i64 ji39), (58, .slice A55 y1115.length c55)]) (fun s_ w' => (w'.cell? ⟨gb1104, 0, none⟩ = some (.int .i64 t1097) ∧ w'.cell? ⟨gb1104, 1, none⟩ = some (.int .i64 t1098) ∧ w'.cell? ⟨gb1104, 2, none⟩ = some (.int .i64 a2) ∧ w'.cell? ⟨gb1104, 3, none⟩ = some (.int .i64 a3) ∧ w'.cell? ⟨gb1104, 4, none⟩ = some (.slice Ao47 y1107.length co47)) ∧ (Kd.R k_Mark 118 w' w.heap.size (fun k_ => some k_ ≠ (s_ : Value).ownBlock) (.slice Ao47 y1107.length co47) y1107) ∧ (Kd.R k_Mark 118 w' w.heap.size (fun k_ => some k_ ≠ (.slice Ao47 y1107.length co47 : Value).ownBlock) s_ y1111) ∧ (w'.heap[gb1095]? = some (.cells #[.int .i64 a0_0, .int .i64 a0_1, .int .i64 a0_2, .int .i64 a0_3, .slice A0_4 l0_4.length c0_4] 54 (0, 0))) ∧ (w'.heap[gb1096]? = some (.cells #[.int .i64 x1097000_7, .int .i64 x1097001_7, .int .i64 x1097002_7, .int .i64 x1097003_7, .slice none 0 0] 54 (0, 0))) ∧ (w'.heap[gb1104]? = some (.cells #[.int .i64 t1097, .int .i64 t1098, .int .i64 a2, .int .i64 a3, .slice Ao47 y1107.length co47] 54 (0, 0))) ∧ (Below w.heap.size w w')) ?_ ?_
          rotate_left
          ·
           intro hCont
           refine two_ (i := 0) (j := 7) (Ni := some 49) (Nj := some 56) #[true, true, true, true, true, true, true, false, false, false, false, false, false] #[false, true, true, true, true, true, true, true, false, false, false, false, false] rfl rfl rfl rfl (two_of HT_.out (by kernel_rfl)) (by decide) (by decide) (fun K hK => ?_) (fun K hK => ?_)
           ·
            skip
            refine Kd.R_lit_step k_Mark _ 118 ?hg (N := 49) ?hd (xs := ([] : List (S_Mark))) (inner := []) (ok := fun _ => True) (okp := fun _ => True) ?hr ?hp (fun _ hk => hk) trivial (Below.refl _ _) (Nat.le_refl _) (by simp) ?_; (case hd => rfl); (case hg => rfl); (case hr => first | (go_simp; done) | (go_simp; rfl)); (case hp => exact (Reps.none _ _))
            intro v1112 w52 ho53 hb hg_ hnew_
            clear hg_ hnew_
            (first | rw [← Ny1111.out] at ho53 | (simp only [Int.reduceToNat] at ho53; rw [← Ny1111.out] at ho53))
            have n0_ := Aside0.mk (Kd.R_elder' (rq_ HO1109.out) (Kd.R_base ho53) hb)
            have n1_ := Aside0.mk (Kd.R_lower (Kd.R_new' ho53 (Kd.R_lt (rq_ HO1109.out))) (below_size (hb_ HB.out)))
            have n2_ := Aside0.mk (bb_ BK1095.out hb)
            have n3_ := Aside0.mk (bb_ BK1096.out hb)
            have n4_ := Aside0.mk (bb_ BK1104.out hb)
            have n5_ := Aside0.mk (below_step (hb_ HB.out) hb)
            clear HO1109; clear BK1095
            clear BK1096; clear BK1104
            clear HB
            have HO1109 := n0_
            have HO1113 := n1_
            have BK1095 := n2_
            have BK1096 := n3_
            have BK1104 := n4_
            have HB := n5_
            clear n0_ n1_ n2_ n3_ n4_ n5_; clear hb ho53
            refine hK.out _ _ ⟨(blk_cell BK1104.out 0).trans rfl, (blk_cell BK1104.out 1).trans rfl, (blk_cell BK1104.out 2).trans rfl, (blk_cell BK1104.out 3).trans rfl, (blk_cell BK1104.out 4).trans rfl⟩ (fun hHeld => ?_)
            clear hK K
            refine norm_ (a' := ?_) ?_ ?_
            rotate_left
            ·
             show Act.put _ (some 49) _ = _
             simp only [Act.put, List.setIfInBounds_toArray, List.set_cons_zero, List.set_cons_succ, i64_w, i32_w]
             rfl
            refine one_ (i := 7) (N := some 56) #[true, true, true, true, true, true, true, true, false, false, false, false, false] rfl rfl (one_of HT_.out (by kernel_rfl)) (by decide) (fun K hK => ?_)
            refine goes_ Try.func113 (by kernel_rfl) rfl #[.int .i64 a1, .int .i64 0] (by rfl) rfl rfl sm_ ?_
            with_reducible refine (spec_l1Max.calls a1 0 t1114 _ A38.out).mono ?_
            rintro e w' ⟨rfl, ⟨nd, rfl⟩⟩
            refine ⟨_, rfl, ?_⟩
            refine hK.out _ _ ⟨(blk_cell BK1104.out 0).trans rfl, (blk_cell BK1104.out 1).trans rfl, (blk_cell BK1104.out 2).trans rfl, (blk_cell BK1104.out 3).trans rfl, (blk_cell BK1104.out 4).trans rfl⟩ (fun hHeld => ?_)
            clear hK K
            refine norm_ (a' := ?_) ?_ ?_
            rotate_left
            ·
             show Act.put _ (some 56) _ = _
             simp only [Act.put, List.setIfInBounds_toArray, List.set_cons_zero, List.set_cons_succ, i64_w, i32_w]
             rfl
            refine pI_ 8 57 HT_ #[true, true, true, true, true, true, true, true, true, false, false, false, false] rfl rfl ?_
            refine pI_ 9 58 HT_ spec_MakerPut.m0 rfl rfl ?_
            exact norm_ (by simp only [putAll, Act.put, List.setIfInBounds_toArray, List.set_cons_zero, List.set_cons_succ]) (hCont (v1112) _ ⟨hHeld, (rm_ HO1109.out), (rm_ HO1113.out), (bq_ BK1095.out), (bq_ BK1096.out), (bq_ BK1104.out), (hb_ HB.out)⟩)
           ·
            skip
            refine goes_ Try.func113 (by kernel_rfl) rfl #[.int .i64 a1, .int .i64 0] (by rfl) rfl rfl sm_ ?_
            with_reducible refine (spec_l1Max.calls a1 0 t1114 _ A38.out).mono ?_
            rintro e w' ⟨rfl, ⟨nd, rfl⟩⟩
            refine ⟨_, rfl, ?_⟩
            refine hK.out _ _ ⟨(blk_cell BK1104.out 0).trans rfl, (blk_cell BK1104.out 1).trans rfl, (blk_cell BK1104.out 2).trans rfl, (blk_cell BK1104.out 3).trans rfl, (blk_cell BK1104.out 4).trans rfl⟩ (fun hHeld => ?_)
            clear hK K
            refine norm_ (a' := ?_) ?_ ?_
            rotate_left
            ·
             show Act.put _ (some 56) _ = _
             simp only [Act.put, List.setIfInBounds_toArray, List.set_cons_zero, List.set_cons_succ, i64_w, i32_w]
             rfl
            refine pI_ 8 57 HT_ #[false, true, true, true, true, true, true, true, true, false, false, false, false] rfl rfl ?_
            refine pI_ 9 58 HT_ #[false, true, true, true, true, true, true, true, true, true, false, false, false] rfl rfl ?_
            refine one_ (i := 0) (N := some 49) spec_MakerPut.m0 rfl rfl (one_of HT_.out (by kernel_rfl)) (by decide) (fun K hK => ?_)
            refine Kd.R_lit_step k_Mark _ 118 ?hg (N := 49) ?hd (xs := ([] : List (S_Mark))) (inner := []) (ok := fun _ => True) (okp := fun _ => True) ?hr ?hp (fun _ hk => hk) trivial (Below.refl _ _) (Nat.le_refl _) (by simp) ?_; (case hd => rfl); (case hg => rfl); (case hr => first | (go_simp; done) | (go_simp; rfl)); (case hp => exact (Reps.none _ _))
            intro v1112 w52 ho53 hb hg_ hnew_
            clear hg_ hnew_
            (first | rw [← Ny1111.out] at ho53 | (simp only [Int.reduceToNat] at ho53; rw [← Ny1111.out] at ho53))
            have n0_ := Aside0.mk (Kd.R_elder' (rq_ HO1109.out) (Kd.R_base ho53) hb)
            have n1_ := Aside0.mk (Kd.R_lower (Kd.R_new' ho53 (Kd.R_lt (rq_ HO1109.out))) (below_size (hb_ HB.out)))
            have n2_ := Aside0.mk (bb_ BK1095.out hb)
            have n3_ := Aside0.mk (bb_ BK1096.out hb)
            have n4_ := Aside0.mk (bb_ BK1104.out hb)
            have n5_ := Aside0.mk (below_step (hb_ HB.out) hb)
            clear HO1109; clear BK1095
            clear BK1096; clear BK1104
            clear HB
            have HO1109 := n0_
            have HO1113 := n1_
            have BK1095 := n2_
            have BK1096 := n3_
            have BK1104 := n4_
            have HB := n5_
            clear n0_ n1_ n2_ n3_ n4_ n5_; clear hb ho53
            refine hK.out _ _ ⟨(blk_cell BK1104.out 0).trans rfl, (blk_cell BK1104.out 1).trans rfl, (blk_cell BK1104.out 2).trans rfl, (blk_cell BK1104.out 3).trans rfl, (blk_cell BK1104.out 4).trans rfl⟩ (fun hHeld => ?_)
            clear hK K
            refine norm_ (a' := ?_) ?_ ?_
            rotate_left
            ·
             show Act.put _ (some 49) _ = _
             simp only [Act.put, List.setIfInBounds_toArray, List.set_cons_zero, List.set_cons_succ, i64_w, i32_w]
             rfl
            exact norm_ (by simp only [putAll, Act.put, List.setIfInBounds_toArray, List.set_cons_zero, List.set_cons_succ]) (hCont (v1112) _ ⟨hHeld, (rm_ HO1109.out), (rm_ HO1113.out), (bq_ BK1095.out), (bq_ BK1096.out), (bq_ BK1104.out), (hb_ HB.out)⟩)
          rintro v1112 w54 ⟨hS_, h0_, h1_, h2_, h3_, h4_, h5_⟩
          have n0_ : Aside0 (Kd.R k_Mark 118 w54 w.heap.size (fun k_ => some k_ ≠ (v1112 : Value).ownBlock) (.slice Ao47 y1107.length co47) y1107) := ⟨h0_⟩
          have n1_ : Aside0 (Kd.R k_Mark 118 w54 w.heap.size (fun k_ => some k_ ≠ (.slice Ao47 y1107.length co47 : Value).ownBlock) v1112 y1111) := ⟨h1_⟩
          have n2_ : Aside0 (w54.heap[gb1095]? = some (.cells #[.int .i64 a0_0, .int .i64 a0_1, .int .i64 a0_2, .int .i64 a0_3, .slice A0_4 l0_4.length c0_4] 54 (0, 0))) := ⟨h2_⟩
          have n3_ : Aside0 (w54.heap[gb1096]? = some (.cells #[.int .i64 x1097000_7, .int .i64 x1097001_7, .int .i64 x1097002_7, .int .i64 x1097003_7, .slice none 0 0] 54 (0, 0))) := ⟨h3_⟩
          have n4_ : Aside0 (w54.heap[gb1104]? = some (.cells #[.int .i64 t1097, .int .i64 t1098, .int .i64 a2, .int .i64 a3, .slice Ao47 y1107.length co47] 54 (0, 0))) := ⟨h4_⟩
          have n5_ : Aside0 (Below w.heap.size w w54) := ⟨h5_⟩
          clear HO1109; clear BK1095
          clear BK1096; clear BK1104
          clear HB; clear h0_ h1_ h2_ h3_ h4_ h5_
          have HO1109 := n0_
          have HO1113 := n1_
          have BK1095 := n2_
          have BK1096 := n3_
          have BK1104 := n4_
          have HB := n5_
          clear n0_ n1_ n2_ n3_ n4_ n5_
          have hHeld : w54.cell? ⟨gb1104, 0, none⟩ = some (.int .i64 t1097) ∧ w54.cell? ⟨gb1104, 1, none⟩ = some (.int .i64 t1098) ∧ w54.cell? ⟨gb1104, 2, none⟩ = some (.int .i64 a2) ∧ w54.cell? ⟨gb1104, 3, none⟩ = some (.int .i64 a3) ∧ w54.cell? ⟨gb1104, 4, none⟩ = some (.slice Ao47 y1107.length co47) := hS_
          have q55o : ((ji39) : Int) ≤ ((y1107.length : Int) : Int) := of_eq_true q55
          have hroom55 : y1107.length ≤ co47 := (Kd.R_reads' HO1109.out).2.1
          have hC55 : Kd.C k_Mark _ Ao47 y1107.length y1107 := (Kd.R_reads' HO1109.out).2.2
          have hr55 := Kd.C_drop (m := ((ji39) : Int).toNat) (c := co47) hC55 (by omega) hroom55
          have hA55 := KA55.out
          have hc55 := KC55.out
          have hy55 : y1115.length = y1107.length - ((ji39) : Int).toNat := (by rw [Ny1115.out, List.length_drop] <;> omega)
          rw [show (y1107).drop ((ji39) : Int).toNat = y1115 from Ny1115.out.symm] at hr55
          replace hr55 : Kd.C k_Mark _ A55 y1115.length y1115 := (by rw [hA55]; exact hr55)
          have HR1118 := Aside0.mk hr55
          have HC1118 := Aside0.mk (show y1115.length ≤ c55 from by rw [hy55, hc55]; exact Nat.sub_le_sub_right hroom55 _)
          have KY55 := Aside0.mk hy55
          have KL55 := Aside0.mk (show ((ji39) : Int).toNat ≤ y1107.length from by omega)
          clear hr55 hC55 hroom55 hc55 hy55 hA55 q55o
          refine norm_ (a' := ?_) ?_ ?_
          rotate_left; (focus simp only [putAll, Act.put, List.setIfInBounds_toArray, List.set_cons_zero, List.set_cons_succ]; rfl)
          refine one_ (i := 10) (N := some 59) #[true, true, true, true, true, true, true, true, true, true, true, false, false] rfl rfl (one_of HT_.out (by kernel_rfl)) (by decide) (fun K hK => ?_)
          refine Kd.R_append_rows_step k_Mark (w0 := w) w.heap.size (by rfl) (.tmp 49) (.tmp 58) 52 118 (.agg #[(.int .i64 0), (.int .i64 0)]) 16 rfl Try.underlying52 info118 rfl (by decide) (by omega) v1112 y1111 y1115 _ _ _ (fun k_ => some k_ ≠ (.slice Ao47 y1107.length co47 : Value).ownBlock) (fun _ => False) rfl rfl ?aO ?aR (fun _ _ h => h) (fun _ h => h.elim) ?aF ?aB ?aS ?aL ?_
          (case aR => repeat (first | exact (by repeat (first | (with_reducible exact HR1118.out) | (with_reducible refine Kd.C_alloc ?_ _) | (with_reducible refine Kd.C_drewN ?_ _) | (with_reducible refine Kd.C_drew ?_) | exact HR1118.out)) | (with_reducible refine Kd.C_alloc ?_ _) | (with_reducible refine Kd.C_drewN ?_ _) | (with_reducible refine Kd.C_drew ?_)))
          (case aB => exact (hb_ HB.out))
          (case aF => exact (fun k_ hk => Kd.fresh' (Kd.R_lt (rq_ HO1109.out)) k_ hk))
          (case aO => exact (rq_ HO1113.out))
          (case aS => exact (below_size (hb_ HB.out)))
          (case aL => have := LMc42.out; omega)
          intro v1120 w56 ho hb hg hat
          rw [← Ny1119.out] at ho
          have n0_ := Aside0.mk (blk_grown (g := gb1095) (o := .cells #[.int .i64 a0_0, .int .i64 a0_1, .int .i64 a0_2, .int .i64 a0_3, .slice A0_4 l0_4.length c0_4] 54 (0, 0)) (bq_ BK1095.out) hg (Kd.R_ne HO1113.out BK1095.out (by decide)))
          have n1_ := Aside0.mk (blk_grown (g := gb1096) (o := .cells #[.int .i64 x1097000_7, .int .i64 x1097001_7, .int .i64 x1097002_7, .int .i64 x1097003_7, .slice none 0 0] 54 (0, 0)) (bq_ BK1096.out) hg (Kd.R_ne HO1113.out BK1096.out (by decide)))
          have n2_ := Aside0.mk (blk_grown (g := gb1104) (o := .cells #[.int .i64 t1097, .int .i64 t1098, .int .i64 a2, .int .i64 a3, .slice Ao47 y1107.length co47] 54 (0, 0)) (bq_ BK1104.out) hg (Kd.R_ne HO1113.out BK1104.out (by decide)))
          have n3_ := Aside0.mk (Kd.R_after (ok := (fun _ => True)) (by (with_reducible repeat (first | apply Kd.R_alloc | apply Kd.R_drewN | apply Kd.R_drew)); exact Kd.R_mono HO1109.out (fun _ hk => ⟨trivial, hk⟩)) hg hat)
          have n4_ := Aside0.mk (hb)
          have n5_ := Aside0.mk ((show Kd.C k_Mark w56 A55 y1115.length y1115 from by rw [Ny1115.out, KA55.out]; exact Kd.C_drop (m := ((ji39) : Int).toNat) (c := co47) ((Kd.R_reads' (Kd.R_after (ok := (fun _ => True)) (by (with_reducible repeat (first | apply Kd.R_alloc | apply Kd.R_drewN | apply Kd.R_drew)); exact Kd.R_mono HO1109.out (fun _ hk => ⟨trivial, hk⟩)) hg hat)).2.2) KL55.out ((Kd.R_reads' (Kd.R_after (ok := (fun _ => True)) (by (with_reducible repeat (first | apply Kd.R_alloc | apply Kd.R_drewN | apply Kd.R_drew)); exact Kd.R_mono HO1109.out (fun _ hk => ⟨trivial, hk⟩)) hg hat)).2.1)))
          have n6_ := Aside0.mk (ho)
          clear BK1095; clear BK1096
          clear BK1104; clear HO1109
          clear HB; clear HR1118
          clear HO1113
          have BK1095 := n0_
          have BK1096 := n1_
          have BK1104 := n2_
          have HO1109 := n3_
          have HB := n4_
          have HR1118 := n5_
          have HO1121 := n6_
          clear n0_ n1_ n2_ n3_ n4_ n5_ n6_; clear ho hb hg hat
          obtain ⟨Ao57, co57, eo57⟩ := Kd.R_slice HO1121.out
          (first | subst eo57 | (injection eo57 with f1_ f2_ f3_; have f4_ := f1_.symm; have f5_ := f3_.symm; clear f1_ f2_ f3_; subst f4_; subst f5_))
          refine hK.out _ _ ⟨(blk_cell BK1104.out 0).trans rfl, (blk_cell BK1104.out 1).trans rfl, (blk_cell BK1104.out 2).trans rfl, (blk_cell BK1104.out 3).trans rfl, (blk_cell BK1104.out 4).trans rfl⟩ (fun hHeld => ?_)
          clear hK K
          refine norm_ (a' := ?_) ?_ ?_
          rotate_left
          ·
           show Act.put _ (some 59) _ = _
           simp only [Act.put, List.setIfInBounds_toArray, List.set_cons_zero, List.set_cons_succ, i64_w, i32_w]
           rfl
          refine pI_ 11 60 HT_ #[true, true, true, true, true, true, true, true, true, true, true, true, false] rfl rfl ?_
          refine last_ (i := 12) (N := none) #[true, true, true, true, true, true, true, true, true, true, true, true, true] rfl rfl (one_of HT_.out (by kernel_rfl)) (by decide) (fun K hK => ?_)
          have hs58 : w56.cell? ⟨gb1104, 4, none⟩ = some (.slice Ao47 y1107.length co47) := (blk_cell BK1104.out 4).trans rfl
          have hfs58 := blk_frozen BK1104.out 4
          have hns58_0 := NB1095_1104.out
          have hns58_1 := NB1096_1104.out
          have hms58_0 := NB1104_1095.out
          have hms58_1 := NB1104_1096.out
          refine skip_ (w1 := ?_) (by rfl) rfl ?_ ?_
          rotate_left; (focus go_simp; rfl)
          refine hK.out _ _ ?_
          clear hK K
          refine done_ (done_of HT_.out (by kernel_rfl)) ?_
          have hcz59_0 : w56.cell? ⟨gb1104, 0, none⟩ = some (.int .i64 t1097) := (blk_cell BK1104.out 0).trans rfl
          have hcz59_1 : w56.cell? ⟨gb1104, 1, none⟩ = some (.int .i64 t1098) := (blk_cell BK1104.out 1).trans rfl
          have hcz59_2 : w56.cell? ⟨gb1104, 2, none⟩ = some (.int .i64 a2) := (blk_cell BK1104.out 2).trans rfl
          have hcz59_3 : w56.cell? ⟨gb1104, 3, none⟩ = some (.int .i64 a3) := (blk_cell BK1104.out 3).trans rfl
          have hcz59_4 : w56.cell? ⟨gb1104, 4, none⟩ = some (.slice Ao47 y1107.length co47) := (blk_cell BK1104.out 4).trans rfl
          have hfz59_0 := blk_frozen BK1104.out 0
          have hfz59_1 := blk_frozen BK1104.out 1
          have hfz59_2 := blk_frozen BK1104.out 2
          have hfz59_3 := blk_frozen BK1104.out 3
          have hfz59_4 := blk_frozen BK1104.out 4
          have hnb60 := NB1096_1095.out
          have hnc60 := NB1095_1096.out
          have hcz61_0 : w56.cell? ⟨gb1096, 0, none⟩ = some (.int .i64 x1097000_7) := (blk_cell BK1096.out 0).trans rfl
          have hcz61_1 : w56.cell? ⟨gb1096, 1, none⟩ = some (.int .i64 x1097001_7) := (blk_cell BK1096.out 1).trans rfl
          have hcz61_2 : w56.cell? ⟨gb1096, 2, none⟩ = some (.int .i64 x1097002_7) := (blk_cell BK1096.out 2).trans rfl
          have hcz61_3 : w56.cell? ⟨gb1096, 3, none⟩ = some (.int .i64 x1097003_7) := (blk_cell BK1096.out 3).trans rfl
          have hcz61_4 : w56.cell? ⟨gb1096, 4, none⟩ = some (.slice none 0 0) := (blk_cell BK1096.out 4).trans rfl
          have hfz61_0 := blk_frozen BK1096.out 0
          have hfz61_1 := blk_frozen BK1096.out 1
          have hfz61_2 := blk_frozen BK1096.out 2
          have hfz61_3 := blk_frozen BK1096.out 3
          have hfz61_4 := blk_frozen BK1096.out 4
          try go_wp2
          refine bodyPost_ret (results_cell_row rfl _ _ gb1096 54 #[.int .i64 t1097, .int .i64 t1098, .int .i64 a2, .int .i64 a3, .slice Ao57 y1119.length co57] (0, 0) _ rfl (by (with_reducible repeat (first | refine blk_drewN ?_ _ | refine blk_drew ?_ | refine blk_alloc ?_ _)); refine blk_put (cs := #[.int .i64 t1097, .int .i64 t1098, .int .i64 a2, .int .i64 a3, .slice none 0 0]) ?_ 4 _ rfl; (with_reducible repeat (first | refine blk_drewN ?_ _ | refine blk_drew ?_ | refine blk_alloc ?_ _)); refine blk_put (cs := #[.int .i64 t1097, .int .i64 t1098, .int .i64 a2, .int .i64 x1097003_7, .slice none 0 0]) ?_ 3 _ rfl; (with_reducible repeat (first | refine blk_drewN ?_ _ | refine blk_drew ?_ | refine blk_alloc ?_ _)); refine blk_put (cs := #[.int .i64 t1097, .int .i64 t1098, .int .i64 x1097002_7, .int .i64 x1097003_7, .slice none 0 0]) ?_ 2 _ rfl; (with_reducible repeat (first | refine blk_drewN ?_ _ | refine blk_drew ?_ | refine blk_alloc ?_ _)); refine blk_put (cs := #[.int .i64 t1097, .int .i64 x1097001_7, .int .i64 x1097002_7, .int .i64 x1097003_7, .slice none 0 0]) ?_ 1 _ rfl; (with_reducible repeat (first | refine blk_drewN ?_ _ | refine blk_drew ?_ | refine blk_alloc ?_ _)); refine blk_put (cs := #[.int .i64 x1097000_7, .int .i64 x1097001_7, .int .i64 x1097002_7, .int .i64 x1097003_7, .slice none 0 0]) ?_ 0 _ rfl; (with_reducible repeat (first | refine blk_drewN ?_ _ | refine blk_drew ?_ | refine blk_alloc ?_ _)); refine blk_far ?_ NB1096_1104.out _; (with_reducible repeat (first | refine blk_drewN ?_ _ | refine blk_drew ?_ | refine blk_alloc ?_ _)); exact BK1096.out) Try.underlying54 rfl (by kernel_rfl)) rfl ?_
          exact ⟨_, by first | rfl | (simp [errW_none, errW_some] <;> rfl) | (simp only [← hji39]; first | rfl | (simp [errW_none, errW_some] <;> rfl)) | (simp [*, errW_none, errW_some] <;> rfl), by (with_reducible repeat (first | apply Kd.R_alloc | apply Kd.R_drewN | apply Kd.R_drew)); exact Kd.R_mono (Kd.R_far (p := ⟨gb1096, 4, none⟩) (Kd.R_far (p := ⟨gb1096, 3, none⟩) (Kd.R_far (p := ⟨gb1096, 2, none⟩) (Kd.R_far (p := ⟨gb1096, 1, none⟩) (Kd.R_far (p := ⟨gb1096, 0, none⟩) (Kd.R_far (p := ⟨gb1104, 4, none⟩) (Kd.R_types (Kd.R_types HO1121.out BK1104.out (by decide)) BK1096.out (by decide)) (fun _ hk => hk.1.2) (.slice Ao57 y1119.length co57)) (fun _ hk => hk.2) (.int .i64 t1097)) (fun _ hk => hk.2) (.int .i64 t1098)) (fun _ hk => hk.2) (.int .i64 a2)) (fun _ hk => hk.2) (.int .i64 a3)) (fun _ hk => hk.2) (.slice Ao57 y1119.length co57)) (fun _ hk => trivial), hb_ HB.out⟩
         ·
          rw [if_neg c42] at H
          exact absurd H (by simp)
        ·
         rw [if_neg c41] at H
         exact absurd H (by simp)
       ·
        rw [if_neg c40] at H
        exact absurd H (by simp)
      ·
       rw [if_neg c37] at H
       have c37b0 : decide (t1110 < (y1107.length : Int)) = false := decide_eq_false c37
       clear c37
       simp only [Option.some.injEq, Prod.mk.injEq] at H
       obtain ⟨rfl, rfl, rfl, rfl, rfl⟩ := H
       have hnb62 := NB1104_1095.out
       have hnc62 := NB1095_1104.out
       have hnb63 := NB1104_1096.out
       have hnc63 := NB1096_1104.out
       have hcz64_0 : wc.cell? ⟨gb1104, 0, none⟩ = some (.int .i64 t1097) := (blk_cell BK1104.out 0).trans rfl
       have hcz64_1 : wc.cell? ⟨gb1104, 1, none⟩ = some (.int .i64 t1098) := (blk_cell BK1104.out 1).trans rfl
       have hcz64_2 : wc.cell? ⟨gb1104, 2, none⟩ = some (.int .i64 t1099) := (blk_cell BK1104.out 2).trans rfl
       have hcz64_3 : wc.cell? ⟨gb1104, 3, none⟩ = some (.int .i64 t1100) := (blk_cell BK1104.out 3).trans rfl
       have hcz64_4 : wc.cell? ⟨gb1104, 4, none⟩ = some (u1105004) := (blk_cell BK1104.out 4).trans rfl
       have hfz64_0 := blk_frozen BK1104.out 0
       have hfz64_1 := blk_frozen BK1104.out 1
       have hfz64_2 := blk_frozen BK1104.out 2
       have hfz64_3 := blk_frozen BK1104.out 3
       have hfz64_4 := blk_frozen BK1104.out 4
       try go_wp2_with (first | ((with_reducible refine gate_builtin (b := .append) (xs := #[.tmp 36, .tmp 40]) rfl ?_); at_builtin; refine Kd.R_append k_Mark (w0 := w) w.heap.size rfl (.tmp 36) (.tmp 40) 52 118 (.agg #[(.int .i64 0), (.int .i64 0)]) 16 rfl Try.underlying52 info118 rfl (by decide) (by omega) u1105004 x1105004_26 (⟨a3, a4⟩ : S_Mark) [.int .i64 a3, .int .i64 a4] (fun _ => True) (fun _ => False) rfl (by first | (go_simp; done) | (go_simp; rfl)) ?aP (fun _ hk => hk.elim) ?aF ?aO ?aB ?aS ?aL ?_; (case aP => exact k_Mark_mkM _ _ _ (⟨a3, a4⟩ : S_Mark)); (case aB => exact (hb_ HB.out)); (case aF => exact (fun _ _ => trivial)); (case aO => exact (by (with_reducible repeat (first | apply Kd.R_alloc | apply Kd.R_drewN | apply Kd.R_drew)); exact Kd.R_mono (Kd.R_far (p := ⟨gb1104, 3, none⟩) (Kd.R_far (p := ⟨gb1104, 2, none⟩) (Kd.R_types HO_1105004.out BK1104.out (by decide)) (fun _ hk => hk.2) (.int .i64 a2)) (fun _ hk => hk.2) (.int .i64 a3)) (fun _ hk => trivial))); (case aS => exact (below_size (hb_ HB.out))); (case aL => have := LMc35.out; omega); intro v1108 w65 ho hb hg hat; rw [← Ny1107.out] at ho; have n0_ := Aside0.mk (blk_grown (g := gb1095) (o := .cells #[.int .i64 a0_0, .int .i64 a0_1, .int .i64 a0_2, .int .i64 a0_3, .slice A0_4 l0_4.length c0_4] 54 (0, 0)) (bf_ NB1095_1104.out BK1095.out) hg (Kd.R_ne HO_1105004.out BK1095.out (by decide))); have n1_ := Aside0.mk (blk_grown (g := gb1096) (o := .cells #[.int .i64 x1097000_7, .int .i64 x1097001_7, .int .i64 x1097002_7, .int .i64 x1097003_7, .slice none 0 0] 54 (0, 0)) (bf_ NB1096_1104.out BK1096.out) hg (Kd.R_ne HO_1105004.out BK1096.out (by decide))); have n2_ := Aside0.mk (blk_grown (g := gb1104) (o := .cells #[.int .i64 t1097, .int .i64 t1098, .int .i64 a2, .int .i64 a3, u1105004] 54 (0, 0)) (bp_ BK1104.out) hg (Kd.R_ne HO_1105004.out BK1104.out (by decide))); have n3_ := Aside0.mk (hb); have n4_ := Aside0.mk (ho); clear BK1095; clear BK1096; clear BK1104; clear HB; clear HO_1105004; have BK1095 := n0_; have BK1096 := n1_; have BK1104 := n2_; have HB := n3_; have HO1109 := n4_; clear n0_ n1_ n2_ n3_ n4_; clear ho hb hg hat; obtain ⟨Ao66, co66, eo66⟩ := Kd.R_slice HO1109.out; subst eo66; have hcz67_0 : w65.cell? ⟨gb1104, 0, none⟩ = some (.int .i64 t1097) := (blk_cell BK1104.out 0).trans rfl; have hcz67_1 : w65.cell? ⟨gb1104, 1, none⟩ = some (.int .i64 t1098) := (blk_cell BK1104.out 1).trans rfl; have hcz67_2 : w65.cell? ⟨gb1104, 2, none⟩ = some (.int .i64 a2) := (blk_cell BK1104.out 2).trans rfl; have hcz67_3 : w65.cell? ⟨gb1104, 3, none⟩ = some (.int .i64 a3) := (blk_cell BK1104.out 3).trans rfl; have hcz67_4 : w65.cell? ⟨gb1104, 4, none⟩ = some (u1105004) := (blk_cell BK1104.out 4).trans rfl; have hfz67_0 := blk_frozen BK1104.out 0; have hfz67_1 := blk_frozen BK1104.out 1; have hfz67_2 := blk_frozen BK1104.out 2; have hfz67_3 := blk_frozen BK1104.out 3; have hfz67_4 := blk_frozen BK1104.out 4))
       have n0_ : Aside0 (Kd.R k_Mark 118 (w65.setCell ⟨gb1104, 4, none⟩ (.slice Ao66 y1107.length co66)) w.heap.size (fun _ => True) (.slice Ao66 y1107.length co66) y1107) := ⟨by (with_reducible repeat (first | apply Kd.R_alloc | apply Kd.R_drewN | apply Kd.R_drew)); exact Kd.R_mono (Kd.R_far (p := ⟨gb1104, 4, none⟩) (Kd.R_types HO1109.out BK1104.out (by decide)) (fun _ hk => hk.2) (.slice Ao66 y1107.length co66)) (fun _ hk => trivial)⟩
       have n1_ : Aside0 ((w65.setCell ⟨gb1104, 4, none⟩ (.slice Ao66 y1107.length co66)).heap[gb1095]? = some (.cells #[.int .i64 a0_0, .int .i64 a0_1, .int .i64 a0_2, .int .i64 a0_3, .slice A0_4 l0_4.length c0_4] 54 (0, 0))) := ⟨by (with_reducible repeat (first | refine blk_drewN ?_ _ | refine blk_drew ?_ | refine blk_alloc ?_ _)); refine blk_far ?_ NB1095_1104.out _; (with_reducible repeat (first | refine blk_drewN ?_ _ | refine blk_drew ?_ | refine blk_alloc ?_ _)); exact BK1095.out⟩
       have n2_ : Aside0 ((w65.setCell ⟨gb1104, 4, none⟩ (.slice Ao66 y1107.length co66)).heap[gb1096]? = some (.cells #[.int .i64 x1097000_7, .int .i64 x1097001_7, .int .i64 x1097002_7, .int .i64 x1097003_7, .slice none 0 0] 54 (0, 0))) := ⟨by (with_reducible repeat (first | refine blk_drewN ?_ _ | refine blk_drew ?_ | refine blk_alloc ?_ _)); refine blk_far ?_ NB1096_1104.out _; (with_reducible repeat (first | refine blk_drewN ?_ _ | refine blk_drew ?_ | refine blk_alloc ?_ _)); exact BK1096.out⟩
       have n3_ : Aside0 ((w65.setCell ⟨gb1104, 4, none⟩ (.slice Ao66 y1107.length co66)).heap[gb1104]? = some (.cells #[.int .i64 t1097, .int .i64 t1098, .int .i64 a2, .int .i64 a3, .slice Ao66 y1107.length co66] 54 (0, 0))) := ⟨by (with_reducible repeat (first | refine blk_drewN ?_ _ | refine blk_drew ?_ | refine blk_alloc ?_ _)); refine blk_put (cs := #[.int .i64 t1097, .int .i64 t1098, .int .i64 a2, .int .i64 a3, u1105004]) ?_ 4 _ rfl; (with_reducible repeat (first | refine blk_drewN ?_ _ | refine blk_drew ?_ | refine blk_alloc ?_ _)); exact BK1104.out⟩
       have n4_ : Aside0 (Below w.heap.size w (w65.setCell ⟨gb1104, 4, none⟩ (.slice Ao66 y1107.length co66))) := ⟨hb_ HB.out⟩
       (try clear HO1109)
       (try clear BK1095)
       (try clear BK1096)
       (try clear BK1104)
       (try clear HB)
       generalize (w65.setCell ⟨gb1104, 4, none⟩ (.slice Ao66 y1107.length co66)) = w68 at n0_ n1_ n2_ n3_ n4_ ⊢
       have HO1109 := n0_
       have BK1095 := n1_
       have BK1096 := n2_
       have BK1104 := n3_
       have HB := n4_
       clear n0_ n1_ n2_ n3_ n4_
       have n0_ := Aside0.mk (Kd.R_drew HO1109.out)
       have n1_ := Aside0.mk (blk_drew BK1095.out)
       have n2_ := Aside0.mk (blk_drew BK1096.out)
       have n3_ := Aside0.mk (blk_drew BK1104.out)
       have n4_ := Aside0.mk (below_drew1 HB.out)
       clear HO1109; clear BK1095
       clear BK1096; clear BK1104
       clear HB
       have HO1109 := n0_
       have BK1095 := n1_
       have BK1096 := n2_
       have BK1104 := n3_
       have HB := n4_
       clear n0_ n1_ n2_ n3_ n4_
       refine start_ (n := 6) (S := fun w' => w'.cell? ⟨gb1104, 0, none⟩ = some (.int .i64 t1097) ∧ w'.cell? ⟨gb1104, 1, none⟩ = some (.int .i64 t1098) ∧ w'.cell? ⟨gb1104, 2, none⟩ = some (.int .i64 a2) ∧ w'.cell? ⟨gb1104, 3, none⟩ = some (.int .i64 a3) ∧ w'.cell? ⟨gb1104, 4, none⟩ = some (.slice Ao66 y1107.length co66)) (ds := []) #[false, false, false, false, false, false] (by kernel_rfl) rfl rfl ⟨(blk_cell BK1104.out 0).trans rfl, (blk_cell BK1104.out 1).trans rfl, (blk_cell BK1104.out 2).trans rfl, (blk_cell BK1104.out 3).trans rfl, (blk_cell BK1104.out 4).trans rfl⟩ (fun hHeld => ?_)
       generalize w68.drew = w69 at HO1109 BK1095 BK1096 BK1104 HB hHeld ⊢
       refine pure_ (i := 0) (N := some 43) (v := ?_) (a' := ?_) #[true, false, false, false, false, false] rfl rfl (by kernel_rfl) (fun _ _ _ h => h) (Or.inl ⟨by rfl, ?_⟩) ?_ ?_; rotate_left; (focus intro w'; go_simp; with_reducible rfl); rotate_left; (focus simp only [Act.put, List.setIfInBounds_toArray, List.set_cons_zero, List.set_cons_succ, i64_w, i32_w]; rfl)
       refine pure_ (i := 3) (N := some 46) (v := ?_) (a' := ?_) #[true, false, false, true, false, false] rfl rfl (by kernel_rfl) (fun _ _ _ h => h) (Or.inl ⟨by rfl, ?_⟩) ?_ ?_; rotate_left; (focus intro w'; go_simp; with_reducible rfl); rotate_left; (focus simp only [Act.put, List.setIfInBounds_toArray, List.set_cons_zero, List.set_cons_succ, i64_w, i32_w]; rfl)
       refine take_ (i := 1) (N := some 44) (v := ?_) (a' := ?_) #[true, true, false, true, false, false] rfl rfl (by kernel_rfl) (fun _ _ _ h => h) (Or.inl ⟨by rfl, ?_⟩) hHeld ?_ ?_
       rotate_left
       ·
        rintro w' ⟨s0, s1, s2, s3, s4⟩
        go_simp
        with_reducible rfl
       rotate_left; (focus simp only [Act.put, List.setIfInBounds_toArray, List.set_cons_zero, List.set_cons_succ, i64_w, i32_w]; rfl)
       refine pure_ (i := 2) (N := some 45) (v := ?_) (a' := ?_) #[true, true, true, true, false, false] rfl rfl (by kernel_rfl) (fun _ _ _ h => h) (Or.inl ⟨by rfl, ?_⟩) ?_ ?_; rotate_left; (focus intro w'; go_simp; with_reducible rfl); rotate_left; (focus simp only [Act.put, List.setIfInBounds_toArray, List.set_cons_zero, List.set_cons_succ, i64_w, i32_w]; rfl)
       refine one_ (i := 4) (N := some 47) #[true, true, true, true, true, false] rfl rfl (by kernel_rfl) (by decide) (fun K hK => ?_)
       refine goes_ Try.func113 (by kernel_rfl) rfl #[.int .i64 a1, .int .i64 0] (by rfl) rfl rfl sm_ ?_
       with_reducible refine (spec_l1Max.calls a1 0 t1110 _ A36.out).mono ?_
       rintro e w' ⟨rfl, ⟨nd, rfl⟩⟩
       refine ⟨_, rfl, ?_⟩
       refine hK.out _ _ ⟨(blk_cell BK1104.out 0).trans rfl, (blk_cell BK1104.out 1).trans rfl, (blk_cell BK1104.out 2).trans rfl, (blk_cell BK1104.out 3).trans rfl, (blk_cell BK1104.out 4).trans rfl⟩ (fun hHeld => ?_)
       clear hK K
       refine norm_ (a' := ?_) ?_ ?_
       rotate_left
       ·
        show Act.put _ (some 47) _ = _
        simp only [Act.put, List.setIfInBounds_toArray, List.set_cons_zero, List.set_cons_succ, i64_w, i32_w]
        rfl
       refine pure_ (i := 5) (N := some 48) (v := ?_) (a' := ?_) #[true, true, true, true, true, true] rfl rfl (by kernel_rfl) (fun _ _ _ h => h) (Or.inl ⟨by rfl, ?_⟩) ?_ ?_; rotate_left; (focus intro w'; go_simp; with_reducible rfl); rotate_left; (focus simp only [Act.put, List.setIfInBounds_toArray, List.set_cons_zero, List.set_cons_succ, i64_w, i32_w]; rfl)
       refine done_ (by kernel_rfl) ?_
       have hcz70_0 : w69.cell? ⟨gb1104, 0, none⟩ = some (.int .i64 t1097) := (blk_cell BK1104.out 0).trans rfl
       have hcz70_1 : w69.cell? ⟨gb1104, 1, none⟩ = some (.int .i64 t1098) := (blk_cell BK1104.out 1).trans rfl
       have hcz70_2 : w69.cell? ⟨gb1104, 2, none⟩ = some (.int .i64 a2) := (blk_cell BK1104.out 2).trans rfl
       have hcz70_3 : w69.cell? ⟨gb1104, 3, none⟩ = some (.int .i64 a3) := (blk_cell BK1104.out 3).trans rfl
       have hcz70_4 : w69.cell? ⟨gb1104, 4, none⟩ = some (.slice Ao66 y1107.length co66) := (blk_cell BK1104.out 4).trans rfl
       have hfz70_0 := blk_frozen BK1104.out 0
       have hfz70_1 := blk_frozen BK1104.out 1
       have hfz70_2 := blk_frozen BK1104.out 2
       have hfz70_3 := blk_frozen BK1104.out 3
       have hfz70_4 := blk_frozen BK1104.out 4
       have hnb71 := NB1096_1095.out
       have hnc71 := NB1095_1096.out
       have hcz72_0 : w69.cell? ⟨gb1096, 0, none⟩ = some (.int .i64 x1097000_7) := (blk_cell BK1096.out 0).trans rfl
       have hcz72_1 : w69.cell? ⟨gb1096, 1, none⟩ = some (.int .i64 x1097001_7) := (blk_cell BK1096.out 1).trans rfl
       have hcz72_2 : w69.cell? ⟨gb1096, 2, none⟩ = some (.int .i64 x1097002_7) := (blk_cell BK1096.out 2).trans rfl
       have hcz72_3 : w69.cell? ⟨gb1096, 3, none⟩ = some (.int .i64 x1097003_7) := (blk_cell BK1096.out 3).trans rfl
       have hcz72_4 : w69.cell? ⟨gb1096, 4, none⟩ = some (.slice none 0 0) := (blk_cell BK1096.out 4).trans rfl
       have hfz72_0 := blk_frozen BK1096.out 0
       have hfz72_1 := blk_frozen BK1096.out 1
       have hfz72_2 := blk_frozen BK1096.out 2
       have hfz72_3 := blk_frozen BK1096.out 3
       have hfz72_4 := blk_frozen BK1096.out 4
       try go_wp2
       refine bodyPost_ret (results_cell_row rfl _ _ gb1096 54 #[.int .i64 t1097, .int .i64 t1098, .int .i64 a2, .int .i64 a3, .slice Ao66 y1107.length co66] (0, 0) _ rfl (bp_ BK1096.out) Try.underlying54 rfl (by kernel_rfl)) rfl ?_
       exact ⟨_, er_, by (with_reducible repeat (first | apply Kd.R_alloc | apply Kd.R_drewN | apply Kd.R_drew)); exact Kd.R_mono (Kd.R_far (p := ⟨gb1096, 4, none⟩) (Kd.R_far (p := ⟨gb1096, 3, none⟩) (Kd.R_far (p := ⟨gb1096, 2, none⟩) (Kd.R_far (p := ⟨gb1096, 1, none⟩) (Kd.R_far (p := ⟨gb1096, 0, none⟩) (Kd.R_types HO1109.out BK1096.out (by decide)) (fun _ hk => hk.2) (.int .i64 t1097)) (fun _ hk => hk.2) (.int .i64 t1098)) (fun _ hk => hk.2) (.int .i64 a2)) (fun _ hk => hk.2) (.int .i64 a3)) (fun _ hk => hk.2) (.slice Ao66 y1107.length co66)) (fun _ hk => trivial), hb_ HB.out⟩
     ·
      rw [if_neg c35] at H
      exact absurd H (by simp)
/-! ### laws_FnExactMakerPut: function 13 -/
mutual
def laws_FnExactMakerPut.j0 : Nat → Int → Int → Int → Int → Int → Int → Int → Int → List (S_LMark) → Option (Bool)
 | 0, _, _, _, _, _, _, _, _, _ => none
 | k + 1, x1, x2, x3, x4, x1123000, x1123001, x1123002, x1123003, x1123004 => (laws_toMaker.f k x1123000 x1123001 x1123002 x1123003 x1123004).bind fun bt1124 => ((spec_MakerPut.f k bt1124.1 bt1124.2.1 bt1124.2.2.1 bt1124.2.2.2.1 bt1124.2.2.2.2 x1 x2 x3 x4).bind fun bt1131 => ((laws_toMaker.f k x1123000 x1123001 x1123002 x1123003 x1123004).bind fun bt1139 => ((impl_MakerPut.f k bt1139.1 bt1139.2.1 bt1139.2.2.1 bt1139.2.2.2.1 bt1139.2.2.2.2 x1 x2 x3 x4).bind fun bt1147 => ((laws_eqMaker.f k bt1147.1 bt1147.2.1 bt1147.2.2.1 bt1147.2.2.2.1 bt1147.2.2.2.2 bt1131.1 bt1131.2.1 bt1131.2.2.1 bt1131.2.2.2.1 bt1131.2.2.2.2).bind fun t1155 => (if t1155 = true then (laws_FnExactMakerPut.j1 k x1 x2 x3 x4 x1123000 x1123001 x1123002 x1123003 x1123004 bt1131.1 bt1131.2.1 bt1131.2.2.1 bt1131.2.2.2.1 bt1131.2.2.2.2 bt1139.1 bt1139.2.1 bt1139.2.2.1 bt1139.2.2.2.1 bt1139.2.2.2.2 bt1147.1 bt1147.2.1 bt1147.2.2.1 bt1147.2.2.2.1 bt1147.2.2.2.2) else (some false))))))
def laws_FnExactMakerPut.j1 : Nat → Int → Int → Int → Int → Int → Int → Int → Int → List (S_LMark) → Int → Int → Int → Int → List (S_Mark) → Int → Int → Int → Int → List (S_Mark) → Int → Int → Int → Int → List (S_Mark) → Option (Bool)
 | 0, _, _, _, _, _, _, _, _, _, _, _, _, _, _, _, _, _, _, _, _, _, _, _, _ => none
 | k + 1, x1, x2, x3, x4, x1123000, x1123001, x1123002, x1123003, x1123004, x1139000, x1139001, x1139002, x1139003, x1139004, x1147000, x1147001, x1147002, x1147003, x1147004, x1155000, x1155001, x1155002, x1155003, x1155004 => (laws_toMaker.f k x1123000 x1123001 x1123002 x1123003 x1123004).bind fun bt1156 => ((laws_eqMaker.f k x1147000 x1147001 x1147002 x1147003 x1147004 bt1156.1 bt1156.2.1 bt1156.2.2.1 bt1156.2.2.2.1 bt1156.2.2.2.2).bind fun t1163 => (if t1163 = true then (laws_FnExactMakerPut.j2 k x1 x2 x3 x4 x1123000 x1123001 x1123002 x1123003 x1123004 x1139000 x1139001 x1139002 x1139003 x1139004 x1147000 x1147001 x1147002 x1147003 x1147004 x1155000 x1155001 x1155002 x1155003 x1155004) else (some false)))
def laws_FnExactMakerPut.j2 : Nat → Int → Int → Int → Int → Int → Int → Int → Int → List (S_LMark) → Int → Int → Int → Int → List (S_Mark) → Int → Int → Int → Int → List (S_Mark) → Int → Int → Int → Int → List (S_Mark) → Option (Bool)
 | 0, _, _, _, _, _, _, _, _, _, _, _, _, _, _, _, _, _, _, _, _, _, _, _, _ => none
 | k + 1, x1, x2, x3, x4, x1123000, x1123001, x1123002, x1123003, x1123004, x1139000, x1139001, x1139002, x1139003, x1139004, x1147000, x1147001, x1147002, x1147003, x1147004, x1155000, x1155001, x1155002, x1155003, x1155004 => (laws_markMaker.f k x1147000 x1147001 x1147002 x1147003 x1147004 1).bind fun bt1164 => (if bt1164.1 < 0 then (laws_FnExactMakerPut.j3 k x1 x2 x3 x4 true x1123000 x1123001 x1123002 x1123003 x1123004 x1139000 x1139001 x1139002 x1139003 x1139004 x1155000 x1155001 x1155002 x1155003 x1155004) else ((laws_eqMaker.f k x1155000 x1155001 x1155002 x1155003 x1155004 x1139000 x1139001 x1139002 x1139003 x1139004).bind fun t1166 => (laws_FnExactMakerPut.j3 k x1 x2 x3 x4 (!t1166) x1123000 x1123001 x1123002 x1123003 x1123004 x1139000 x1139001 x1139002 x1139003 x1139004 x1155000 x1155001 x1155002 x1155003 x1155004)))
def laws_FnExactMakerPut.j3 : Nat → Int → Int → Int → Int → Bool → Int → Int → Int → Int → List (S_LMark) → Int → Int → Int → Int → List (S_Mark) → Int → Int → Int → Int → List (S_Mark) → Option (Bool)
 | 0, _, _, _, _, _, _, _, _, _, _, _, _, _, _, _, _, _, _, _, _ => none
 | k + 1, x1, x2, x3, x4, x58, x1123000, x1123001, x1123002, x1123003, x1123004, x1139000, x1139001, x1139002, x1139003, x1139004, x1155000, x1155001, x1155002, x1155003, x1155004 => if x58 = true then (some false) else (laws_FnExactMakerPut.j4 k x1 x2 x3 x4 x1123000 x1123001 x1123002 x1123003 x1123004 x1139000 x1139001 x1139002 x1139003 x1139004 x1155000 x1155001 x1155002 x1155003 x1155004)
def laws_FnExactMakerPut.j4 : Nat → Int → Int → Int → Int → Int → Int → Int → Int → List (S_LMark) → Int → Int → Int → Int → List (S_Mark) → Int → Int → Int → Int → List (S_Mark) → Option (Bool)
 | 0, _, _, _, _, _, _, _, _, _, _, _, _, _, _, _, _, _, _, _ => none
 | k + 1, x1, x2, x3, x4, x1123000, x1123001, x1123002, x1123003, x1123004, x1139000, x1139001, x1139002, x1139003, x1139004, x1155000, x1155001, x1155002, x1155003, x1155004 => (laws_markMaker.f k x1155000 x1155001 x1155002 x1155003 x1155004 1).bind fun bt1167 => ((laws_heldMaker.f k x1155000 x1155001 x1155002 x1155003 bt1167.2 1).bind fun t1169 => (if t1169 < 0 then (some false) else (laws_FnExactMakerPut.j5 k x1 x2 x3 x4 bt1167.1 t1169 x1123000 x1123001 x1123002 x1123003 x1123004 x1139000 x1139001 x1139002 x1139003 x1139004 x1155000 x1155001 x1155002 x1155003 bt1167.2)))
def laws_FnExactMakerPut.j5 : Nat → Int → Int → Int → Int → Int → Int → Int → Int → Int → Int → List (S_LMark) → Int → Int → Int → Int → List (S_Mark) → Int → Int → Int → Int → List (S_Mark) → Option (Bool)
 | 0, _, _, _, _, _, _, _, _, _, _, _, _, _, _, _, _, _, _, _, _, _ => none
 | k + 1, x1, x2, x3, x4, x16, x17, x1123000, x1123001, x1123002, x1123003, x1123004, x1139000, x1139001, x1139002, x1139003, x1139004, x1155000, x1155001, x1155002, x1155003, x1155004 => if x17 = x16 then (laws_FnExactMakerPut.j6 k x1 x2 x3 x4 x16 x1123000 x1123001 x1123002 x1123003 x1123004 x1139000 x1139001 x1139002 x1139003 x1139004 x1155000 x1155001 x1155002 x1155003 x1155004) else (some false)
def laws_FnExactMakerPut.j6 : Nat → Int → Int → Int → Int → Int → Int → Int → Int → Int → List (S_LMark) → Int → Int → Int → Int → List (S_Mark) → Int → Int → Int → Int → List (S_Mark) → Option (Bool)
 | 0, _, _, _, _, _, _, _, _, _, _, _, _, _, _, _, _, _, _, _, _ => none
 | k + 1, x1, x2, x3, x4, x16, x1123000, x1123001, x1123002, x1123003, x1123004, x1139000, x1139001, x1139002, x1139003, x1139004, x1155000, x1155001, x1155002, x1155003, x1155004 => (laws_toMaker.f k x1123000 x1123001 x1123002 x1123003 x1123004).bind fun bt1170 => ((impl_MakerPut.f k bt1170.1 bt1170.2.1 bt1170.2.2.1 bt1170.2.2.2.1 bt1170.2.2.2.2 x1 x2 x3 x4).bind fun bt1177 => ((laws_eqMaker.f k bt1177.1 bt1177.2.1 bt1177.2.2.1 bt1177.2.2.2.1 bt1177.2.2.2.2 x1139000 x1139001 x1139002 x1139003 x1139004).bind fun t1185 => (if t1185 = true then (laws_FnExactMakerPut.j7 k x16 x1155000 x1155001 x1155002 x1155003 x1155004) else (some false))))
def laws_FnExactMakerPut.j7 : Nat → Int → Int → Int → Int → Int → List (S_Mark) → Option (Bool)
 | 0, _, _, _, _, _, _ => none
 | k + 1, x16, x1155000, x1155001, x1155002, x1155003, x1155004 => (laws_heldMaker.f k x1155000 x1155001 x1155002 x1155003 x1155004 1).bind fun t1186 => (if t1186 < 0 then (some false) else (if t1186 = x16 then (some true) else (some false)))
end
def laws_FnExactMakerPut.f (k : Nat) (a0_0 : Int) (a0_1 : Int) (a0_2 : Int) (a0_3 : Int) (l0_4 : List (S_LMark)) (a1 : Int) (a2 : Int) (a3 : Int) (a4 : Int) : Option (Bool) := (laws_szMaker.f a0_0 a0_1 a0_2 a0_3 l0_4 1048576).bind fun t1123 => (if t1123 < 0 then (some true) else (laws_FnExactMakerPut.j0 k a1 a2 a3 a4 a0_0 a0_1 a0_2 a0_3 l0_4))
theorem laws_FnExactMakerPut.mono_l : ∀ k, (∀ y0 y1 y2 y3 y4 y5 y6 y7 y8, LeO (laws_FnExactMakerPut.j0 k y0 y1 y2 y3 y4 y5 y6 y7 y8) (laws_FnExactMakerPut.j0 (k + 1) y0 y1 y2 y3 y4 y5 y6 y7 y8)) ∧ (∀ y0 y1 y2 y3 y4 y5 y6 y7 y8 y9 y10 y11 y12 y13 y14 y15 y16 y17 y18 y19 y20 y21 y22 y23, LeO (laws_FnExactMakerPut.j1 k y0 y1 y2 y3 y4 y5 y6 y7 y8 y9 y10 y11 y12 y13 y14 y15 y16 y17 y18 y19 y20 y21 y22 y23) (laws_FnExactMakerPut.j1 (k + 1) y0 y1 y2 y3 y4 y5 y6 y7 y8 y9 y10 y11 y12 y13 y14 y15 y16 y17 y18 y19 y20 y21 y22 y23)) ∧ (∀ y0 y1 y2 y3 y4 y5 y6 y7 y8 y9 y10 y11 y12 y13 y14 y15 y16 y17 y18 y19 y20 y21 y22 y23, LeO (laws_FnExactMakerPut.j2 k y0 y1 y2 y3 y4 y5 y6 y7 y8 y9 y10 y11 y12 y13 y14 y15 y16 y17 y18 y19 y20 y21 y22 y23) (laws_FnExactMakerPut.j2 (k + 1) y0 y1 y2 y3 y4 y5 y6 y7 y8 y9 y10 y11 y12 y13 y14 y15 y16 y17 y18 y19 y20 y21 y22 y23)) ∧ (∀ y0 y1 y2 y3 y4 y5 y6 y7 y8 y9 y10 y11 y12 y13 y14 y15 y16 y17 y18 y19, LeO (laws_FnExactMakerPut.j3 k y0 y1 y2 y3 y4 y5 y6 y7 y8 y9 y10 y11 y12 y13 y14 y15 y16 y17 y18 y19) (laws_FnExactMakerPut.j3 (k + 1) y0 y1 y2 y3 y4 y5 y6 y7 y8 y9 y10 y11 y12 y13 y14 y15 y16 y17 y18 y19)) ∧ (∀ y0 y1 y2 y3 y4 y5 y6 y7 y8 y9 y10 y11 y12 y13 y14 y15 y16 y17 y18, LeO (laws_FnExactMakerPut.j4 k y0 y1 y2 y3 y4 y5 y6 y7 y8 y9 y10 y11 y12 y13 y14 y15 y16 y17 y18) (laws_FnExactMakerPut.j4 (k + 1) y0 y1 y2 y3 y4 y5 y6 y7 y8 y9 y10 y11 y12 y13 y14 y15 y16 y17 y18)) ∧ (∀ y0 y1 y2 y3 y4 y5 y6 y7 y8 y9 y10 y11 y12 y13 y14 y15 y16 y17 y18 y19 y20, LeO (laws_FnExactMakerPut.j5 k y0 y1 y2 y3 y4 y5 y6 y7 y8 y9 y10 y11 y12 y13 y14 y15 y16 y17 y18 y19 y20) (laws_FnExactMakerPut.j5 (k + 1) y0 y1 y2 y3 y4 y5 y6 y7 y8 y9 y10 y11 y12 y13 y14 y15 y16 y17 y18 y19 y20)) ∧ (∀ y0 y1 y2 y3 y4 y5 y6 y7 y8 y9 y10 y11 y12 y13 y14 y15 y16 y17 y18 y19, LeO (laws_FnExactMakerPut.j6 k y0 y1 y2 y3 y4 y5 y6 y7 y8 y9 y10 y11 y12 y13 y14 y15 y16 y17 y18 y19) (laws_FnExactMakerPut.j6 (k + 1) y0 y1 y2 y3 y4 y5 y6 y7 y8 y9 y10 y11 y12 y13 y14 y15 y16 y17 y18 y19)) ∧ (∀ y0 y1 y2 y3 y4 y5, LeO (laws_FnExactMakerPut.j7 k y0 y1 y2 y3 y4 y5) (laws_FnExactMakerPut.j7 (k + 1) y0 y1 y2 y3 y4 y5))
 | 0 => ⟨fun _ _ _ _ _ _ _ _ _ r h => by simp [laws_FnExactMakerPut.j0] at h, fun _ _ _ _ _ _ _ _ _ _ _ _ _ _ _ _ _ _ _ _ _ _ _ _ r h => by simp [laws_FnExactMakerPut.j1] at h, fun _ _ _ _ _ _ _ _ _ _ _ _ _ _ _ _ _ _ _ _ _ _ _ _ r h => by simp [laws_FnExactMakerPut.j2] at h, fun _ _ _ _ _ _ _ _ _ _ _ _ _ _ _ _ _ _ _ _ r h => by simp [laws_FnExactMakerPut.j3] at h, fun _ _ _ _ _ _ _ _ _ _ _ _ _ _ _ _ _ _ _ r h => by simp [laws_FnExactMakerPut.j4] at h, fun _ _ _ _ _ _ _ _ _ _ _ _ _ _ _ _ _ _ _ _ _ r h => by simp [laws_FnExactMakerPut.j5] at h, fun _ _ _ _ _ _ _ _ _ _ _ _ _ _ _ _ _ _ _ _ r h => by simp [laws_FnExactMakerPut.j6] at h, fun _ _ _ _ _ _ r h => by simp [laws_FnExactMakerPut.j7] at h⟩
 | k + 1 => by
  obtain ⟨ih0, ih1, ih2, ih3, ih4, ih5, ih6, ih7⟩ := laws_FnExactMakerPut.mono_l k
  refine ⟨?_, ?_, ?_, ?_, ?_, ?_, ?_, ?_⟩
  ·
   intro y0 y1 y2 y3 y4 y5 y6 y7 y8
   unfold laws_FnExactMakerPut.j0
   repeat' first
   | (with_reducible exact ih0 _ _ _ _ _ _ _ _ _)
   | (with_reducible exact ih1 _ _ _ _ _ _ _ _ _ _ _ _ _ _ _ _ _ _ _ _ _ _ _ _)
   | (with_reducible exact ih2 _ _ _ _ _ _ _ _ _ _ _ _ _ _ _ _ _ _ _ _ _ _ _ _)
   | (with_reducible exact ih3 _ _ _ _ _ _ _ _ _ _ _ _ _ _ _ _ _ _ _ _)
   | (with_reducible exact ih4 _ _ _ _ _ _ _ _ _ _ _ _ _ _ _ _ _ _ _)
   | (with_reducible exact ih5 _ _ _ _ _ _ _ _ _ _ _ _ _ _ _ _ _ _ _ _ _)
   | (with_reducible exact ih6 _ _ _ _ _ _ _ _ _ _ _ _ _ _ _ _ _ _ _ _)
   | (with_reducible exact ih7 _ _ _ _ _ _)
   | (with_reducible exact impl_MakerPut.mono _ _ _ _ _ _ _ _ _ _)
   | (with_reducible exact laws_eqMaker.mono _ _ _ _ _ _ _ _ _ _ _)
   | (with_reducible exact laws_heldMaker.mono _ _ _ _ _ _ _)
   | (with_reducible exact laws_markMaker.mono _ _ _ _ _ _ _)
   | (with_reducible exact laws_toMaker.mono _ _ _ _ _ _)
   | (with_reducible exact spec_MakerPut.mono _ _ _ _ _ _ _ _ _ _)
   | (with_reducible exact LeO.refl _)
   | (with_reducible exact LeO.none _)
   | (with_reducible refine LeO.ite ?_ ?_)
   | (with_reducible refine LeO.bind ?_ (fun _ => ?_))
   | exact ih0 _ _ _ _ _ _ _ _ _
   | exact ih1 _ _ _ _ _ _ _ _ _ _ _ _ _ _ _ _ _ _ _ _ _ _ _ _
   | exact ih2 _ _ _ _ _ _ _ _ _ _ _ _ _ _ _ _ _ _ _ _ _ _ _ _
   | exact ih3 _ _ _ _ _ _ _ _ _ _ _ _ _ _ _ _ _ _ _ _
   | exact ih4 _ _ _ _ _ _ _ _ _ _ _ _ _ _ _ _ _ _ _
   | exact ih5 _ _ _ _ _ _ _ _ _ _ _ _ _ _ _ _ _ _ _ _ _
   | exact ih6 _ _ _ _ _ _ _ _ _ _ _ _ _ _ _ _ _ _ _ _
   | exact ih7 _ _ _ _ _ _
   | exact impl_MakerPut.mono _ _ _ _ _ _ _ _ _ _
   | exact laws_eqMaker.mono _ _ _ _ _ _ _ _ _ _ _
   | exact laws_heldMaker.mono _ _ _ _ _ _ _
   | exact laws_markMaker.mono _ _ _ _ _ _ _
   | exact laws_toMaker.mono _ _ _ _ _ _
   | exact spec_MakerPut.mono _ _ _ _ _ _ _ _ _ _
   | exact LeO.none _
   | refine LeO.ite ?_ ?_
   | refine LeO.bind ?_ (fun _ => ?_)
  ·
   intro y0 y1 y2 y3 y4 y5 y6 y7 y8 y9 y10 y11 y12 y13 y14 y15 y16 y17 y18 y19 y20 y21 y22 y23
   unfold laws_FnExactMakerPut.j1
   repeat' first
   | (with_reducible exact ih0 _ _ _ _ _ _ _ _ _)
   | (with_reducible exact ih1 _ _ _ _ _ _ _ _ _ _ _ _ _ _ _ _ _ _ _ _ _ _ _ _)
   | (with_reducible exact ih2 _ _ _ _ _ _ _ _ _ _ _ _ _ _ _ _ _ _ _ _ _ _ _ _)
   | (with_reducible exact ih3 _ _ _ _ _ _ _ _ _ _ _ _ _ _ _ _ _ _ _ _)
   | (with_reducible exact ih4 _ _ _ _ _ _ _ _ _ _ _ _ _ _ _ _ _ _ _)
   | (with_reducible exact ih5 _ _ _ _ _ _ _ _ _ _ _ _ _ _ _ _ _ _ _ _ _)
   | (with_reducible exact ih6 _ _ _ _ _ _ _ _ _ _ _ _ _ _ _ _ _ _ _ _)
   | (with_reducible exact ih7 _ _ _ _ _ _)
   | (with_reducible exact impl_MakerPut.mono _ _ _ _ _ _ _ _ _ _)
   | (with_reducible exact laws_eqMaker.mono _ _ _ _ _ _ _ _ _ _ _)
   | (with_reducible exact laws_heldMaker.mono _ _ _ _ _ _ _)
   | (with_reducible exact laws_markMaker.mono _ _ _ _ _ _ _)
   | (with_reducible exact laws_toMaker.mono _ _ _ _ _ _)
   | (with_reducible exact spec_MakerPut.mono _ _ _ _ _ _ _ _ _ _)
   | (with_reducible exact LeO.refl _)
   | (with_reducible exact LeO.none _)
   | (with_reducible refine LeO.ite ?_ ?_)
   | (with_reducible refine LeO.bind ?_ (fun _ => ?_))
   | exact ih0 _ _ _ _ _ _ _ _ _
   | exact ih1 _ _ _ _ _ _ _ _ _ _ _ _ _ _ _ _ _ _ _ _ _ _ _ _
   | exact ih2 _ _ _ _ _ _ _ _ _ _ _ _ _ _ _ _ _ _ _ _ _ _ _ _
   | exact ih3 _ _ _ _ _ _ _ _ _ _ _ _ _ _ _ _ _ _ _ _
   | exact ih4 _ _ _ _ _ _ _ _ _ _ _ _ _ _ _ _ _ _ _
   | exact ih5 _ _ _ _ _ _ _ _ _ _ _ _ _ _ _ _ _ _ _ _ _
   | exact ih6 _ _ _ _ _ _ _ _ _ _ _ _ _ _ _ _ _ _ _ _
   | exact ih7 _ _ _ _ _ _
   | exact impl_MakerPut.mono _ _ _ _ _ _ _ _ _ _
   | exact laws_eqMaker.mono _ _ _ _ _ _ _ _ _ _ _
   | exact laws_heldMaker.mono _ _ _ _ _ _ _
   | exact laws_markMaker.mono _ _ _ _ _ _ _
   | exact laws_toMaker.mono _ _ _ _ _ _
   | exact spec_MakerPut.mono _ _ _ _ _ _ _ _ _ _
   | exact LeO.none _
   | refine LeO.ite ?_ ?_
   | refine LeO.bind ?_ (fun _ => ?_)
  ·
   intro y0 y1 y2 y3 y4 y5 y6 y7 y8 y9 y10 y11 y12 y13 y14 y15 y16 y17 y18 y19 y20 y21 y22 y23
   unfold laws_FnExactMakerPut.j2
   repeat' first
   | (with_reducible exact ih0 _ _ _ _ _ _ _ _ _)
   | (with_reducible exact ih1 _ _ _ _ _ _ _ _ _ _ _ _ _ _ _ _ _ _ _ _ _ _ _ _)
   | (with_reducible exact ih2 _ _ _ _ _ _ _ _ _ _ _ _ _ _ _ _ _ _ _ _ _ _ _ _)
   | (with_reducible exact ih3 _ _ _ _ _ _ _ _ _ _ _ _ _ _ _ _ _ _ _ _)
   | (with_reducible exact ih4 _ _ _ _ _ _ _ _ _ _ _ _ _ _ _ _ _ _ _)
   | (with_reducible exact ih5 _ _ _ _ _ _ _ _ _ _ _ _ _ _ _ _ _ _ _ _ _)
   | (with_reducible exact ih6 _ _ _ _ _ _ _ _ _ _ _ _ _ _ _ _ _ _ _ _)
   | (with_reducible exact ih7 _ _ _ _ _ _)
   | (with_reducible exact impl_MakerPut.mono _ _ _ _ _ _ _ _ _ _)
   | (with_reducible exact laws_eqMaker.mono _ _ _ _ _ _ _ _ _ _ _)
   | (with_reducible exact laws_heldMaker.mono _ _ _ _ _ _ _)
   | (with_reducible exact laws_markMaker.mono _ _ _ _ _ _ _)
   | (with_reducible exact laws_toMaker.mono _ _ _ _ _ _)
   | (with_reducible exact spec_MakerPut.mono _ _ _ _ _ _ _ _ _ _)
   | (with_reducible exact LeO.refl _)
   | (with_reducible exact LeO.none _)
   | (with_reducible refine LeO.ite ?_ ?_)
   | (with_reducible refine LeO.bind ?_ (fun _ => ?_))
   | exact ih0 _ _ _ _ _ _ _ _ _
   | exact ih1 _ _ _ _ _ _ _ _ _ _ _ _ _ _ _ _ _ _ _ _ _ _ _ _
   | exact ih2 _ _ _ _ _ _ _ _ _ _ _ _ _ _ _ _ _ _ _ _ _ _ _ _
   | exact ih3 _ _ _ _ _ _ _ _ _ _ _ _ _ _ _ _ _ _ _ _
   | exact ih4 _ _ _ _ _ _ _ _ _ _ _ _ _ _ _ _ _ _ _
   | exact ih5 _ _ _ _ _ _ _ _ _ _ _ _ _ _ _ _ _ _ _ _ _
   | exact ih6 _ _ _ _ _ _ _ _ _ _ _ _ _ _ _ _ _ _ _ _
   | exact ih7 _ _ _ _ _ _
   | exact impl_MakerPut.mono _ _ _ _ _ _ _ _ _ _
   | exact laws_eqMaker.mono _ _ _ _ _ _ _ _ _ _ _
   | exact laws_heldMaker.mono _ _ _ _ _ _ _
   | exact laws_markMaker.mono _ _ _ _ _ _ _
   | exact laws_toMaker.mono _ _ _ _ _ _
   | exact spec_MakerPut.mono _ _ _ _ _ _ _ _ _ _
   | exact LeO.none _
   | refine LeO.ite ?_ ?_
   | refine LeO.bind ?_ (fun _ => ?_)
  ·
   intro y0 y1 y2 y3 y4 y5 y6 y7 y8 y9 y10 y11 y12 y13 y14 y15 y16 y17 y18 y19
   unfold laws_FnExactMakerPut.j3
   repeat' first
   | (with_reducible exact ih0 _ _ _ _ _ _ _ _ _)
   | (with_reducible exact ih1 _ _ _ _ _ _ _ _ _ _ _ _ _ _ _ _ _ _ _ _ _ _ _ _)
   | (with_reducible exact ih2 _ _ _ _ _ _ _ _ _ _ _ _ _ _ _ _ _ _ _ _ _ _ _ _)
   | (with_reducible exact ih3 _ _ _ _ _ _ _ _ _ _ _ _ _ _ _ _ _ _ _ _)
   | (with_reducible exact ih4 _ _ _ _ _ _ _ _ _ _ _ _ _ _ _ _ _ _ _)
   | (with_reducible exact ih5 _ _ _ _ _ _ _ _ _ _ _ _ _ _ _ _ _ _ _ _ _)
   | (with_reducible exact ih6 _ _ _ _ _ _ _ _ _ _ _ _ _ _ _ _ _ _ _ _)
   | (with_reducible exact ih7 _ _ _ _ _ _)
   | (with_reducible exact impl_MakerPut.mono _ _ _ _ _ _ _ _ _ _)
   | (with_reducible exact laws_eqMaker.mono _ _ _ _ _ _ _ _ _ _ _)
   | (with_reducible exact laws_heldMaker.mono _ _ _ _ _ _ _)
   | (with_reducible exact laws_markMaker.mono _ _ _ _ _ _ _)
   | (with_reducible exact laws_toMaker.mono _ _ _ _ _ _)
   | (with_reducible exact spec_MakerPut.mono _ _ _ _ _ _ _ _ _ _)
   | (with_reducible exact LeO.refl _)
   | (with_reducible exact LeO.none _)
   | (with_reducible refine LeO.ite ?_ ?_)
   | (with_reducible refine LeO.bind ?_ (fun _ => ?_))
   | exact ih0 _ _ _ _ _ _ _ _ _
   | exact ih1 _ _ _ _ _ _ _ _ _ _ _ _ _ _ _ _ _ _ _ _ _ _ _ _
   | exact ih2 _ _ _ _ _ _ _ _ _ _ _ _ _ _ _ _ _ _ _ _ _ _ _ _
   | exact ih3 _ _ _ _ _ _ _ _ _ _ _ _ _ _ _ _ _ _ _ _
   | exact ih4 _ _ _ _ _ _ _ _ _ _ _ _ _ _ _ _ _ _ _
   | exact ih5 _ _ _ _ _ _ _ _ _ _ _ _ _ _ _ _ _ _ _ _ _
   | exact ih6 _ _ _ _ _ _ _ _ _ _ _ _ _ _ _ _ _ _ _ _
   | exact ih7 _ _ _ _ _ _
   | exact impl_MakerPut.mono _ _ _ _ _ _ _ _ _ _
   | exact laws_eqMaker.mono _ _ _ _ _ _ _ _ _ _ _
   | exact laws_heldMaker.mono _ _ _ _ _ _ _
   | exact laws_markMaker.mono _ _ _ _ _ _ _
   | exact laws_toMaker.mono _ _ _ _ _ _
   | exact spec_MakerPut.mono _ _ _ _ _ _ _ _ _ _
   | exact LeO.none _
   | refine LeO.ite ?_ ?_
   | refine LeO.bind ?_ (fun _ => ?_)
  ·
   intro y0 y1 y2 y3 y4 y5 y6 y7 y8 y9 y10 y11 y12 y13 y14 y15 y16 y17 y18
   unfold laws_FnExactMakerPut.j4
   repeat' first
   | (with_reducible exact ih0 _ _ _ _ _ _ _ _ _)
   | (with_reducible exact ih1 _ _ _ _ _ _ _ _ _ _ _ _ _ _ _ _ _ _ _ _ _ _ _ _)
   | (with_reducible exact ih2 _ _ _ _ _ _ _ _ _ _ _ _ _ _ _ _ _ _ _ _ _ _ _ _)
   | (with_reducible exact ih3 _ _ _ _ _ _ _ _ _ _ _ _ _ _ _ _ _ _ _ _)
   | (with_reducible exact ih4 _ _ _ _ _ _ _ _ _ _ _ _ _ _ _ _ _ _ _)
   | (with_reducible exact ih5 _ _ _ _ _ _ _ _ _ _ _ _ _ _ _ _ _ _ _ _ _)
   | (with_reducible exact ih6 _ _ _ _ _ _ _ _ _ _ _ _ _ _ _ _ _ _ _ _)
   | (with_reducible exact ih7 _ _ _ _ _ _)
   | (with_reducible exact impl_MakerPut.mono _ _ _ _ _ _ _ _ _ _)
   | (with_reducible exact laws_eqMaker.mono _ _ _ _ _ _ _ _ _ _ _)
   | (with_reducible exact laws_heldMaker.mono _ _ _ _ _ _ _)
   | (with_reducible exact laws_markMaker.mono _ _ _ _ _ _ _)
   | (with_reducible exact laws_toMaker.mono _ _ _ _ _ _)
   | (with_reducible exact spec_MakerPut.mono _ _ _ _ _ _ _ _ _ _)
   | (with_reducible exact LeO.refl _)
   | (with_reducible exact LeO.none _)
   | (with_reducible refine LeO.ite ?_ ?_)
   | (with_reducible refine LeO.bind ?_ (fun _ => ?_))
   | exact ih0 _ _ _ _ _ _ _ _ _
   | exact ih1 _ _ _ _ _ _ _ _ _ _ _ _ _ _ _ _ _ _ _ _ _ _ _ _
   | exact ih2 _ _ _ _ _ _ _ _ _ _ _ _ _ _ _ _ _ _ _ _ _ _ _ _
   | exact ih3 _ _ _ _ _ _ _ _ _ _ _ _ _ _ _ _ _ _ _ _
   | exact ih4 _ _ _ _ _ _ _ _ _ _ _ _ _ _ _ _ _ _ _
   | exact ih5 _ _ _ _ _ _ _ _ _ _ _ _ _ _ _ _ _ _ _ _ _
   | exact ih6 _ _ _ _ _ _ _ _ _ _ _ _ _ _ _ _ _ _ _ _
   | exact ih7 _ _ _ _ _ _
   | exact impl_MakerPut.mono _ _ _ _ _ _ _ _ _ _
   | exact laws_eqMaker.mono _ _ _ _ _ _ _ _ _ _ _
   | exact laws_heldMaker.mono _ _ _ _ _ _ _
   | exact laws_markMaker.mono _ _ _ _ _ _ _
   | exact laws_toMaker.mono _ _ _ _ _ _
   | exact spec_MakerPut.mono _ _ _ _ _ _ _ _ _ _
   | exact LeO.none _
   | refine LeO.ite ?_ ?_
   | refine LeO.bind ?_ (fun _ => ?_)
  ·
   intro y0 y1 y2 y3 y4 y5 y6 y7 y8 y9 y10 y11 y12 y13 y14 y15 y16 y17 y18 y19 y20
   unfold laws_FnExactMakerPut.j5
   repeat' first
   | (with_reducible exact ih0 _ _ _ _ _ _ _ _ _)
   | (with_reducible exact ih1 _ _ _ _ _ _ _ _ _ _ _ _ _ _ _ _ _ _ _ _ _ _ _ _)
   | (with_reducible exact ih2 _ _ _ _ _ _ _ _ _ _ _ _ _ _ _ _ _ _ _ _ _ _ _ _)
   | (with_reducible exact ih3 _ _ _ _ _ _ _ _ _ _ _ _ _ _ _ _ _ _ _ _)
   | (with_reducible exact ih4 _ _ _ _ _ _ _ _ _ _ _ _ _ _ _ _ _ _ _)
   | (with_reducible exact ih5 _ _ _ _ _ _ _ _ _ _ _ _ _ _ _ _ _ _ _ _ _)
   | (with_reducible exact ih6 _ _ _ _ _ _ _ _ _ _ _ _ _ _ _ _ _ _ _ _)
   | (with_reducible exact ih7 _ _ _ _ _ _)
   | (with_reducible exact impl_MakerPut.mono _ _ _ _ _ _ _ _ _ _)
   | (with_reducible exact laws_eqMaker.mono _ _ _ _ _ _ _ _ _ _ _)
   | (with_reducible exact laws_heldMaker.mono _ _ _ _ _ _ _)
   | (with_reducible exact laws_markMaker.mono _ _ _ _ _ _ _)
   | (with_reducible exact laws_toMaker.mono _ _ _ _ _ _)
   | (with_reducible exact spec_MakerPut.mono _ _ _ _ _ _ _ _ _ _)
   | (with_reducible exact LeO.refl _)
   | (with_reducible exact LeO.none _)
   | (with_reducible refine LeO.ite ?_ ?_)
   | (with_reducible refine LeO.bind ?_ (fun _ => ?_))
   | exact ih0 _ _ _ _ _ _ _ _ _
   | exact ih1 _ _ _ _ _ _ _ _ _ _ _ _ _ _ _ _ _ _ _ _ _ _ _ _
   | exact ih2 _ _ _ _ _ _ _ _ _ _ _ _ _ _ _ _ _ _ _ _ _ _ _ _
   | exact ih3 _ _ _ _ _ _ _ _ _ _ _ _ _ _ _ _ _ _ _ _
   | exact ih4 _ _ _ _ _ _ _ _ _ _ _ _ _ _ _ _ _ _ _
   | exact ih5 _ _ _ _ _ _ _ _ _ _ _ _ _ _ _ _ _ _ _ _ _
   | exact ih6 _ _ _ _ _ _ _ _ _ _ _ _ _ _ _ _ _ _ _ _
   | exact ih7 _ _ _ _ _ _
   | exact impl_MakerPut.mono _ _ _ _ _ _ _ _ _ _
   | exact laws_eqMaker.mono _ _ _ _ _ _ _ _ _ _ _
   | exact laws_heldMaker.mono _ _ _ _ _ _ _
   | exact laws_markMaker.mono _ _ _ _ _ _ _
   | exact laws_toMaker.mono _ _ _ _ _ _
   | exact spec_MakerPut.mono _ _ _ _ _ _ _ _ _ _
   | exact LeO.none _
   | refine LeO.ite ?_ ?_
   | refine LeO.bind ?_ (fun _ => ?_)
  ·
   intro y0 y1 y2 y3 y4 y5 y6 y7 y8 y9 y10 y11 y12 y13 y14 y15 y16 y17 y18 y19
   unfold laws_FnExactMakerPut.j6
   repeat' first
   | (with_reducible exact ih0 _ _ _ _ _ _ _ _ _)
   | (with_reducible exact ih1 _ _ _ _ _ _ _ _ _ _ _ _ _ _ _ _ _ _ _ _ _ _ _ _)
   | (with_reducible exact ih2 _ _ _ _ _ _ _ _ _ _ _ _ _ _ _ _ _ _ _ _ _ _ _ _)
   | (with_reducible exact ih3 _ _ _ _ _ _ _ _ _ _ _ _ _ _ _ _ _ _ _ _)
   | (with_reducible exact ih4 _ _ _ _ _ _ _ _ _ _ _ _ _ _ _ _ _ _ _)
   | (with_reducible exact ih5 _ _ _ _ _ _ _ _ _ _ _ _ _ _ _ _ _ _ _ _ _)
   | (with_reducible exact ih6 _ _ _ _ _ _ _ _ _ _ _ _ _ _ _ _ _ _ _ _)
   | (with_reducible exact ih7 _ _ _ _ _ _)
   | (with_reducible exact impl_MakerPut.mono _ _ _ _ _ _ _ _ _ _)
   | (with_reducible exact laws_eqMaker.mono _ _ _ _ _ _ _ _ _ _ _)
   | (with_reducible exact laws_heldMaker.mono _ _ _ _ _ _ _)
   | (with_reducible exact laws_markMaker.mono _ _ _ _ _ _ _)
   | (with_reducible exact laws_toMaker.mono _ _ _ _ _ _)
   | (with_reducible exact spec_MakerPut.mono _ _ _ _ _ _ _ _ _ _)
   | (with_reducible exact LeO.refl _)
   | (with_reducible exact LeO.none _)
   | (with_reducible refine LeO.ite ?_ ?_)
   | (with_reducible refine LeO.bind ?_ (fun _ => ?_))
   | exact ih0 _ _ _ _ _ _ _ _ _
   | exact ih1 _ _ _ _ _ _ _ _ _ _ _ _ _ _ _ _ _ _ _ _ _ _ _ _
   | exact ih2 _ _ _ _ _ _ _ _ _ _ _ _ _ _ _ _ _ _ _ _ _ _ _ _
   | exact ih3 _ _ _ _ _ _ _ _ _ _ _ _ _ _ _ _ _ _ _ _
   | exact ih4 _ _ _ _ _ _ _ _ _ _ _ _ _ _ _ _ _ _ _
   | exact ih5 _ _ _ _ _ _ _ _ _ _ _ _ _ _ _ _ _ _ _ _ _
   | exact ih6 _ _ _ _ _ _ _ _ _ _ _ _ _ _ _ _ _ _ _ _
   | exact ih7 _ _ _ _ _ _
   | exact impl_MakerPut.mono _ _ _ _ _ _ _ _ _ _
   | exact laws_eqMaker.mono _ _ _ _ _ _ _ _ _ _ _
   | exact laws_heldMaker.mono _ _ _ _ _ _ _
   | exact laws_markMaker.mono _ _ _ _ _ _ _
   | exact laws_toMaker.mono _ _ _ _ _ _
   | exact spec_MakerPut.mono _ _ _ _ _ _ _ _ _ _
   | exact LeO.none _
   | refine LeO.ite ?_ ?_
   | refine LeO.bind ?_ (fun _ => ?_)
  ·
   intro y0 y1 y2 y3 y4 y5
   unfold laws_FnExactMakerPut.j7
   repeat' first
   | (with_reducible exact ih0 _ _ _ _ _ _ _ _ _)
   | (with_reducible exact ih1 _ _ _ _ _ _ _ _ _ _ _ _ _ _ _ _ _ _ _ _ _ _ _ _)
   | (with_reducible exact ih2 _ _ _ _ _ _ _ _ _ _ _ _ _ _ _ _ _ _ _ _ _ _ _ _)
   | (with_reducible exact ih3 _ _ _ _ _ _ _ _ _ _ _ _ _ _ _ _ _ _ _ _)
   | (with_reducible exact ih4 _ _ _ _ _ _ _ _ _ _ _ _ _ _ _ _ _ _ _)
   | (with_reducible exact ih5 _ _ _ _ _ _ _ _ _ _ _ _ _ _ _ _ _ _ _ _ _)
   | (with_reducible exact ih6 _ _ _ _ _ _ _ _ _ _ _ _ _ _ _ _ _ _ _ _)
   | (with_reducible exact ih7 _ _ _ _ _ _)
   | (with_reducible exact impl_MakerPut.mono _ _ _ _ _ _ _ _ _ _)
   | (with_reducible exact laws_eqMaker.mono _ _ _ _ _ _ _ _ _ _ _)
   | (with_reducible exact laws_heldMaker.mono _ _ _ _ _ _ _)
   | (with_reducible exact laws_markMaker.mono _ _ _ _ _ _ _)
   | (with_reducible exact laws_toMaker.mono _ _ _ _ _ _)
   | (with_reducible exact spec_MakerPut.mono _ _ _ _ _ _ _ _ _ _)
   | (with_reducible exact LeO.refl _)
   | (with_reducible exact LeO.none _)
   | (with_reducible refine LeO.ite ?_ ?_)
   | (with_reducible refine LeO.bind ?_ (fun _ => ?_))
   | exact ih0 _ _ _ _ _ _ _ _ _
   | exact ih1 _ _ _ _ _ _ _ _ _ _ _ _ _ _ _ _ _ _ _ _ _ _ _ _
   | exact ih2 _ _ _ _ _ _ _ _ _ _ _ _ _ _ _ _ _ _ _ _ _ _ _ _
   | exact ih3 _ _ _ _ _ _ _ _ _ _ _ _ _ _ _ _ _ _ _ _
   | exact ih4 _ _ _ _ _ _ _ _ _ _ _ _ _ _ _ _ _ _ _
   | exact ih5 _ _ _ _ _ _ _ _ _ _ _ _ _ _ _ _ _ _ _ _ _
   | exact ih6 _ _ _ _ _ _ _ _ _ _ _ _ _ _ _ _ _ _ _ _
   | exact ih7 _ _ _ _ _ _
   | exact impl_MakerPut.mono _ _ _ _ _ _ _ _ _ _
   | exact laws_eqMaker.mono _ _ _ _ _ _ _ _ _ _ _
   | exact laws_heldMaker.mono _ _ _ _ _ _ _
   | exact laws_markMaker.mono _ _ _ _ _ _ _
   | exact laws_toMaker.mono _ _ _ _ _ _
   | exact spec_MakerPut.mono _ _ _ _ _ _ _ _ _ _
   | exact LeO.none _
   | refine LeO.ite ?_ ?_
   | refine LeO.bind ?_ (fun _ => ?_)
theorem laws_FnExactMakerPut.mono : ∀ a0 a1 a2 a3 a4 a5 a6 a7 a8 k, LeO (laws_FnExactMakerPut.f k a0 a1 a2 a3 a4 a5 a6 a7 a8) (laws_FnExactMakerPut.f (k + 1) a0 a1 a2 a3 a4 a5 a6 a7 a8) := by
 intro a0 a1 a2 a3 a4 a5 a6 a7 a8 k
 obtain ⟨ih0, ih1, ih2, ih3, ih4, ih5, ih6, ih7⟩ := laws_FnExactMakerPut.mono_l k
 unfold laws_FnExactMakerPut.f
 repeat' first
  | (with_reducible exact ih0 _ _ _ _ _ _ _ _ _)
  | (with_reducible exact ih1 _ _ _ _ _ _ _ _ _ _ _ _ _ _ _ _ _ _ _ _ _ _ _ _)
  | (with_reducible exact ih2 _ _ _ _ _ _ _ _ _ _ _ _ _ _ _ _ _ _ _ _ _ _ _ _)
  | (with_reducible exact ih3 _ _ _ _ _ _ _ _ _ _ _ _ _ _ _ _ _ _ _ _)
  | (with_reducible exact ih4 _ _ _ _ _ _ _ _ _ _ _ _ _ _ _ _ _ _ _)
  | (with_reducible exact ih5 _ _ _ _ _ _ _ _ _ _ _ _ _ _ _ _ _ _ _ _ _)
  | (with_reducible exact ih6 _ _ _ _ _ _ _ _ _ _ _ _ _ _ _ _ _ _ _ _)
  | (with_reducible exact ih7 _ _ _ _ _ _)
  | (with_reducible exact impl_MakerPut.mono _ _ _ _ _ _ _ _ _ _)
  | (with_reducible exact laws_eqMaker.mono _ _ _ _ _ _ _ _ _ _ _)
  | (with_reducible exact laws_heldMaker.mono _ _ _ _ _ _ _)
  | (with_reducible exact laws_markMaker.mono _ _ _ _ _ _ _)
  | (with_reducible exact laws_toMaker.mono _ _ _ _ _ _)
  | (with_reducible exact spec_MakerPut.mono _ _ _ _ _ _ _ _ _ _)
  | (with_reducible exact LeO.refl _)
  | (with_reducible exact LeO.none _)
  | (with_reducible refine LeO.ite ?_ ?_)
  | (with_reducible refine LeO.bind ?_ (fun _ => ?_))
  | exact ih0 _ _ _ _ _ _ _ _ _
  | exact ih1 _ _ _ _ _ _ _ _ _ _ _ _ _ _ _ _ _ _ _ _ _ _ _ _
  | exact ih2 _ _ _ _ _ _ _ _ _ _ _ _ _ _ _ _ _ _ _ _ _ _ _ _
  | exact ih3 _ _ _ _ _ _ _ _ _ _ _ _ _ _ _ _ _ _ _ _
  | exact ih4 _ _ _ _ _ _ _ _ _ _ _ _ _ _ _ _ _ _ _
  | exact ih5 _ _ _ _ _ _ _ _ _ _ _ _ _ _ _ _ _ _ _ _ _
  | exact ih6 _ _ _ _ _ _ _ _ _ _ _ _ _ _ _ _ _ _ _ _
  | exact ih7 _ _ _ _ _ _
  | exact impl_MakerPut.mono _ _ _ _ _ _ _ _ _ _
  | exact laws_eqMaker.mono _ _ _ _ _ _ _ _ _ _ _
  | exact laws_heldMaker.mono _ _ _ _ _ _ _
  | exact laws_markMaker.mono _ _ _ _ _ _ _
  | exact laws_toMaker.mono _ _ _ _ _ _
  | exact spec_MakerPut.mono _ _ _ _ _ _ _ _ _ _
  | exact LeO.none _
  | refine LeO.ite ?_ ?_
  | refine LeO.bind ?_ (fun _ => ?_)
set_option maxHeartbeats 8000000 in
set_option maxRecDepth 100000 in
theorem laws_FnExactMakerPut.calls (k : Nat) (a0_0 : Int) (a0_1 : Int) (a0_2 : Int) (a0_3 : Int) (A0_4 : Option Addr) (c0_4 : Nat) (l0_4 : List (S_LMark)) (a1 : Int) (a2 : Int) (a3 : Int) (a4 : Int) (r : Bool) (w : World) (hr0_4 : Kd.C k_LMark w A0_4 l0_4.length l0_4) (hc0_4 : l0_4.length ≤ c0_4) (h : laws_FnExactMakerPut.f k a0_0 a0_1 a0_2 a0_3 l0_4 a1 a2 a3 a4 = some r) :
 Calls Try.prog 13 #[.agg #[.int .i64 a0_0, .int .i64 a0_1, .int .i64 a0_2, .int .i64 a0_3, .slice A0_4 l0_4.length c0_4], .int .i64 a1, .int .i64 a2, .int .i64 a3, .int .i64 a4] w fun e w' => e = .returned (.bool r) ∧ Below w.heap.size w w' := by
 have hu48 := Try.underlying48
 have hu54 := Try.underlying54
 have HR0_4 := Aside0.mk hr0_4
 have HC0_4 := Aside0.mk hc0_4
 clear hr0_4 hc0_4
 have HB := Aside0.mk (Below.refl w.heap.size w)
 have H : ((laws_szMaker.f a0_0 a0_1 a0_2 a0_3 l0_4 1048576).bind fun t1123 => (if t1123 < 0 then (some true) else (laws_FnExactMakerPut.j0 k a1 a2 a3 a4 a0_0 a0_1 a0_2 a0_3 l0_4))) = some r := h
 clear h
 replace H := Option.bind_eq_some_iff.mp H
 obtain ⟨t1123, A60, H⟩ := H
 replace H : (if t1123 < 0 then (some true) else (laws_FnExactMakerPut.j0 k a1 a2 a3 a4 a0_0 a0_1 a0_2 a0_3 l0_4)) = some r := H
 have A6 := Aside0.mk A60
 clear A60
 have HC7 := Aside0.mk H
 clear H
 go_enter Try.func13, Try.ntmps13
 go_upto_if 23 with (first | ((with_reducible refine gate_dst (N := 5) rfl ?_); refine box_event ?hg (N := 5) ?hd (cs := #[.int .i64 a0_0, .int .i64 a0_1, .int .i64 a0_2, .int .i64 a0_3, .slice A0_4 l0_4.length c0_4]) (t := 48) ?hr ?_; (case hd => rfl); (case hg => rfl); (case hr => first | (go_simp; done) | (go_simp; rfl)); intro gb1122 hg w8 hbox hb; have n0_ := Aside0.mk (below_step (hb_ HB.out) hb); have n1_ := Aside0.mk (hbox); have n2_ := Aside0.mk ((by rw [hg]; exact (below_size (hb_ HB.out)) : w.heap.size ≤ gb1122)); have n3_ := Aside0.mk ((by rw [hg]; exact (below_size (hb_ HB.out)) : w.heap.size ≤ gb1122)); clear HB; have HB := n0_; have BK1122 := n1_; have GW1122 := n2_; have GE1122 := n3_; clear n0_ n1_ n2_ n3_; clear hb hbox hg; have hcz9_0 : w8.cell? ⟨gb1122, 0, none⟩ = some (.int .i64 a0_0) := (blk_cell BK1122.out 0).trans rfl; have hcz9_1 : w8.cell? ⟨gb1122, 1, none⟩ = some (.int .i64 a0_1) := (blk_cell BK1122.out 1).trans rfl; have hcz9_2 : w8.cell? ⟨gb1122, 2, none⟩ = some (.int .i64 a0_2) := (blk_cell BK1122.out 2).trans rfl; have hcz9_3 : w8.cell? ⟨gb1122, 3, none⟩ = some (.int .i64 a0_3) := (blk_cell BK1122.out 3).trans rfl; have hcz9_4 : w8.cell? ⟨gb1122, 4, none⟩ = some (.slice A0_4 l0_4.length c0_4) := (blk_cell BK1122.out 4).trans rfl; have hfz9_0 := blk_frozen BK1122.out 0; have hfz9_1 := blk_frozen BK1122.out 1; have hfz9_2 := blk_frozen BK1122.out 2; have hfz9_3 := blk_frozen BK1122.out 3; have hfz9_4 := blk_frozen BK1122.out 4) | ((with_reducible refine gate_callee (f := 26) rfl ?_); refine goesL_ (some 21) rfl rfl Try.func26 (by kernel_rfl) rfl #[.agg #[.int .i64 a0_0, .int .i64 a0_1, .int .i64 a0_2, .int .i64 a0_3, .slice A0_4 l0_4.length c0_4], .int .i64 1048576] rfl sm_ ?_; (with_reducible refine (laws_szMaker.calls a0_0 a0_1 a0_2 a0_3 _ _ l0_4 1048576 t1123 _ ?side1 ?side2 A6.out).mono ?_); (case side1 => repeat (first | exact (Kd.C_below HR0_4.out HB.out) | (with_reducible refine Kd.C_alloc ?_ _) | (with_reducible refine Kd.C_drewN ?_ _) | (with_reducible refine Kd.C_drew ?_))); (case side2 => exact HC0_4.out); rintro e w10 ⟨rfl, hb⟩; refine ⟨_, rfl, ?_⟩; have n0_ := Aside0.mk (bb_ BK1122.out hb); have n1_ := Aside0.mk (below_step (hb_ HB.out) hb); clear BK1122; clear HB; have BK1122 := n0_; have HB := n1_; clear n0_ n1_; (try clear hb); (try clear hb2); (try clear hk); (try clear hi)))
 (try simp only [Act.put, List.setIfInBounds_toArray, List.set_cons_zero, List.set_cons_succ])
 go_cut [] (fun wc => ∃ (kq : Nat), Aside0 (laws_FnExactMakerPut.j0 kq a1 a2 a3 a4 a0_0 a0_1 a0_2 a0_3 l0_4 = some r) ∧ Aside0 (kq ≤ k) ∧ Aside0 (wc.heap[gb1122]? = some (.cells #[.int .i64 a0_0, .int .i64 a0_1, .int .i64 a0_2, .int .i64 a0_3, (.slice A0_4 l0_4.length c0_4)] 48 (0, 0))) ∧ Aside0 (Below w.heap.size w wc))
 case first =>
  have H := HC7.out
  clear HC7
  by_cases c11 : t1123 < 0
  ·
   rw [if_pos c11] at H
   have c11b0 : decide (t1123 < 0) = true := decide_eq_true c11
   clear c11
   (first | rw [c11b0] | (simp only [i64_w, i32_w]; rw [c11b0]) | rw [c11b4] | rw [c11b3] | skip)
   obtain rfl := Option.some.inj H
   go_wp2
   go_ret
   exact ⟨er_, hb_ HB.out⟩
  ·
   rw [if_neg c11] at H
   have c11b0 : decide (t1123 < 0) = false := decide_eq_false c11
   clear c11
   (first | rw [c11b0] | (simp only [i64_w, i32_w]; rw [c11b0]) | rw [c11b4] | rw [c11b3] | skip)
   have H' := Aside0.mk H
   clear H
   go_wp2
   go_meet
   case rel => exact ⟨_, H', ⟨by first | omega | exact Nat.le_refl _⟩, ⟨bq_ BK1122.out⟩, ⟨hb_ HB.out⟩⟩
 case rest =>
  clear HC7
  (try clear c1); (try clear c2); (try clear p2); (try clear c11); (try clear c11b0); (try clear hcz9_0); (try clear hcz9_1); (try clear hcz9_2); (try clear hcz9_3); (try clear hcz9_4); (try clear hfz9_0); (try clear hfz9_1); (try clear hfz9_2); (try clear hfz9_3); (try clear hfz9_4)
  obtain ⟨kq, HA, HJ6, BK1122, HB⟩ := hcut
  cases kq with
  | zero => exact absurd HA.out (by simp [laws_FnExactMakerPut.j0])
  | succ kj6 =>
   have H := HA.out
   clear HA
   simp only [laws_FnExactMakerPut.j0] at H
   replace H := Option.bind_eq_some_iff.mp H
   obtain ⟨⟨t1124, t1125, t1126, t1127, t1128⟩, A120, H⟩ := H
   replace H : ((spec_MakerPut.f kj6 t1124 t1125 t1126 t1127 t1128 a1 a2 a3 a4).bind fun bt1131 => ((laws_toMaker.f kj6 a0_0 a0_1 a0_2 a0_3 l0_4).bind fun bt1139 => ((impl_MakerPut.f kj6 bt1139.1 bt1139.2.1 bt1139.2.2.1 bt1139.2.2.2.1 bt1139.2.2.2.2 a1 a2 a3 a4).bind fun bt1147 => ((laws_eqMaker.f kj6 bt1147.1 bt1147.2.1 bt1147.2.2.1 bt1147.2.2.2.1 bt1147.2.2.2.2 bt1131.1 bt1131.2.1 bt1131.2.2.1 bt1131.2.2.2.1 bt1131.2.2.2.2).bind fun t1155 => (if t1155 = true then (laws_FnExactMakerPut.j1 kj6 a1 a2 a3 a4 a0_0 a0_1 a0_2 a0_3 l0_4 bt1131.1 bt1131.2.1 bt1131.2.2.1 bt1131.2.2.2.1 bt1131.2.2.2.2 bt1139.1 bt1139.2.1 bt1139.2.2.1 bt1139.2.2.2.1 bt1139.2.2.2.2 bt1147.1 bt1147.2.1 bt1147.2.2.1 bt1147.2.2.2.1 bt1147.2.2.2.2) else (some false)))))) = some r := H
   have A12 := Aside0.mk A120
   clear A120
   replace H := Option.bind_eq_some_iff.mp H
   obtain ⟨⟨t1131, t1132, t1133, t1134, t1135⟩, A130, H⟩ := H
   replace H : ((laws_toMaker.f kj6 a0_0 a0_1 a0_2 a0_3 l0_4).bind fun bt1139 => ((impl_MakerPut.f kj6 bt1139.1 bt1139.2.1 bt1139.2.2.1 bt1139.2.2.2.1 bt1139.2.2.2.2 a1 a2 a3 a4).bind fun bt1147 => ((laws_eqMaker.f kj6 bt1147.1 bt1147.2.1 bt1147.2.2.1 bt1147.2.2.2.1 bt1147.2.2.2.2 t1131 t1132 t1133 t1134 t1135).bind fun t1155 => (if t1155 = true then (laws_FnExactMakerPut.j1 kj6 a1 a2 a3 a4 a0_0 a0_1 a0_2 a0_3 l0_4 t1131 t1132 t1133 t1134 t1135 bt1139.1 bt1139.2.1 bt1139.2.2.1 bt1139.2.2.2.1 bt1139.2.2.2.2 bt1147.1 bt1147.2.1 bt1147.2.2.1 bt1147.2.2.2.1 bt1147.2.2.2.2) else (some false))))) = some r := H
   have A13 := Aside0.mk A130
   clear A130
   replace H := Option.bind_eq_some_iff.mp H
   obtain ⟨⟨t1139, t1140, t1141, t1142, t1143⟩, A140, H⟩ := H
   replace H : ((impl_MakerPut.f kj6 t1139 t1140 t1141 t1142 t1143 a1 a2 a3 a4).bind fun bt1147 => ((laws_eqMaker.f kj6 bt1147.1 bt1147.2.1 bt1147.2.2.1 bt1147.2.2.2.1 bt1147.2.2.2.2 t1131 t1132 t1133 t1134 t1135).bind fun t1155 => (if t1155 = true then (laws_FnExactMakerPut.j1 kj6 a1 a2 a3 a4 a0_0 a0_1 a0_2 a0_3 l0_4 t1131 t1132 t1133 t1134 t1135 t1139 t1140 t1141 t1142 t1143 bt1147.1 bt1147.2.1 bt1147.2.2.1 bt1147.2.2.2.1 bt1147.2.2.2.2) else (some false)))) = some r := H
   have A14 := Aside0.mk A140
   clear A140
   replace H := Option.bind_eq_some_iff.mp H
   obtain ⟨⟨t1147, t1148, t1149, t1150, t1151⟩, A150, H⟩ := H
   replace H : ((laws_eqMaker.f kj6 t1147 t1148 t1149 t1150 t1151 t1131 t1132 t1133 t1134 t1135).bind fun t1155 => (if t1155 = true then (laws_FnExactMakerPut.j1 kj6 a1 a2 a3 a4 a0_0 a0_1 a0_2 a0_3 l0_4 t1131 t1132 t1133 t1134 t1135 t1139 t1140 t1141 t1142 t1143 t1147 t1148 t1149 t1150 t1151) else (some false))) = some r := H
   have A15 := Aside0.mk A150
   clear A150
   replace H := Option.bind_eq_some_iff.mp H
   obtain ⟨t1155, A160, H⟩ := H
   replace H : (if t1155 = true then (laws_FnExactMakerPut.j1 kj6 a1 a2 a3 a4 a0_0 a0_1 a0_2 a0_3 l0_4 t1131 t1132 t1133 t1134 t1135 t1139 t1140 t1141 t1142 t1143 t1147 t1148 t1149 t1150 t1151) else (some false)) = some r := H
   have A16 := Aside0.mk A160
   clear A160
   have HC17 := Aside0.mk H
   clear H
   have hcz18_0 : wc.cell? ⟨gb1122, 0, none⟩ = some (.int .i64 a0_0) := (blk_cell BK1122.out 0).trans rfl
   have hcz18_1 : wc.cell? ⟨gb1122, 1, none⟩ = some (.int .i64 a0_1) := (blk_cell BK1122.out 1).trans rfl
   have hcz18_2 : wc.cell? ⟨gb1122, 2, none⟩ = some (.int .i64 a0_2) := (blk_cell BK1122.out 2).trans rfl
   have hcz18_3 : wc.cell? ⟨gb1122, 3, none⟩ = some (.int .i64 a0_3) := (blk_cell BK1122.out 3).trans rfl
   have hcz18_4 : wc.cell? ⟨gb1122, 4, none⟩ = some (.slice A0_4 l0_4.length c0_4) := (blk_cell BK1122.out 4).trans rfl
   have hfz18_0 := blk_frozen BK1122.out 0
   have hfz18_1 := blk_frozen BK1122.out 1
   have hfz18_2 := blk_frozen BK1122.out 2
   have hfz18_3 := blk_frozen BK1122.out 3
   have hfz18_4 := blk_frozen BK1122.out 4
   go_upto_if 42 with (first | ((with_reducible refine gate_callee (f := 28) rfl ?_); refine goesL_ (some 25) rfl rfl Try.func28 (by kernel_rfl) rfl #[.agg #[.int .i64 a0_0, .int .i64 a0_1, .int .i64 a0_2, .int .i64 a0_3, .slice A0_4 l0_4.length c0_4]] rfl sm_ ?_; (with_reducible refine (laws_toMaker.calls kj6 a0_0 a0_1 a0_2 a0_3 _ _ l0_4 t1124 t1125 t1126 t1127 t1128 _ ?side1 ?side2 A12.out).mono ?_); (case side1 => repeat (first | exact (Kd.C_below HR0_4.out HB.out) | (with_reducible refine Kd.C_alloc ?_ _) | (with_reducible refine Kd.C_drewN ?_ _) | (with_reducible refine Kd.C_drew ?_))); (case side2 => exact HC0_4.out); rintro e w19 ⟨v1129, rfl, ho0, hb⟩; refine ⟨_, rfl, ?_⟩; have n0_ := Aside0.mk (Kd.R_lower ho0 (below_size (hb_ HB.out))); have n1_ := Aside0.mk (bb_ BK1122.out hb); have n2_ := Aside0.mk (below_step (hb_ HB.out) hb); clear BK1122; clear HB; have HO1130 := n0_; have BK1122 := n1_; have HB := n2_; clear n0_ n1_ n2_; (try clear hb); (try clear hb2); (try clear hk); (try clear hi); (try clear ho0); obtain ⟨Ao20, co20, eo20⟩ := Kd.R_slice HO1130.out; subst eo20) | ((with_reducible refine gate_callee (f := 71) rfl ?_); refine goesL_ (some 30) rfl rfl Try.func71 (by kernel_rfl) rfl #[.agg #[.int .i64 t1124, .int .i64 t1125, .int .i64 t1126, .int .i64 t1127, .slice Ao20 t1128.length co20], .int .i64 a1, .int .i64 a2, .int .i64 a3, .int .i64 a4] rfl sm_ ?_; (with_reducible refine (spec_MakerPut.calls kj6 t1124 t1125 t1126 t1127 _ _ t1128 a1 a2 a3 a4 t1131 t1132 t1133 t1134 t1135 _ ?side1 ?side2 A13.out).mono ?_); (case side1 => repeat (first | exact (Kd.R_reads' HO1130.out).2.2 | (with_reducible refine Kd.C_alloc ?_ _) | (with_reducible refine Kd.C_drewN ?_ _) | (with_reducible refine Kd.C_drew ?_))); (case side2 => exact (Kd.R_reads' HO1130.out).2.1); rintro e w21 ⟨v1136, rfl, ho0, hb⟩; refine ⟨_, rfl, ?_⟩; have n0_ := Aside0.mk (Kd.R_elder' (rq_ HO1130.out) (Kd.R_base ho0) hb); have n1_ := Aside0.mk (Kd.R_lower (Kd.R_new' ho0 (Kd.R_lt (rq_ HO1130.out))) (below_size (hb_ HB.out))); have n2_ := Aside0.mk (bb_ BK1122.out hb); have n3_ := Aside0.mk (below_step (hb_ HB.out) hb); clear HO1130; clear BK1122; clear HB; have HO1130 := n0_; have HO1137 := n1_; have BK1122 := n2_; have HB := n3_; clear n0_ n1_ n2_ n3_; (try clear hb); (try clear hb2); (try clear hk); (try clear hi); (try clear ho0)) | ((with_reducible refine gate_dst (N := 12) rfl ?_); refine box_event ?hg (N := 12) ?hd (cs := #[.int .i64 0, .int .i64 0, .int .i64 0, .int .i64 0, .slice none 0 0]) (t := 54) ?hr ?_; (case hd => rfl); (case hg => rfl); (case hr => first | (go_simp; done) | (go_simp; rfl)); intro gb1138 hg w22 hbox hb; have n0_ := Aside0.mk (Kd.R_below (rq_ HO1130.out) hb); have n1_ := Aside0.mk (Kd.R_below (rq_ HO1137.out) hb); have n2_ := Aside0.mk (bb_ BK1122.out hb); have n3_ := Aside0.mk (below_step (hb_ HB.out) hb); have n4_ := Aside0.mk (hbox); have n5_ := Aside0.mk ((by rw [hg]; exact (below_size (hb_ HB.out)) : w.heap.size ≤ gb1138)); have n6_ := Aside0.mk ((by rw [hg]; exact (below_size (hb_ HB.out)) : w.heap.size ≤ gb1138)); have n7_ := Aside0.mk ((nl_ BK1122.out hg : gb1122 ≠ gb1138)); have n8_ := Aside0.mk ((ng_ BK1122.out hg : gb1138 ≠ gb1122)); clear HO1130; clear HO1137; clear BK1122; clear HB; have HO1130 := n0_; have HO1137 := n1_; have BK1122 := n2_; have HB := n3_; have BK1138 := n4_; have GW1138 := n5_; have GE1138 := n6_; have NB1122_1138 := n7_; have NB1138_1122 := n8_; clear n0_ n1_ n2_ n3_ n4_ n5_ n6_ n7_ n8_; clear hb hbox hg; have hnb23 := NB1138_1122.out; have hnc23 := NB1122_1138.out; have hcz24_0 : w22.cell? ⟨gb1138, 0, none⟩ = some (.int .i64 0) := (blk_cell BK1138.out 0).trans rfl; have hcz24_1 : w22.cell? ⟨gb1138, 1, none⟩ = some (.int .i64 0) := (blk_cell BK1138.out 1).trans rfl; have hcz24_2 : w22.cell? ⟨gb1138, 2, none⟩ = some (.int .i64 0) := (blk_cell BK1138.out 2).trans rfl; have hcz24_3 : w22.cell? ⟨gb1138, 3, none⟩ = some (.int .i64 0) := (blk_cell BK1138.out 3).trans rfl; have hcz24_4 : w22.cell? ⟨gb1138, 4, none⟩ = some (.slice none 0 0) := (blk_cell BK1138.out 4).trans rfl; have hfz24_0 := blk_frozen BK1138.out 0; have hfz24_1 := blk_frozen BK1138.out 1; have hfz24_2 := blk_frozen BK1138.out 2; have hfz24_3 := blk_frozen BK1138.out 3; have hfz24_4 := blk_frozen BK1138.out 4; obtain ⟨Ao25, co25, eo25⟩ := Kd.R_slice HO1137.out; subst eo25; have hcz26_0 : w22.cell? ⟨gb1122, 0, none⟩ = some (.int .i64 a0_0) := (blk_cell BK1122.out 0).trans rfl; have hcz26_1 : w22.cell? ⟨gb1122, 1, none⟩ = some (.int .i64 a0_1) := (blk_cell BK1122.out 1).trans rfl; have hcz26_2 : w22.cell? ⟨gb1122, 2, none⟩ = some (.int .i64 a0_2) := (blk_cell BK1122.out 2).trans rfl; have hcz26_3 : w22.cell? ⟨gb1122, 3, none⟩ = some (.int .i64 a0_3) := (blk_cell BK1122.out 3).trans rfl; have hcz26_4 : w22.cell? ⟨gb1122, 4, none⟩ = some (.slice A0_4 l0_4.length c0_4) := (blk_cell BK1122.out 4).trans rfl; have hfz26_0 := blk_frozen BK1122.out 0; have hfz26_1 := blk_frozen BK1122.out 1; have hfz26_2 := blk_frozen BK1122.out 2; have hfz26_3 := blk_frozen BK1122.out 3; have hfz26_4 := blk_frozen BK1122.out 4) | ((with_reducible refine gate_callee (f := 28) rfl ?_); refine goesL_ (some 32) rfl rfl Try.func28 (by kernel_rfl) rfl #[.agg #[.int .i64 a0_0, .int .i64 a0_1, .int .i64 a0_2, .int .i64 a0_3, .slice A0_4 l0_4.length c0_4]] rfl sm_ ?_; (with_reducible refine (laws_toMaker.calls kj6 a0_0 a0_1 a0_2 a0_3 _ _ l0_4 t1139 t1140 t1141 t1142 t1143 _ ?side1 ?side2 A14.out).mono ?_); (case side1 => exact Kd.C_below HR0_4.out (hb_ HB.out)); (case side2 => exact HC0_4.out); rintro e w27 ⟨v1144, rfl, ho0, hb⟩; refine ⟨_, rfl, ?_⟩; have n0_ := Aside0.mk (Kd.R_elder' (rk_ HO1130.out BK1138.out) (Kd.R_base ho0) hb); have n1_ := Aside0.mk (Kd.R_elder' (rk_ HO1137.out BK1138.out) (Kd.R_base ho0) hb); have n2_ := Aside0.mk (Kd.R_lower (Kd.R_new' (Kd.R_new' ho0 (Kd.R_lt (rk_ HO1130.out BK1138.out))) (Kd.R_lt (rk_ HO1137.out BK1138.out))) (below_size (hb_ HB.out))); have n3_ := Aside0.mk (blk_below (g := gb1122) (o := .cells #[.int .i64 a0_0, .int .i64 a0_1, .int .i64 a0_2, .int .i64 a0_3, .slice A0_4 l0_4.length c0_4] 48 (0, 0)) (bf_ NB1122_1138.out BK1122.out) hb); have n4_ := Aside0.mk (blk_below (g := gb1138) (o := .cells #[.int .i64 t1131, .int .i64 t1132, .int .i64 t1133, .int .i64 t1134, .slice Ao25 t1135.length co25] 54 (0, 0)) (bp_ BK1138.out) hb); have n5_ := Aside0.mk (below_step (hb_ HB.out) hb); clear HO1130; clear HO1137; clear BK1122; clear BK1138; clear HB; have HO1130 := n0_; have HO1137 := n1_; have HO1145 := n2_; have BK1122 := n3_; have BK1138 := n4_; have HB := n5_; clear n0_ n1_ n2_ n3_ n4_ n5_; (try clear hb); (try clear hb2); (try clear hk); (try clear hi); (try clear ho0)) | ((with_reducible refine gate_dst (N := 13) rfl ?_); refine box_event ?hg (N := 13) ?hd (cs := #[.int .i64 0, .int .i64 0, .int .i64 0, .int .i64 0, .slice none 0 0]) (t := 54) ?hr ?_; (case hd => rfl); (case hg => rfl); (case hr => first | (go_simp; done) | (go_simp; rfl)); intro gb1146 hg w28 hbox hb; have n0_ := Aside0.mk (Kd.R_below (rq_ HO1130.out) hb); have n1_ := Aside0.mk (Kd.R_below (rq_ HO1137.out) hb); have n2_ := Aside0.mk (Kd.R_below (rq_ HO1145.out) hb); have n3_ := Aside0.mk (bb_ BK1122.out hb); have n4_ := Aside0.mk (bb_ BK1138.out hb); have n5_ := Aside0.mk (below_step (hb_ HB.out) hb); have n6_ := Aside0.mk (hbox); have n7_ := Aside0.mk ((by rw [hg]; exact (below_size (hb_ HB.out)) : w.heap.size ≤ gb1146)); have n8_ := Aside0.mk ((by rw [hg]; exact (below_size (hb_ HB.out)) : w.heap.size ≤ gb1146)); have n9_ := Aside0.mk ((nl_ BK1122.out hg : gb1122 ≠ gb1146)); have n10_ := Aside0.mk ((ng_ BK1122.out hg : gb1146 ≠ gb1122)); have n11_ := Aside0.mk ((nl_ BK1138.out hg : gb1138 ≠ gb1146)); have n12_ := Aside0.mk ((ng_ BK1138.out hg : gb1146 ≠ gb1138)); clear HO1130; clear HO1137; clear HO1145; clear BK1122; clear BK1138; clear HB; have HO1130 := n0_; have HO1137 := n1_; have HO1145 := n2_; have BK1122 := n3_; have BK1138 := n4_; have HB := n5_; have BK1146 := n6_; have GW1146 := n7_; have GE1146 := n8_; have NB1122_1146 := n9_; have NB1146_1122 := n10_; have NB1138_1146 := n11_; have NB1146_1138 := n12_; clear n0_ n1_ n2_ n3_ n4_ n5_ n6_ n7_ n8_ n9_ n10_ n11_ n12_; clear hb hbox hg; have hnb29 := NB1146_1122.out; have hnc29 := NB1122_1146.out; have hnb30 := NB1146_1138.out; have hnc30 := NB1138_1146.out; have hcz31_0 : w28.cell? ⟨gb1146, 0, none⟩ = some (.int .i64 0) := (blk_cell BK1146.out 0).trans rfl; have hcz31_1 : w28.cell? ⟨gb1146, 1, none⟩ = some (.int .i64 0) := (blk_cell BK1146.out 1).trans rfl; have hcz31_2 : w28.cell? ⟨gb1146, 2, none⟩ = some (.int .i64 0) := (blk_cell BK1146.out 2).trans rfl; have hcz31_3 : w28.cell? ⟨gb1146, 3, none⟩ = some (.int .i64 0) := (blk_cell BK1146.out 3).trans rfl; have hcz31_4 : w28.cell? ⟨gb1146, 4, none⟩ = some (.slice none 0 0) := (blk_cell BK1146.out 4).trans rfl; have hfz31_0 := blk_frozen BK1146.out 0; have hfz31_1 := blk_frozen BK1146.out 1; have hfz31_2 := blk_frozen BK1146.out 2; have hfz31_3 := blk_frozen BK1146.out 3; have hfz31_4 := blk_frozen BK1146.out 4; obtain ⟨Ao32, co32, eo32⟩ := Kd.R_slice HO1145.out; subst eo32) | ((with_reducible refine gate_callee (f := 61) rfl ?_); refine goesL_ (some 38) rfl rfl Try.func61 (by kernel_rfl) rfl #[.agg #[.int .i64 t1139, .int .i64 t1140, .int .i64 t1141, .int .i64 t1142, .slice Ao32 t1143.length co32], .int .i64 a1, .int .i64 a2, .int .i64 a3, .int .i64 a4] rfl sm_ ?_; (with_reducible refine (impl_MakerPut.calls kj6 t1139 t1140 t1141 t1142 _ _ t1143 a1 a2 a3 a4 t1147 t1148 t1149 t1150 t1151 _ ?side1 ?side2 A15.out).mono ?_); (case side1 => refine (Kd.R_reads' (e := 118) (base := w.heap.size) (ok := fun k_ => ((True ∧ some k_ ≠ (.slice Ao20 t1128.length co20 : Value).ownBlock) ∧ some k_ ≠ (.slice Ao25 t1135.length co25 : Value).ownBlock)) (n := t1143.length) (c := co32) ?_).2.2; exact (rk_ HO1145.out BK1146.out)); (case side2 => exact (Kd.R_reads' HO1145.out).2.1); rintro e w33 ⟨v1152, rfl, ho0, hb⟩; refine ⟨_, rfl, ?_⟩; have n0_ := Aside0.mk (Kd.R_elder' (rk_ HO1130.out BK1146.out) (Kd.R_base ho0) hb); have n1_ := Aside0.mk (Kd.R_elder' (rk_ HO1137.out BK1146.out) (Kd.R_base ho0) hb); have n2_ := Aside0.mk (Kd.R_elder' (rk_ HO1145.out BK1146.out) (Kd.R_base ho0) hb); have n3_ := Aside0.mk (Kd.R_lower (Kd.R_new' (Kd.R_new' (Kd.R_new' ho0 (Kd.R_lt (rk_ HO1130.out BK1146.out))) (Kd.R_lt (rk_ HO1137.out BK1146.out))) (Kd.R_lt (rk_ HO1145.out BK1146.out))) (below_size (hb_ HB.out))); have n4_ := Aside0.mk (blk_below (g := gb1122) (o := .cells #[.int .i64 a0_0, .int .i64 a0_1, .int .i64 a0_2, .int .i64 a0_3, .slice A0_4 l0_4.length c0_4] 48 (0, 0)) (bf_ NB1122_1146.out BK1122.out) hb); have n5_ := Aside0.mk (blk_below (g := gb1138) (o := .cells #[.int .i64 t1131, .int .i64 t1132, .int .i64 t1133, .int .i64 t1134, .slice Ao25 t1135.length co25] 54 (0, 0)) (bf_ NB1138_1146.out BK1138.out) hb); have n6_ := Aside0.mk (blk_below (g := gb1146) (o := .cells #[.int .i64 t1139, .int .i64 t1140, .int .i64 t1141, .int .i64 t1142, .slice Ao32 t1143.length co32] 54 (0, 0)) (bp_ BK1146.out) hb); have n7_ := Aside0.mk (below_step (hb_ HB.out) hb); clear HO1130; clear HO1137; clear HO1145; clear BK1122; clear BK1138; clear BK1146; clear HB; have HO1130 := n0_; have HO1137 := n1_; have HO1145 := n2_; have HO1153 := n3_; have BK1122 := n4_; have BK1138 := n5_; have BK1146 := n6_; have HB := n7_; clear n0_ n1_ n2_ n3_ n4_ n5_ n6_ n7_; (try clear hb); (try clear hb2); (try clear hk); (try clear hi); (try clear ho0)) | ((with_reducible refine gate_dst (N := 14) rfl ?_); refine box_event ?hg (N := 14) ?hd (cs := #[.int .i64 0, .int .i64 0, .int .i64 0, .int .i64 0, .slice none 0 0]) (t := 54) ?hr ?_; (case hd => rfl); (case hg => rfl); (case hr => first | (go_simp; done) | (go_simp; rfl)); intro gb1154 hg w34 hbox hb; have n0_ := Aside0.mk (Kd.R_below (rq_ HO1130.out) hb); have n1_ := Aside0.mk (Kd.R_below (rq_ HO1137.out) hb); have n2_ := Aside0.mk (Kd.R_below (rq_ HO1145.out) hb); have n3_ := Aside0.mk (Kd.R_below (rq_ HO1153.out) hb); have n4_ := Aside0.mk (bb_ BK1122.out hb); have n5_ := Aside0.mk (bb_ BK1138.out hb); have n6_ := Aside0.mk (bb_ BK1146.out hb); have n7_ := Aside0.mk (below_step (hb_ HB.out) hb); have n8_ := Aside0.mk (hbox); have n9_ := Aside0.mk ((by rw [hg]; exact (below_size (hb_ HB.out)) : w.heap.size ≤ gb1154)); have n10_ := Aside0.mk ((by rw [hg]; exact (below_size (hb_ HB.out)) : w.heap.size ≤ gb1154)); have n11_ := Aside0.mk ((nl_ BK1122.out hg : gb1122 ≠ gb1154)); have n12_ := Aside0.mk ((ng_ BK1122.out hg : gb1154 ≠ gb1122)); have n13_ := Aside0.mk ((nl_ BK1138.out hg : gb1138 ≠ gb1154)); have n14_ := Aside0.mk ((ng_ BK1138.out hg : gb1154 ≠ gb1138)); have n15_ := Aside0.mk ((nl_ BK1146.out hg : gb1146 ≠ gb1154)); have n16_ := Aside0.mk ((ng_ BK1146.out hg : gb1154 ≠ gb1146)); clear HO1130; clear HO1137; clear HO1145; clear HO1153; clear BK1122; clear BK1138; clear BK1146; clear HB; have HO1130 := n0_; have HO1137 := n1_; have HO1145 := n2_; have HO1153 := n3_; have BK1122 := n4_; have BK1138 := n5_; have BK1146 := n6_; have HB := n7_; have BK1154 := n8_; have GW1154 := n9_; have GE1154 := n10_; have NB1122_1154 := n11_; have NB1154_1122 := n12_; have NB1138_1154 := n13_; have NB1154_1138 := n14_; have NB1146_1154 := n15_; have NB1154_1146 := n16_; clear n0_ n1_ n2_ n3_ n4_ n5_ n6_ n7_ n8_ n9_ n10_ n11_ n12_ n13_ n14_ n15_ n16_; clear hb hbox hg; have hnb35 := NB1154_1122.out; have hnc35 := NB1122_1154.out; have hnb36 := NB1154_1138.out; have hnc36 := NB1138_1154.out; have hnb37 := NB1154_1146.out; have hnc37 := NB1146_1154.out; have hcz38_0 : w34.cell? ⟨gb1154, 0, none⟩ = some (.int .i64 0) := (blk_cell BK1154.out 0).trans rfl; have hcz38_1 : w34.cell? ⟨gb1154, 1, none⟩ = some (.int .i64 0) := (blk_cell BK1154.out 1).trans rfl; have hcz38_2 : w34.cell? ⟨gb1154, 2, none⟩ = some (.int .i64 0) := (blk_cell BK1154.out 2).trans rfl; have hcz38_3 : w34.cell? ⟨gb1154, 3, none⟩ = some (.int .i64 0) := (blk_cell BK1154.out 3).trans rfl; have hcz38_4 : w34.cell? ⟨gb1154, 4, none⟩ = some (.slice none 0 0) := (blk_cell BK1154.out 4).trans rfl; have hfz38_0 := blk_frozen BK1154.out 0; have hfz38_1 := blk_frozen BK1154.out 1; have hfz38_2 := blk_frozen BK1154.out 2; have hfz38_3 := blk_frozen BK1154.out 3; have hfz38_4 := blk_frozen BK1154.out 4; obtain ⟨Ao39, co39, eo39⟩ := Kd.R_slice HO1153.out; subst eo39; have hcz40_0 : w34.cell? ⟨gb1138, 0, none⟩ = some (.int .i64 t1131) := (blk_cell BK1138.out 0).trans rfl; have hcz40_1 : w34.cell? ⟨gb1138, 1, none⟩ = some (.int .i64 t1132) := (blk_cell BK1138.out 1).trans rfl; have hcz40_2 : w34.cell? ⟨gb1138, 2, none⟩ = some (.int .i64 t1133) := (blk_cell BK1138.out 2).trans rfl; have hcz40_3 : w34.cell? ⟨gb1138, 3, none⟩ = some (.int .i64 t1134) := (blk_cell BK1138.out 3).trans rfl; have hcz40_4 : w34.cell? ⟨gb1138, 4, none⟩ = some (.slice Ao25 t1135.length co25) := (blk_cell BK1138.out 4).trans rfl; have hfz40_0 := blk_frozen BK1138.out 0; have hfz40_1 := blk_frozen BK1138.out 1; have hfz40_2 := blk_frozen BK1138.out 2; have hfz40_3 := blk_frozen BK1138.out 3; have hfz40_4 := blk_frozen BK1138.out 4) | ((with_reducible refine gate_callee (f := 30) rfl ?_); refine goesL_ (some 41) rfl rfl Try.func30 (by kernel_rfl) rfl #[.agg #[.int .i64 t1147, .int .i64 t1148, .int .i64 t1149, .int .i64 t1150, .slice Ao39 t1151.length co39], .agg #[.int .i64 t1131, .int .i64 t1132, .int .i64 t1133, .int .i64 t1134, .slice Ao25 t1135.length co25]] rfl sm_ ?_; (with_reducible refine (laws_eqMaker.calls kj6 t1147 t1148 t1149 t1150 _ _ t1151 t1131 t1132 t1133 t1134 _ _ t1135 t1155 _ ?side1 ?side2 ?side3 ?side4 A16.out).mono ?_); (case side1 => refine (Kd.R_reads' (e := 118) (base := w.heap.size) (ok := fun k_ => (((True ∧ some k_ ≠ (.slice Ao20 t1128.length co20 : Value).ownBlock) ∧ some k_ ≠ (.slice Ao25 t1135.length co25 : Value).ownBlock) ∧ some k_ ≠ (.slice Ao32 t1143.length co32 : Value).ownBlock)) (n := t1151.length) (c := co39) ?_).2.2; exact (rk_ HO1153.out BK1154.out)); (case side2 => exact (Kd.R_reads' HO1153.out).2.1); (case side3 => refine (Kd.R_reads' (e := 118) (base := w.heap.size) (ok := fun k_ => (((True ∧ some k_ ≠ (.slice Ao20 t1128.length co20 : Value).ownBlock) ∧ some k_ ≠ (.slice Ao32 t1143.length co32 : Value).ownBlock) ∧ some k_ ≠ (.slice Ao39 t1151.length co39 : Value).ownBlock)) (n := t1135.length) (c := co25) ?_).2.2; exact (rk_ HO1137.out BK1154.out)); (case side4 => exact (Kd.R_reads' HO1137.out).2.1); rintro e w41 ⟨rfl, hb⟩; refine ⟨_, rfl, ?_⟩; have n0_ := Aside0.mk (Kd.R_below (rk_ HO1130.out BK1154.out) hb); have n1_ := Aside0.mk (Kd.R_below (rk_ HO1137.out BK1154.out) hb); have n2_ := Aside0.mk (Kd.R_below (rk_ HO1145.out BK1154.out) hb); have n3_ := Aside0.mk (Kd.R_below (rk_ HO1153.out BK1154.out) hb); have n4_ := Aside0.mk (blk_below (g := gb1122) (o := .cells #[.int .i64 a0_0, .int .i64 a0_1, .int .i64 a0_2, .int .i64 a0_3, .slice A0_4 l0_4.length c0_4] 48 (0, 0)) (bf_ NB1122_1154.out BK1122.out) hb); have n5_ := Aside0.mk (blk_below (g := gb1138) (o := .cells #[.int .i64 t1131, .int .i64 t1132, .int .i64 t1133, .int .i64 t1134, .slice Ao25 t1135.length co25] 54 (0, 0)) (bf_ NB1138_1154.out BK1138.out) hb); have n6_ := Aside0.mk (blk_below (g := gb1146) (o := .cells #[.int .i64 t1139, .int .i64 t1140, .int .i64 t1141, .int .i64 t1142, .slice Ao32 t1143.length co32] 54 (0, 0)) (bf_ NB1146_1154.out BK1146.out) hb); have n7_ := Aside0.mk (blk_below (g := gb1154) (o := .cells #[.int .i64 t1147, .int .i64 t1148, .int .i64 t1149, .int .i64 t1150, .slice Ao39 t1151.length co39] 54 (0, 0)) (bp_ BK1154.out) hb); have n8_ := Aside0.mk (below_step (hb_ HB.out) hb); clear HO1130; clear HO1137; clear HO1145; clear HO1153; clear BK1122; clear BK1138; clear BK1146; clear BK1154; clear HB; have HO1130 := n0_; have HO1137 := n1_; have HO1145 := n2_; have HO1153 := n3_; have BK1122 := n4_; have BK1138 := n5_; have BK1146 := n6_; have BK1154 := n7_; have HB := n8_; clear n0_ n1_ n2_ n3_ n4_ n5_ n6_ n7_ n8_; (try clear hb); (try clear hb2); (try clear hk); (try clear hi)))
   (try simp only [Act.put, List.setIfInBounds_toArray, List.set_cons_zero, List.set_cons_succ])
   go_cut [] (fun wc => ∃ (kq : Nat), Aside0 (laws_FnExactMakerPut.j1 kq a1 a2 a3 a4 a0_0 a0_1 a0_2 a0_3 l0_4 t1131 t1132 t1133 t1134 t1135 t1139 t1140 t1141 t1142 t1143 t1147 t1148 t1149 t1150 t1151 = some r) ∧ Aside0 (kq ≤ kj6) ∧ Aside0 (Kd.R k_Mark 118 wc w.heap.size (fun k_ => some k_ ≠ ((.slice Ao32 t1143.length co32) : Value).ownBlock ∧ some k_ ≠ ((.slice Ao39 t1151.length co39) : Value).ownBlock) (.slice Ao25 t1135.length co25) t1135) ∧ Aside0 (Kd.R k_Mark 118 wc w.heap.size (fun k_ => some k_ ≠ ((.slice Ao25 t1135.length co25) : Value).ownBlock ∧ some k_ ≠ ((.slice Ao39 t1151.length co39) : Value).ownBlock) (.slice Ao32 t1143.length co32) t1143) ∧ Aside0 (Kd.R k_Mark 118 wc w.heap.size (fun k_ => some k_ ≠ ((.slice Ao25 t1135.length co25) : Value).ownBlock ∧ some k_ ≠ ((.slice Ao32 t1143.length co32) : Value).ownBlock) (.slice Ao39 t1151.length co39) t1151) ∧ Aside0 (wc.heap[gb1122]? = some (.cells #[.int .i64 a0_0, .int .i64 a0_1, .int .i64 a0_2, .int .i64 a0_3, (.slice A0_4 l0_4.length c0_4)] 48 (0, 0))) ∧ Aside0 (wc.heap[gb1138]? = some (.cells #[.int .i64 t1131, .int .i64 t1132, .int .i64 t1133, .int .i64 t1134, (.slice Ao25 t1135.length co25)] 54 (0, 0))) ∧ Aside0 (wc.heap[gb1146]? = some (.cells #[.int .i64 t1139, .int .i64 t1140, .int .i64 t1141, .int .i64 t1142, (.slice Ao32 t1143.length co32)] 54 (0, 0))) ∧ Aside0 (wc.heap[gb1154]? = some (.cells #[.int .i64 t1147, .int .i64 t1148, .int .i64 t1149, .int .i64 t1150, (.slice Ao39 t1151.length co39)] 54 (0, 0))) ∧ Aside0 (Below w.heap.size w wc))
   case first =>
    have H := HC17.out
    clear HC17
    by_cases c42 : t1155 = true
    ·
     subst c42
     have H1 : (laws_FnExactMakerPut.j1 kj6 a1 a2 a3 a4 a0_0 a0_1 a0_2 a0_3 l0_4 t1131 t1132 t1133 t1134 t1135 t1139 t1140 t1141 t1142 t1143 t1147 t1148 t1149 t1150 t1151) = some r := by rw [if_pos rfl] at H; exact H
     clear H
     have H := H1
     clear H1
     have H' := Aside0.mk H
     clear H
     go_wp2
     go_meet
     case rel => exact ⟨_, H', ⟨by have := HJ6.out; first | omega | exact Nat.le_refl _⟩, ⟨rm_ HO1137.out⟩, ⟨rm_ HO1145.out⟩, ⟨rm_ HO1153.out⟩, ⟨bq_ BK1122.out⟩, ⟨bq_ BK1138.out⟩, ⟨bq_ BK1146.out⟩, ⟨bq_ BK1154.out⟩, ⟨hb_ HB.out⟩⟩
    ·
     replace c42 := Bool.eq_false_iff.mpr c42
     subst c42
     have H1 : (some false) = some r := by rw [if_neg (show ¬ (false = true) by decide)] at H; exact H
     clear H
     have H := H1
     clear H1
     obtain rfl := Option.some.inj H
     go_wp2
     go_ret
     exact ⟨er_, hb_ HB.out⟩
   case rest =>
    clear HC17
    (try clear c1); (try clear c2); (try clear p2); (try clear c3); (try clear c4); (try clear c6); (try clear c7); (try clear c11); (try clear c11b0); (try clear c13); (try clear c23); (try clear c26); (try clear c28); (try clear c29); (try clear c30); (try clear c35); (try clear c36); (try clear c37); (try clear c42); (try clear hcz18_0); (try clear hcz18_1); (try clear hcz18_2); (try clear hcz18_3); (try clear hcz18_4); (try clear hcz24_0); (try clear hcz24_1); (try clear hcz24_2); (try clear hcz24_3); (try clear hcz24_4); (try clear hcz26_0); (try clear hcz26_1); (try clear hcz26_2); (try clear hcz26_3); (try clear hcz26_4); (try clear hcz31_0); (try clear hcz31_1); (try clear hcz31_2); (try clear hcz31_3); (try clear hcz31_4); (try clear hcz38_0); (try clear hcz38_1); (try clear hcz38_2); (try clear hcz38_3); (try clear hcz38_4); (try clear hcz40_0); (try clear hcz40_1); (try clear hcz40_2); (try clear hcz40_3); (try clear hcz40_4); (try clear hcz9_0); (try clear hcz9_1); (try clear hcz9_2); (try clear hcz9_3); (try clear hcz9_4); (try clear hfz18_0); (try clear hfz18_1); (try clear hfz18_2); (try clear hfz18_3); (try clear hfz18_4); (try clear hfz24_0); (try clear hfz24_1); (try clear hfz24_2); (try clear hfz24_3); (try clear hfz24_4); (try clear hfz26_0); (try clear hfz26_1); (try clear hfz26_2); (try clear hfz26_3); (try clear hfz26_4); (try clear hfz31_0); (try clear hfz31_1); (try clear hfz31_2); (try clear hfz31_3); (try clear hfz31_4); (try clear hfz38_0); (try clear hfz38_1); (try clear hfz38_2); (try clear hfz38_3); (try clear hfz38_4); (try clear hfz40_0); (try clear hfz40_1); (try clear hfz40_2); (try clear hfz40_3); (try clear hfz40_4); (try clear hfz9_0); (try clear hfz9_1); (try clear hfz9_2); (try clear hfz9_3); (try clear hfz9_4); (try clear p2)
    obtain ⟨kq, HA, HJ16, HO_1139004, HO_1147004, HO_1155004, BK1122, BK1138, BK1146, BK1154, HB⟩ := hcut
    cases kq with
    | zero => exact absurd HA.out (by simp [laws_FnExactMakerPut.j1])
    | succ kj16 =>
     have H := HA.out
     clear HA
     simp only [laws_FnExactMakerPut.j1] at H
     replace H := Option.bind_eq_some_iff.mp H
     obtain ⟨⟨t1156, t1157, t1158, t1159, t1160⟩, A430, H⟩ := H
     replace H : ((laws_eqMaker.f kj16 t1139 t1140 t1141 t1142 t1143 t1156 t1157 t1158 t1159 t1160).bind fun t1163 => (if t1163 = true then (laws_FnExactMakerPut.j2 kj16 a1 a2 a3 a4 a0_0 a0_1 a0_2 a0_3 l0_4 t1131 t1132 t1133 t1134 t1135 t1139 t1140 t1141 t1142 t1143 t1147 t1148 t1149 t1150 t1151) else (some false))) = some r := H
     have A43 := Aside0.mk A430
     clear A430
     replace H := Option.bind_eq_some_iff.mp H
     obtain ⟨t1163, A440, H⟩ := H
     replace H : (if t1163 = true then (laws_FnExactMakerPut.j2 kj16 a1 a2 a3 a4 a0_0 a0_1 a0_2 a0_3 l0_4 t1131 t1132 t1133 t1134 t1135 t1139 t1140 t1141 t1142 t1143 t1147 t1148 t1149 t1150 t1151) else (some false)) = some r := H
     have A44 := Aside0.mk A440
     clear A440
     have HC45 := Aside0.mk H
     clear H
     try go_wp2
     have n0_ := Aside0.mk (Kd.R_drew HO_1139004.out)
     have n1_ := Aside0.mk (Kd.R_drew HO_1147004.out)
     have n2_ := Aside0.mk (Kd.R_drew HO_1155004.out)
     have n3_ := Aside0.mk (blk_drew BK1122.out)
     have n4_ := Aside0.mk (blk_drew BK1138.out)
     have n5_ := Aside0.mk (blk_drew BK1146.out)
     have n6_ := Aside0.mk (blk_drew BK1154.out)
     have n7_ := Aside0.mk (below_drew1 HB.out)
     clear HO_1139004; clear HO_1147004
     clear HO_1155004; clear BK1122
     clear BK1138; clear BK1146
     clear BK1154; clear HB
     have HO_1139004 := n0_
     have HO_1147004 := n1_
     have HO_1155004 := n2_
     have BK1122 := n3_
     have BK1138 := n4_
     have BK1146 := n5_
     have BK1154 := n6_
     have HB := n7_
     clear n0_ n1_ n2_ n3_ n4_ n5_ n6_ n7_
     refine start_ (n := 5) (S := fun w' => w'.cell? ⟨gb1146, 0, none⟩ = some (.int .i64 t1139) ∧ w'.cell? ⟨gb1146, 1, none⟩ = some (.int .i64 t1140) ∧ w'.cell? ⟨gb1146, 2, none⟩ = some (.int .i64 t1141) ∧ w'.cell? ⟨gb1146, 3, none⟩ = some (.int .i64 t1142) ∧ w'.cell? ⟨gb1146, 4, none⟩ = some (.slice Ao32 t1143.length co32) ∧ w'.cell? ⟨gb1122, 0, none⟩ = some (.int .i64 a0_0) ∧ w'.cell? ⟨gb1122, 1, none⟩ = some (.int .i64 a0_1) ∧ w'.cell? ⟨gb1122, 2, none⟩ = some (.int .i64 a0_2) ∧ w'.cell? ⟨gb1122, 3, none⟩ = some (.int .i64 a0_3) ∧ w'.cell? ⟨gb1122, 4, none⟩ = some (.slice A0_4 l0_4.length c0_4)) (ds := []) #[false, false, false, false, false] (by kernel_rfl) rfl rfl ⟨(blk_cell BK1146.out 0).trans rfl, (blk_cell BK1146.out 1).trans rfl, (blk_cell BK1146.out 2).trans rfl, (blk_cell BK1146.out 3).trans rfl, (blk_cell BK1146.out 4).trans rfl, (blk_cell BK1122.out 0).trans rfl, (blk_cell BK1122.out 1).trans rfl, (blk_cell BK1122.out 2).trans rfl, (blk_cell BK1122.out 3).trans rfl, (blk_cell BK1122.out 4).trans rfl⟩ (fun hHeld => ?_)
     generalize wc.drew = w46 at HO_1139004 HO_1147004 HO_1155004 BK1122 BK1138 BK1146 BK1154 HB hHeld ⊢
     refine take_ (i := 0) (N := some 43) (v := ?_) (a' := ?_) #[true, false, false, false, false] rfl rfl (by kernel_rfl) (fun _ _ _ h => h) (Or.inl ⟨by rfl, ?_⟩) hHeld ?_ ?_
     rotate_left
     ·
      rintro w' ⟨s0, s1, s2, s3, s4, s5, s6, s7, s8, s9⟩
      go_simp
      with_reducible rfl
     rotate_left; (focus simp only [Act.put, List.setIfInBounds_toArray, List.set_cons_zero, List.set_cons_succ, i64_w, i32_w]; rfl)
     refine take_ (i := 1) (N := some 44) (v := ?_) (a' := ?_) #[true, true, false, false, false] rfl rfl (by kernel_rfl) (fun _ _ _ h => h) (Or.inl ⟨by rfl, ?_⟩) hHeld ?_ ?_
     rotate_left
     ·
      rintro w' ⟨s0, s1, s2, s3, s4, s5, s6, s7, s8, s9⟩
      go_simp
      with_reducible rfl
     rotate_left; (focus simp only [Act.put, List.setIfInBounds_toArray, List.set_cons_zero, List.set_cons_succ, i64_w, i32_w]; rfl)
     refine one_ (i := 2) (N := some 45) #[true, true, true, false, false] rfl rfl (by kernel_rfl) (by decide) (fun K hK => ?_)
     refine goes_ Try.func28 (by kernel_rfl) rfl #[.agg #[.int .i64 a0_0, .int .i64 a0_1, .int .i64 a0_2, .int .i64 a0_3, .slice A0_4 l0_4.length c0_4]] (by rfl) rfl rfl sm_ ?_
     with_reducible refine (laws_toMaker.calls kj16 a0_0 a0_1 a0_2 a0_3 _ _ l0_4 t1156 t1157 t1158 t1159 t1160 _ ?side1 ?side2 A43.out).mono ?_
     (case side1 => repeat (first | exact (Kd.C_below HR0_4.out HB.out) | (with_reducible refine Kd.C_alloc ?_ _) | (with_reducible refine Kd.C_drewN ?_ _) | (with_reducible refine Kd.C_drew ?_)))
     (case side2 => exact HC0_4.out)
     rintro e w47 ⟨v1161, rfl, ho0, hb⟩
     refine ⟨_, rfl, ?_⟩
     have n0_ := Aside0.mk (Kd.R_elder' (rq_ HO_1139004.out) (Kd.R_base ho0) hb)
     have n1_ := Aside0.mk (Kd.R_elder' (rq_ HO_1147004.out) (Kd.R_base ho0) hb)
     have n2_ := Aside0.mk (Kd.R_elder' (rq_ HO_1155004.out) (Kd.R_base ho0) hb)
     have n3_ := Aside0.mk (Kd.R_lower (Kd.R_new' (Kd.R_new' (Kd.R_new' ho0 (Kd.R_lt (rq_ HO_1139004.out))) (Kd.R_lt (rq_ HO_1147004.out))) (Kd.R_lt (rq_ HO_1155004.out))) (below_size (hb_ HB.out)))
     have n4_ := Aside0.mk (bb_ BK1122.out hb)
     have n5_ := Aside0.mk (bb_ BK1138.out hb)
     have n6_ := Aside0.mk (bb_ BK1146.out hb)
     have n7_ := Aside0.mk (bb_ BK1154.out hb)
     have n8_ := Aside0.mk (below_step (hb_ HB.out) hb)
     clear HO_1139004; clear HO_1147004
     clear HO_1155004; clear BK1122
     clear BK1138; clear BK1146
     clear BK1154; clear HB
     have HO_1139004 := n0_
     have HO_1147004 := n1_
     have HO_1155004 := n2_
     have HO1162 := n3_
     have BK1122 := n4_
     have BK1138 := n5_
     have BK1146 := n6_
     have BK1154 := n7_
     have HB := n8_
     clear n0_ n1_ n2_ n3_ n4_ n5_ n6_ n7_ n8_
     (try clear hb)
     (try clear hb2)
     (try clear hk)
     (try clear hi)
     (try clear ho0)
     obtain ⟨Ao48, co48, eo48⟩ := Kd.R_slice HO1162.out
     (first | subst eo48 | (injection eo48 with f1_ f2_ f3_; have f4_ := f1_.symm; have f5_ := f3_.symm; clear f1_ f2_ f3_; subst f4_; subst f5_))
     refine hK.out _ _ ⟨(blk_cell BK1146.out 0).trans rfl, (blk_cell BK1146.out 1).trans rfl, (blk_cell BK1146.out 2).trans rfl, (blk_cell BK1146.out 3).trans rfl, (blk_cell BK1146.out 4).trans rfl, (blk_cell BK1122.out 0).trans rfl, (blk_cell BK1122.out 1).trans rfl, (blk_cell BK1122.out 2).trans rfl, (blk_cell BK1122.out 3).trans rfl, (blk_cell BK1122.out 4).trans rfl⟩ (fun hHeld => ?_)
     clear hK K
     refine norm_ (a' := ?_) ?_ ?_
     rotate_left
     ·
      show Act.put _ (some 45) _ = _
      simp only [Act.put, List.setIfInBounds_toArray, List.set_cons_zero, List.set_cons_succ, i64_w, i32_w]
      rfl
     refine one_ (i := 3) (N := some 46) #[true, true, true, true, false] rfl rfl (by kernel_rfl) (by decide) (fun K hK => ?_)
     refine goes_ Try.func30 (by kernel_rfl) rfl #[.agg #[.int .i64 t1139, .int .i64 t1140, .int .i64 t1141, .int .i64 t1142, .slice Ao32 t1143.length co32], .agg #[.int .i64 t1156, .int .i64 t1157, .int .i64 t1158, .int .i64 t1159, .slice Ao48 t1160.length co48]] (by rfl) rfl rfl sm_ ?_
     with_reducible refine (laws_eqMaker.calls kj16 t1139 t1140 t1141 t1142 _ _ t1143 t1156 t1157 t1158 t1159 _ _ t1160 t1163 _ ?side1 ?side2 ?side3 ?side4 A44.out).mono ?_
     (case side1 => repeat (first | exact (Kd.R_reads' HO_1147004.out).2.2 | (with_reducible refine Kd.C_alloc ?_ _) | (with_reducible refine Kd.C_drewN ?_ _) | (with_reducible refine Kd.C_drew ?_)))
     (case side2 => exact (Kd.R_reads' HO_1147004.out).2.1)
     (case side3 => repeat (first | exact (Kd.R_reads' HO1162.out).2.2 | (with_reducible refine Kd.C_alloc ?_ _) | (with_reducible refine Kd.C_drewN ?_ _) | (with_reducible refine Kd.C_drew ?_)))
     (case side4 => exact (Kd.R_reads' HO1162.out).2.1)
     rintro e w49 ⟨rfl, hb⟩
     refine ⟨_, rfl, ?_⟩
     have n0_ := Aside0.mk (Kd.R_below (rq_ HO_1139004.out) hb)
     have n1_ := Aside0.mk (Kd.R_below (rq_ HO_1147004.out) hb)
     have n2_ := Aside0.mk (Kd.R_below (rq_ HO_1155004.out) hb)
     have n3_ := Aside0.mk (Kd.R_below (rq_ HO1162.out) hb)
     have n4_ := Aside0.mk (bb_ BK1122.out hb)
     have n5_ := Aside0.mk (bb_ BK1138.out hb)
     have n6_ := Aside0.mk (bb_ BK1146.out hb)
     have n7_ := Aside0.mk (bb_ BK1154.out hb)
     have n8_ := Aside0.mk (below_step (hb_ HB.out) hb)
     clear HO_1139004; clear HO_1147004
     clear HO_1155004; clear HO1162
     clear BK1122; clear BK1138
     clear BK1146; clear BK1154
     clear HB
     have HO_1139004 := n0_
     have HO_1147004 := n1_
     have HO_1155004 := n2_
     have HO1162 := n3_
     have BK1122 := n4_
     have BK1138 := n5_
     have BK1146 := n6_
     have BK1154 := n7_
     have HB := n8_
     clear n0_ n1_ n2_ n3_ n4_ n5_ n6_ n7_ n8_
     (try clear hb)
     (try clear hb2)
     (try clear hk)
     (try clear hi)
     refine hK.out _ _ ⟨(blk_cell BK1146.out 0).trans rfl, (blk_cell BK1146.out 1).trans rfl, (blk_cell BK1146.out 2).trans rfl, (blk_cell BK1146.out 3).trans rfl, (blk_cell BK1146.out 4).trans rfl, (blk_cell BK1122.out 0).trans rfl, (blk_cell BK1122.out 1).trans rfl, (blk_cell BK1122.out 2).trans rfl, (blk_cell BK1122.out 3).trans rfl, (blk_cell BK1122.out 4).trans rfl⟩ (fun hHeld => ?_)
     clear hK K
     refine norm_ (a' := ?_) ?_ ?_
     rotate_left
     ·
      show Act.put _ (some 46) _ = _
      simp only [Act.put, List.setIfInBounds_toArray, List.set_cons_zero, List.set_cons_succ, i64_w, i32_w]
      rfl
     refine pure_ (i := 4) (N := some 47) (v := ?_) (a' := ?_) #[true, true, true, true, true] rfl rfl (by kernel_rfl) (fun _ _ _ h => h) (Or.inl ⟨by rfl, ?_⟩) ?_ ?_; rotate_left; (focus intro w'; go_simp; with_reducible rfl); rotate_left; (focus simp only [Act.put, List.setIfInBounds_toArray, List.set_cons_zero, List.set_cons_succ, i64_w, i32_w]; rfl)
     refine done_ (by kernel_rfl) ?_
     go_upto_if 47 with (fail)
     go_cut [] (fun wc => ∃ (kq : Nat), Aside0 (laws_FnExactMakerPut.j2 kq a1 a2 a3 a4 a0_0 a0_1 a0_2 a0_3 l0_4 t1131 t1132 t1133 t1134 t1135 t1139 t1140 t1141 t1142 t1143 t1147 t1148 t1149 t1150 t1151 = some r) ∧ Aside0 (kq ≤ kj16) ∧ Aside0 (Kd.R k_Mark 118 wc w.heap.size (fun k_ => some k_ ≠ ((.slice Ao32 t1143.length co32) : Value).ownBlock ∧ some k_ ≠ ((.slice Ao39 t1151.length co39) : Value).ownBlock) (.slice Ao25 t1135.length co25) t1135) ∧ Aside0 (Kd.R k_Mark 118 wc w.heap.size (fun k_ => some k_ ≠ ((.slice Ao25 t1135.length co25) : Value).ownBlock ∧ some k_ ≠ ((.slice Ao39 t1151.length co39) : Value).ownBlock) (.slice Ao32 t1143.length co32) t1143) ∧ Aside0 (Kd.R k_Mark 118 wc w.heap.size (fun k_ => some k_ ≠ ((.slice Ao25 t1135.length co25) : Value).ownBlock ∧ some k_ ≠ ((.slice Ao32 t1143.length co32) : Value).ownBlock) (.slice Ao39 t1151.length co39) t1151) ∧ Aside0 (wc.heap[gb1122]? = some (.cells #[.int .i64 a0_0, .int .i64 a0_1, .int .i64 a0_2, .int .i64 a0_3, (.slice A0_4 l0_4.length c0_4)] 48 (0, 0))) ∧ Aside0 (wc.heap[gb1138]? = some (.cells #[.int .i64 t1131, .int .i64 t1132, .int .i64 t1133, .int .i64 t1134, (.slice Ao25 t1135.length co25)] 54 (0, 0))) ∧ Aside0 (wc.heap[gb1146]? = some (.cells #[.int .i64 t1139, .int .i64 t1140, .int .i64 t1141, .int .i64 t1142, (.slice Ao32 t1143.length co32)] 54 (0, 0))) ∧ Aside0 (wc.heap[gb1154]? = some (.cells #[.int .i64 t1147, .int .i64 t1148, .int .i64 t1149, .int .i64 t1150, (.slice Ao39 t1151.length co39)] 54 (0, 0))) ∧ Aside0 (Below w.heap.size w wc))
     case first =>
      have H := HC45.out
      clear HC45
      by_cases c50 : t1163 = true
      ·
       subst c50
       have H1 : (laws_FnExactMakerPut.j2 kj16 a1 a2 a3 a4 a0_0 a0_1 a0_2 a0_3 l0_4 t1131 t1132 t1133 t1134 t1135 t1139 t1140 t1141 t1142 t1143 t1147 t1148 t1149 t1150 t1151) = some r := by rw [if_pos rfl] at H; exact H
       clear H
       have H := H1
       clear H1
       have H' := Aside0.mk H
       clear H
       go_wp2
       go_meet
       case rel => exact ⟨_, H', ⟨by have := HJ6.out; have := HJ16.out; first | omega | exact Nat.le_refl _⟩, ⟨rm_ HO_1139004.out⟩, ⟨rm_ HO_1147004.out⟩, ⟨rm_ HO_1155004.out⟩, ⟨bq_ BK1122.out⟩, ⟨bq_ BK1138.out⟩, ⟨bq_ BK1146.out⟩, ⟨bq_ BK1154.out⟩, ⟨hb_ HB.out⟩⟩
      ·
       replace c50 := Bool.eq_false_iff.mpr c50
       subst c50
       have H1 : (some false) = some r := by rw [if_neg (show ¬ (false = true) by decide)] at H; exact H
       clear H
       have H := H1
       clear H1
       obtain rfl := Option.some.inj H
       go_wp2
       go_ret
       exact ⟨er_, hb_ HB.out⟩
     case rest =>
      clear HC45
      (try clear c1); (try clear c2); (try clear p2); (try clear c3); (try clear c4); (try clear c5); (try clear c6); (try clear c7); (try clear c11); (try clear c11b0); (try clear c13); (try clear c23); (try clear c26); (try clear c28); (try clear c29); (try clear c30); (try clear c35); (try clear c36); (try clear c37); (try clear c42); (try clear c50); (try clear hcz18_0); (try clear hcz18_1); (try clear hcz18_2); (try clear hcz18_3); (try clear hcz18_4); (try clear hcz24_0); (try clear hcz24_1); (try clear hcz24_2); (try clear hcz24_3); (try clear hcz24_4); (try clear hcz26_0); (try clear hcz26_1); (try clear hcz26_2); (try clear hcz26_3); (try clear hcz26_4); (try clear hcz31_0); (try clear hcz31_1); (try clear hcz31_2); (try clear hcz31_3); (try clear hcz31_4); (try clear hcz38_0); (try clear hcz38_1); (try clear hcz38_2); (try clear hcz38_3); (try clear hcz38_4); (try clear hcz40_0); (try clear hcz40_1); (try clear hcz40_2); (try clear hcz40_3); (try clear hcz40_4); (try clear hcz9_0); (try clear hcz9_1); (try clear hcz9_2); (try clear hcz9_3); (try clear hcz9_4); (try clear hfz18_0); (try clear hfz18_1); (try clear hfz18_2); (try clear hfz18_3); (try clear hfz18_4); (try clear hfz24_0); (try clear hfz24_1); (try clear hfz24_2); (try clear hfz24_3); (try clear hfz24_4); (try clear hfz26_0); (try clear hfz26_1); (try clear hfz26_2); (try clear hfz26_3); (try clear hfz26_4); (try clear hfz31_0); (try clear hfz31_1); (try clear hfz31_2); (try clear hfz31_3); (try clear hfz31_4); (try clear hfz38_0); (try clear hfz38_1); (try clear hfz38_2); (try clear hfz38_3); (try clear hfz38_4); (try clear hfz40_0); (try clear hfz40_1); (try clear hfz40_2); (try clear hfz40_3); (try clear hfz40_4); (try clear hfz9_0); (try clear hfz9_1); (try clear hfz9_2); (try clear hfz9_3); (try clear hfz9_4); (try clear p2)
      obtain ⟨kq, HA, HJ44, HO_1139004, HO_1147004, HO_1155004, BK1122, BK1138, BK1146, BK1154, HB⟩ := hcut
      cases kq with
      | zero => exact absurd HA.out (by simp [laws_FnExactMakerPut.j2])
      | succ kj44 =>
       have H := HA.out
       clear HA
       simp only [laws_FnExactMakerPut.j2] at H
       replace H := Option.bind_eq_some_iff.mp H
       obtain ⟨⟨t1164, t1165⟩, A510, H⟩ := H
       replace H : (if t1164 < 0 then (laws_FnExactMakerPut.j3 kj44 a1 a2 a3 a4 true a0_0 a0_1 a0_2 a0_3 l0_4 t1131 t1132 t1133 t1134 t1135 t1147 t1148 t1149 t1150 t1151) else ((laws_eqMaker.f kj44 t1147 t1148 t1149 t1150 t1151 t1131 t1132 t1133 t1134 t1135).bind fun t1166 => (laws_FnExactMakerPut.j3 kj44 a1 a2 a3 a4 (!t1166) a0_0 a0_1 a0_2 a0_3 l0_4 t1131 t1132 t1133 t1134 t1135 t1147 t1148 t1149 t1150 t1151))) = some r := H
       have A51 := Aside0.mk A510
       clear A510
       have HC52 := Aside0.mk H
       clear H
       have hnb53 := NB1146_1122.out
       have hnc53 := NB1122_1146.out
       have hnb54 := NB1146_1138.out
       have hnc54 := NB1138_1146.out
       have hnb55 := NB1146_1154.out
       have hnc55 := NB1154_1146.out
       have hcz56_0 : wc.cell? ⟨gb1146, 0, none⟩ = some (.int .i64 t1139) := (blk_cell BK1146.out 0).trans rfl
       have hcz56_1 : wc.cell? ⟨gb1146, 1, none⟩ = some (.int .i64 t1140) := (blk_cell BK1146.out 1).trans rfl
       have hcz56_2 : wc.cell? ⟨gb1146, 2, none⟩ = some (.int .i64 t1141) := (blk_cell BK1146.out 2).trans rfl
       have hcz56_3 : wc.cell? ⟨gb1146, 3, none⟩ = some (.int .i64 t1142) := (blk_cell BK1146.out 3).trans rfl
       have hcz56_4 : wc.cell? ⟨gb1146, 4, none⟩ = some (.slice Ao32 t1143.length co32) := (blk_cell BK1146.out 4).trans rfl
       have hfz56_0 := blk_frozen BK1146.out 0
       have hfz56_1 := blk_frozen BK1146.out 1
       have hfz56_2 := blk_frozen BK1146.out 2
       have hfz56_3 := blk_frozen BK1146.out 3
       have hfz56_4 := blk_frozen BK1146.out 4
       go_upto_region 14 with (first | ((with_reducible refine gate_callee (f := 69) rfl ?_); refine goesL_ (some 50) rfl rfl Try.func69 (by kernel_rfl) rfl #[.agg #[.int .i64 t1139, .int .i64 t1140, .int .i64 t1141, .int .i64 t1142, .slice Ao32 t1143.length co32], .int .i64 1] rfl sm_ ?_; (with_reducible refine (laws_markMaker.calls kj44 t1139 t1140 t1141 t1142 (fun k_ => some k_ = (.slice Ao32 t1143.length co32 : Value).ownBlock) (.slice Ao32 t1143.length co32) t1143 1 t1164 t1165 w _ ?side1 ?side2 A51.out).mono ?_); (case side1 => repeat (first | (with_reducible first | exact HB.out | apply below_alloc | apply pw_below_drewN | apply below_drew1 | refine below_set ?_ GE1122.out | refine below_set ?_ GE1138.out | refine below_set ?_ GE1146.out | refine below_set ?_ GE1154.out) | exact HB.out)); (case side2 => exact Kd.R_tight rfl HO_1147004.out); rintro e w57 ⟨rfl, hy0, hb, hkp⟩; refine ⟨_, rfl, ?_⟩; have n0_ := Aside0.mk (Kd.R_mono (ok' := fun k_ => some k_ ≠ (.slice Ao32 t1143.length co32 : Value).ownBlock ∧ some k_ ≠ (.slice Ao39 t1151.length co39 : Value).ownBlock) (Kd.R_keptB (HO_1139004.out) hkp (fun k_ hk_ hs_ => (hk_.1) hs_)) (fun k_ hk_ => ⟨hk_.1.1, hk_.1.2⟩)); have n1_ := Aside0.mk (Kd.R_reok rfl hy0 (fun k_ e_ => HO_1147004.out.1 k_ e_)); have n2_ := Aside0.mk (Kd.R_mono (ok' := fun k_ => some k_ ≠ (.slice Ao25 t1135.length co25 : Value).ownBlock ∧ some k_ ≠ (.slice Ao32 t1143.length co32 : Value).ownBlock) (Kd.R_keptB (HO_1155004.out) hkp (fun k_ hk_ hs_ => (hk_.2) hs_)) (fun k_ hk_ => ⟨hk_.1.1, hk_.1.2⟩)); have n3_ := Aside0.mk (blk_kept (bq_ BK1122.out) hkp (fun hs_ => (fun e_ => (Kd.R_ne HO_1147004.out BK1122.out (by decide)) e_) hs_)); have n4_ := Aside0.mk (blk_kept (bq_ BK1138.out) hkp (fun hs_ => (fun e_ => (Kd.R_ne HO_1147004.out BK1138.out (by decide)) e_) hs_)); have n5_ := Aside0.mk (blk_kept (bq_ BK1146.out) hkp (fun hs_ => (fun e_ => (Kd.R_ne HO_1147004.out BK1146.out (by decide)) e_) hs_)); have n6_ := Aside0.mk (blk_kept (bq_ BK1154.out) hkp (fun hs_ => (fun e_ => (Kd.R_ne HO_1147004.out BK1154.out (by decide)) e_) hs_)); have n7_ := Aside0.mk (hb); clear HO_1139004; clear HO_1147004; clear HO_1155004; clear BK1122; clear BK1138; clear BK1146; clear BK1154; clear HB; have HO_1139004 := n0_; have HO_1147004 := n1_; have HO_1155004 := n2_; have BK1122 := n3_; have BK1138 := n4_; have BK1146 := n5_; have BK1154 := n6_; have HB := n7_; clear n0_ n1_ n2_ n3_ n4_ n5_ n6_ n7_; (try clear hb); (try clear hkp); (try clear hy0)))
       (try simp only [Act.put, List.setIfInBounds_toArray, List.set_cons_zero, List.set_cons_succ])
       go_cut [58] (fun v58 wc => ∃ (kq : Nat) (x58_51 : Bool), v58 = .bool x58_51 ∧ Aside0 (laws_FnExactMakerPut.j3 kq a1 a2 a3 a4 x58_51 a0_0 a0_1 a0_2 a0_3 l0_4 t1131 t1132 t1133 t1134 t1135 t1147 t1148 t1149 t1150 t1151 = some r) ∧ Aside0 (kq ≤ kj44) ∧ Aside0 (Kd.R k_Mark 118 wc w.heap.size (fun k_ => some k_ ≠ ((.slice Ao32 t1143.length co32) : Value).ownBlock ∧ some k_ ≠ ((.slice Ao39 t1151.length co39) : Value).ownBlock) (.slice Ao25 t1135.length co25) t1135) ∧ Aside0 (Kd.R k_Mark 118 wc w.heap.size (fun k_ => some k_ ≠ ((.slice Ao25 t1135.length co25) : Value).ownBlock ∧ some k_ ≠ ((.slice Ao39 t1151.length co39) : Value).ownBlock) (.slice Ao32 t1143.length co32) t1165) ∧ Aside0 (Kd.R k_Mark 118 wc w.heap.size (fun k_ => some k_ ≠ ((.slice Ao25 t1135.length co25) : Value).ownBlock ∧ some k_ ≠ ((.slice Ao32 t1143.length co32) : Value).ownBlock) (.slice Ao39 t1151.length co39) t1151) ∧ Aside0 (wc.heap[gb1122]? = some (.cells #[.int .i64 a0_0, .int .i64 a0_1, .int .i64 a0_2, .int .i64 a0_3, (.slice A0_4 l0_4.length c0_4)] 48 (0, 0))) ∧ Aside0 (wc.heap[gb1138]? = some (.cells #[.int .i64 t1131, .int .i64 t1132, .int .i64 t1133, .int .i64 t1134, (.slice Ao25 t1135.length co25)] 54 (0, 0))) ∧ Aside0 (wc.heap[gb1146]? = some (.cells #[.int .i64 t1139, .int .i64 t1140, .int .i64 t1141, .int .i64 t1142, (.slice Ao32 t1143.length co32)] 54 (0, 0))) ∧ Aside0 (wc.heap[gb1154]? = some (.cells #[.int .i64 t1147, .int .i64 t1148, .int .i64 t1149, .int .i64 t1150, (.slice Ao39 t1151.length co39)] 54 (0, 0))) ∧ Aside0 (Below w.heap.size w wc))
       case first =>
        have H := HC52.out
        clear HC52
        by_cases c58 : t1164 < 0
        ·
         rw [if_pos c58] at H
         have c58b0 : decide (t1164 < 0) = true := decide_eq_true c58
         clear c58
         (first | rw [c58b0] | (simp only [i64_w, i32_w]; rw [c58b0]) | rw [c58b4] | rw [c58b3] | skip)
         have H' := Aside0.mk H
         clear H
         go_wp2
         go_meet
         case rel => exact ⟨_, (true), (by first | rfl | (simp; done) | (simp [*]; done)), H', ⟨by have := HJ6.out; have := HJ16.out; have := HJ44.out; first | omega | exact Nat.le_refl _⟩, ⟨rq_ HO_1139004.out⟩, ⟨rq_ HO_1147004.out⟩, ⟨rq_ HO_1155004.out⟩, ⟨bq_ BK1122.out⟩, ⟨bq_ BK1138.out⟩, ⟨bq_ BK1146.out⟩, ⟨bq_ BK1154.out⟩, ⟨hb_ HB.out⟩⟩
        ·
         rw [if_neg c58] at H
         have c58b0 : decide (t1164 < 0) = false := decide_eq_false c58
         clear c58
         (first | rw [c58b0] | (simp only [i64_w, i32_w]; rw [c58b0]) | rw [c58b4] | rw [c58b3] | skip)
         replace H := Option.bind_eq_some_iff.mp H
         obtain ⟨t1166, A590, H⟩ := H
         replace H : (laws_FnExactMakerPut.j3 kj44 a1 a2 a3 a4 (!t1166) a0_0 a0_1 a0_2 a0_3 l0_4 t1131 t1132 t1133 t1134 t1135 t1147 t1148 t1149 t1150 t1151) = some r := H
         have A59 := Aside0.mk A590
         clear A590
         have H' := Aside0.mk H
         clear H
         have hnb60 := NB1154_1122.out
         have hnc60 := NB1122_1154.out
         have hnb61 := NB1154_1138.out
         have hnc61 := NB1138_1154.out
         have hnb62 := NB1154_1146.out
         have hnc62 := NB1146_1154.out
         have hcz63_0 : w57.cell? ⟨gb1154, 0, none⟩ = some (.int .i64 t1147) := (blk_cell BK1154.out 0).trans rfl
         have hcz63_1 : w57.cell? ⟨gb1154, 1, none⟩ = some (.int .i64 t1148) := (blk_cell BK1154.out 1).trans rfl
         have hcz63_2 : w57.cell? ⟨gb1154, 2, none⟩ = some (.int .i64 t1149) := (blk_cell BK1154.out 2).trans rfl
         have hcz63_3 : w57.cell? ⟨gb1154, 3, none⟩ = some (.int .i64 t1150) := (blk_cell BK1154.out 3).trans rfl
         have hcz63_4 : w57.cell? ⟨gb1154, 4, none⟩ = some (.slice Ao39 t1151.length co39) := (blk_cell BK1154.out 4).trans rfl
         have hfz63_0 := blk_frozen BK1154.out 0
         have hfz63_1 := blk_frozen BK1154.out 1
         have hfz63_2 := blk_frozen BK1154.out 2
         have hfz63_3 := blk_frozen BK1154.out 3
         have hfz63_4 := blk_frozen BK1154.out 4
         have hnb64 := NB1138_1122.out
         have hnc64 := NB1122_1138.out
         have hnb65 := NB1138_1146.out
         have hnc65 := NB1146_1138.out
         have hcz66_0 : w57.cell? ⟨gb1138, 0, none⟩ = some (.int .i64 t1131) := (blk_cell BK1138.out 0).trans rfl
         have hcz66_1 : w57.cell? ⟨gb1138, 1, none⟩ = some (.int .i64 t1132) := (blk_cell BK1138.out 1).trans rfl
         have hcz66_2 : w57.cell? ⟨gb1138, 2, none⟩ = some (.int .i64 t1133) := (blk_cell BK1138.out 2).trans rfl
         have hcz66_3 : w57.cell? ⟨gb1138, 3, none⟩ = some (.int .i64 t1134) := (blk_cell BK1138.out 3).trans rfl
         have hcz66_4 : w57.cell? ⟨gb1138, 4, none⟩ = some (.slice Ao25 t1135.length co25) := (blk_cell BK1138.out 4).trans rfl
         have hfz66_0 := blk_frozen BK1138.out 0
         have hfz66_1 := blk_frozen BK1138.out 1
         have hfz66_2 := blk_frozen BK1138.out 2
         have hfz66_3 := blk_frozen BK1138.out 3
         have hfz66_4 := blk_frozen BK1138.out 4
         go_wp2_with (first | (go_at_call 30; (with_reducible refine (laws_eqMaker.calls kj44 t1147 t1148 t1149 t1150 _ _ t1151 t1131 t1132 t1133 t1134 _ _ t1135 t1166 _ ?side1 ?side2 ?side3 ?side4 A59.out).mono ?_); (case side1 => repeat (first | exact (Kd.R_reads' HO_1155004.out).2.2 | (with_reducible refine Kd.C_alloc ?_ _) | (with_reducible refine Kd.C_drewN ?_ _) | (with_reducible refine Kd.C_drew ?_))); (case side2 => exact (Kd.R_reads' HO_1155004.out).2.1); (case side3 => repeat (first | exact (Kd.R_reads' HO_1139004.out).2.2 | (with_reducible refine Kd.C_alloc ?_ _) | (with_reducible refine Kd.C_drewN ?_ _) | (with_reducible refine Kd.C_drew ?_))); (case side4 => exact (Kd.R_reads' HO_1139004.out).2.1); rintro e w67 ⟨rfl, hb⟩; have n0_ := Aside0.mk (Kd.R_below (rq_ HO_1139004.out) hb); have n1_ := Aside0.mk (Kd.R_below (rq_ HO_1147004.out) hb); have n2_ := Aside0.mk (Kd.R_below (rq_ HO_1155004.out) hb); have n3_ := Aside0.mk (bb_ BK1122.out hb); have n4_ := Aside0.mk (bb_ BK1138.out hb); have n5_ := Aside0.mk (bb_ BK1146.out hb); have n6_ := Aside0.mk (bb_ BK1154.out hb); have n7_ := Aside0.mk (below_step (hb_ HB.out) hb); clear HO_1139004; clear HO_1147004; clear HO_1155004; clear BK1122; clear BK1138; clear BK1146; clear BK1154; clear HB; have HO_1139004 := n0_; have HO_1147004 := n1_; have HO_1155004 := n2_; have BK1122 := n3_; have BK1138 := n4_; have BK1146 := n5_; have BK1154 := n6_; have HB := n7_; clear n0_ n1_ n2_ n3_ n4_ n5_ n6_ n7_; (try clear hb); (try clear hb2); (try clear hk); (try clear hi)))
         go_meet
         case rel => exact ⟨_, (!t1166), (by first | rfl | (simp; done) | (simp [*]; done)), H', ⟨by have := HJ6.out; have := HJ16.out; have := HJ44.out; first | omega | exact Nat.le_refl _⟩, ⟨rq_ HO_1139004.out⟩, ⟨rq_ HO_1147004.out⟩, ⟨rq_ HO_1155004.out⟩, ⟨bq_ BK1122.out⟩, ⟨bq_ BK1138.out⟩, ⟨bq_ BK1146.out⟩, ⟨bq_ BK1154.out⟩, ⟨hb_ HB.out⟩⟩
       case rest =>
        clear HC52
        (try clear c1); (try clear c2); (try clear p2); (try clear c3); (try clear c4); (try clear c5); (try clear c6); (try clear c7); (try clear c11); (try clear c11b0); (try clear c13); (try clear c23); (try clear c26); (try clear c28); (try clear c29); (try clear c30); (try clear c35); (try clear c36); (try clear c37); (try clear c42); (try clear c50); (try clear c53); (try clear c54); (try clear c55); (try clear c58); (try clear c58b0); (try clear c60); (try clear c61); (try clear c62); (try clear c64); (try clear c65); (try clear hcz18_0); (try clear hcz18_1); (try clear hcz18_2); (try clear hcz18_3); (try clear hcz18_4); (try clear hcz24_0); (try clear hcz24_1); (try clear hcz24_2); (try clear hcz24_3); (try clear hcz24_4); (try clear hcz26_0); (try clear hcz26_1); (try clear hcz26_2); (try clear hcz26_3); (try clear hcz26_4); (try clear hcz31_0); (try clear hcz31_1); (try clear hcz31_2); (try clear hcz31_3); (try clear hcz31_4); (try clear hcz38_0); (try clear hcz38_1); (try clear hcz38_2); (try clear hcz38_3); (try clear hcz38_4); (try clear hcz40_0); (try clear hcz40_1); (try clear hcz40_2); (try clear hcz40_3); (try clear hcz40_4); (try clear hcz56_0); (try clear hcz56_1); (try clear hcz56_2); (try clear hcz56_3); (try clear hcz56_4); (try clear hcz63_0); (try clear hcz63_1); (try clear hcz63_2); (try clear hcz63_3); (try clear hcz63_4); (try clear hcz66_0); (try clear hcz66_1); (try clear hcz66_2); (try clear hcz66_3); (try clear hcz66_4); (try clear hcz9_0); (try clear hcz9_1); (try clear hcz9_2); (try clear hcz9_3); (try clear hcz9_4); (try clear hfz18_0); (try clear hfz18_1); (try clear hfz18_2); (try clear hfz18_3); (try clear hfz18_4); (try clear hfz24_0); (try clear hfz24_1); (try clear hfz24_2); (try clear hfz24_3); (try clear hfz24_4); (try clear hfz26_0); (try clear hfz26_1); (try clear hfz26_2); (try clear hfz26_3); (try clear hfz26_4); (try clear hfz31_0); (try clear hfz31_1); (try clear hfz31_2); (try clear hfz31_3); (try clear hfz31_4); (try clear hfz38_0); (try clear hfz38_1); (try clear hfz38_2); (try clear hfz38_3); (try clear hfz38_4); (try clear hfz40_0); (try clear hfz40_1); (try clear hfz40_2); (try clear hfz40_3); (try clear hfz40_4); (try clear hfz56_0); (try clear hfz56_1); (try clear hfz56_2); (try clear hfz56_3); (try clear hfz56_4); (try clear hfz63_0); (try clear hfz63_1); (try clear hfz63_2); (try clear hfz63_3); (try clear hfz63_4); (try clear hfz66_0); (try clear hfz66_1); (try clear hfz66_2); (try clear hfz66_3); (try clear hfz66_4); (try clear hfz9_0); (try clear hfz9_1); (try clear hfz9_2); (try clear hfz9_3); (try clear hfz9_4); (try clear p2)
        obtain ⟨kq, x58_51, rfl, HA, HJ51, HO_1139004, HO_1147004, HO_1155004, BK1122, BK1138, BK1146, BK1154, HB⟩ := hcut
        have hl1147004_51 := (Kd.R_reads' HO_1147004.out).1
        rw [hl1147004_51] at HO_1147004
        (try simp only [hl1147004_51])
        (try simp only [hl1147004_51] at BK1122)
        (try simp only [hl1147004_51] at BK1138)
        (try simp only [hl1147004_51] at BK1146)
        (try simp only [hl1147004_51] at BK1154)
        (try simp only [hl1147004_51] at HO_1139004)
        (try simp only [hl1147004_51] at HO_1155004)
        cases kq with
        | zero => exact absurd HA.out (by simp [laws_FnExactMakerPut.j3])
        | succ kj51 =>
         have H := HA.out
         clear HA
         simp only [laws_FnExactMakerPut.j3] at H
         have HC68 := Aside0.mk H
         clear H
         go_upto_if 58 with (fail)
         go_cut [] (fun wc => ∃ (kq : Nat), Aside0 (laws_FnExactMakerPut.j4 kq a1 a2 a3 a4 a0_0 a0_1 a0_2 a0_3 l0_4 t1131 t1132 t1133 t1134 t1135 t1147 t1148 t1149 t1150 t1151 = some r) ∧ Aside0 (kq ≤ kj51) ∧ Aside0 (Kd.R k_Mark 118 wc w.heap.size (fun k_ => some k_ ≠ ((.slice Ao32 t1165.length co32) : Value).ownBlock ∧ some k_ ≠ ((.slice Ao39 t1151.length co39) : Value).ownBlock) (.slice Ao25 t1135.length co25) t1135) ∧ Aside0 (Kd.R k_Mark 118 wc w.heap.size (fun k_ => some k_ ≠ ((.slice Ao25 t1135.length co25) : Value).ownBlock ∧ some k_ ≠ ((.slice Ao39 t1151.length co39) : Value).ownBlock) (.slice Ao32 t1165.length co32) t1165) ∧ Aside0 (Kd.R k_Mark 118 wc w.heap.size (fun k_ => some k_ ≠ ((.slice Ao25 t1135.length co25) : Value).ownBlock ∧ some k_ ≠ ((.slice Ao32 t1165.length co32) : Value).ownBlock) (.slice Ao39 t1151.length co39) t1151) ∧ Aside0 (wc.heap[gb1122]? = some (.cells #[.int .i64 a0_0, .int .i64 a0_1, .int .i64 a0_2, .int .i64 a0_3, (.slice A0_4 l0_4.length c0_4)] 48 (0, 0))) ∧ Aside0 (wc.heap[gb1138]? = some (.cells #[.int .i64 t1131, .int .i64 t1132, .int .i64 t1133, .int .i64 t1134, (.slice Ao25 t1135.length co25)] 54 (0, 0))) ∧ Aside0 (wc.heap[gb1146]? = some (.cells #[.int .i64 t1139, .int .i64 t1140, .int .i64 t1141, .int .i64 t1142, (.slice Ao32 t1165.length co32)] 54 (0, 0))) ∧ Aside0 (wc.heap[gb1154]? = some (.cells #[.int .i64 t1147, .int .i64 t1148, .int .i64 t1149, .int .i64 t1150, (.slice Ao39 t1151.length co39)] 54 (0, 0))) ∧ Aside0 (Below w.heap.size w wc))
         case first =>
          have H := HC68.out
          clear HC68
          by_cases c69 : x58_51 = true
          ·
           subst c69
           have H1 : (some false) = some r := by rw [if_pos rfl] at H; exact H
           clear H
           have H := H1
           clear H1
           obtain rfl := Option.some.inj H
           go_wp2
           go_ret
           exact ⟨er_, hb_ HB.out⟩
          ·
           replace c69 := Bool.eq_false_iff.mpr c69
           subst c69
           have H1 : (laws_FnExactMakerPut.j4 kj51 a1 a2 a3 a4 a0_0 a0_1 a0_2 a0_3 l0_4 t1131 t1132 t1133 t1134 t1135 t1147 t1148 t1149 t1150 t1151) = some r := by rw [if_neg (show ¬ (false = true) by decide)] at H; exact H
           clear H
           have H := H1
           clear H1
           have H' := Aside0.mk H
           clear H
           go_wp2
           go_meet
           case rel => exact ⟨_, H', ⟨by have := HJ6.out; have := HJ16.out; have := HJ44.out; have := HJ51.out; first | omega | exact Nat.le_refl _⟩, ⟨by (try simp only [hl1147004_51]); (with_reducible repeat (first | apply Kd.R_alloc | apply Kd.R_drewN | apply Kd.R_drew)); exact HO_1139004.out⟩, ⟨by (try simp only [hl1147004_51]); (with_reducible repeat (first | apply Kd.R_alloc | apply Kd.R_drewN | apply Kd.R_drew)); exact HO_1147004.out⟩, ⟨by (try simp only [hl1147004_51]); (with_reducible repeat (first | apply Kd.R_alloc | apply Kd.R_drewN | apply Kd.R_drew)); exact HO_1155004.out⟩, ⟨by (try simp only [hl1147004_51]); (with_reducible repeat (first | refine blk_drewN ?_ _ | refine blk_drew ?_ | refine blk_alloc ?_ _)); exact BK1122.out⟩, ⟨by (try simp only [hl1147004_51]); (with_reducible repeat (first | refine blk_drewN ?_ _ | refine blk_drew ?_ | refine blk_alloc ?_ _)); exact BK1138.out⟩, ⟨by (try simp only [hl1147004_51]); (with_reducible repeat (first | refine blk_drewN ?_ _ | refine blk_drew ?_ | refine blk_alloc ?_ _)); exact BK1146.out⟩, ⟨by (try simp only [hl1147004_51]); (with_reducible repeat (first | refine blk_drewN ?_ _ | refine blk_drew ?_ | refine blk_alloc ?_ _)); exact BK1154.out⟩, ⟨hb_ HB.out⟩⟩
         case rest =>
          clear HC68
          (try clear c1); (try clear c2); (try clear p2); (try clear c3); (try clear c4); (try clear c5); (try clear c6); (try clear c7); (try clear c11); (try clear c11b0); (try clear c13); (try clear c23); (try clear c26); (try clear c28); (try clear c29); (try clear c30); (try clear c35); (try clear c36); (try clear c37); (try clear c42); (try clear c50); (try clear c53); (try clear c54); (try clear c55); (try clear c58); (try clear c58b0); (try clear c60); (try clear c61); (try clear c62); (try clear c64); (try clear c65); (try clear c69); (try clear hcz18_0); (try clear hcz18_1); (try clear hcz18_2); (try clear hcz18_3); (try clear hcz18_4); (try clear hcz24_0); (try clear hcz24_1); (try clear hcz24_2); (try clear hcz24_3); (try clear hcz24_4); (try clear hcz26_0); (try clear hcz26_1); (try clear hcz26_2); (try clear hcz26_3); (try clear hcz26_4); (try clear hcz31_0); (try clear hcz31_1); (try clear hcz31_2); (try clear hcz31_3); (try clear hcz31_4); (try clear hcz38_0); (try clear hcz38_1); (try clear hcz38_2); (try clear hcz38_3); (try clear hcz38_4); (try clear hcz40_0); (try clear hcz40_1); (try clear hcz40_2); (try clear hcz40_3); (try clear hcz40_4); (try clear hcz56_0); (try clear hcz56_1); (try clear hcz56_2); (try clear hcz56_3); (try clear hcz56_4); (try clear hcz63_0); (try clear hcz63_1); (try clear hcz63_2); (try clear hcz63_3); (try clear hcz63_4); (try clear hcz66_0); (try clear hcz66_1); (try clear hcz66_2); (try clear hcz66_3); (try clear hcz66_4); (try clear hcz9_0); (try clear hcz9_1); (try clear hcz9_2); (try clear hcz9_3); (try clear hcz9_4); (try clear hfz18_0); (try clear hfz18_1); (try clear hfz18_2); (try clear hfz18_3); (try clear hfz18_4); (try clear hfz24_0); (try clear hfz24_1); (try clear hfz24_2); (try clear hfz24_3); (try clear hfz24_4); (try clear hfz26_0); (try clear hfz26_1); (try clear hfz26_2); (try clear hfz26_3); (try clear hfz26_4); (try clear hfz31_0); (try clear hfz31_1); (try clear hfz31_2); (try clear hfz31_3); (try clear hfz31_4); (try clear hfz38_0); (try clear hfz38_1); (try clear hfz38_2); (try clear hfz38_3); (try clear hfz38_4); (try clear hfz40_0); (try clear hfz40_1); (try clear hfz40_2); (try clear hfz40_3); (try clear hfz40_4); (try clear hfz56_0); (try clear hfz56_1); (try clear hfz56_2); (try clear hfz56_3); (try clear hfz56_4); (try clear hfz63_0); (try clear hfz63_1); (try clear hfz63_2); (try clear hfz63_3); (try clear hfz63_4); (try clear hfz66_0); (try clear hfz66_1); (try clear hfz66_2); (try clear hfz66_3); (try clear hfz66_4); (try clear hfz9_0); (try clear hfz9_1); (try clear hfz9_2); (try clear hfz9_3); (try clear hfz9_4); (try clear p2)
          obtain ⟨kq, HA, HJ67, HO_1139004, HO_1147004, HO_1155004, BK1122, BK1138, BK1146, BK1154, HB⟩ := hcut
          cases kq with
          | zero => exact absurd HA.out (by simp [laws_FnExactMakerPut.j4])
          | succ kj67 =>
           have H := HA.out
           clear HA
           simp only [laws_FnExactMakerPut.j4] at H
           replace H := Option.bind_eq_some_iff.mp H
           obtain ⟨⟨t1167, t1168⟩, A700, H⟩ := H
           replace H : ((laws_heldMaker.f kj67 t1147 t1148 t1149 t1150 t1168 1).bind fun t1169 => (if t1169 < 0 then (some false) else (laws_FnExactMakerPut.j5 kj67 a1 a2 a3 a4 t1167 t1169 a0_0 a0_1 a0_2 a0_3 l0_4 t1131 t1132 t1133 t1134 t1135 t1147 t1148 t1149 t1150 t1168))) = some r := H
           have A70 := Aside0.mk A700
           clear A700
           replace H := Option.bind_eq_some_iff.mp H
           obtain ⟨t1169, A710, H⟩ := H
           replace H : (if t1169 < 0 then (some false) else (laws_FnExactMakerPut.j5 kj67 a1 a2 a3 a4 t1167 t1169 a0_0 a0_1 a0_2 a0_3 l0_4 t1131 t1132 t1133 t1134 t1135 t1147 t1148 t1149 t1150 t1168)) = some r := H
           have A71 := Aside0.mk A710
           clear A710
           have HC72 := Aside0.mk H
           clear H
           have hnb73 := NB1154_1122.out
           have hnc73 := NB1122_1154.out
           have hnb74 := NB1154_1138.out
           have hnc74 := NB1138_1154.out
           have hnb75 := NB1154_1146.out
           have hnc75 := NB1146_1154.out
           have hcz76_0 : wc.cell? ⟨gb1154, 0, none⟩ = some (.int .i64 t1147) := (blk_cell BK1154.out 0).trans rfl
           have hcz76_1 : wc.cell? ⟨gb1154, 1, none⟩ = some (.int .i64 t1148) := (blk_cell BK1154.out 1).trans rfl
           have hcz76_2 : wc.cell? ⟨gb1154, 2, none⟩ = some (.int .i64 t1149) := (blk_cell BK1154.out 2).trans rfl
           have hcz76_3 : wc.cell? ⟨gb1154, 3, none⟩ = some (.int .i64 t1150) := (blk_cell BK1154.out 3).trans rfl
           have hcz76_4 : wc.cell? ⟨gb1154, 4, none⟩ = some (.slice Ao39 t1151.length co39) := (blk_cell BK1154.out 4).trans rfl
           have hfz76_0 := blk_frozen BK1154.out 0
           have hfz76_1 := blk_frozen BK1154.out 1
           have hfz76_2 := blk_frozen BK1154.out 2
           have hfz76_3 := blk_frozen BK1154.out 3
           have hfz76_4 := blk_frozen BK1154.out 4
           go_upto_if 66 with (first | ((with_reducible refine gate_callee (f := 69) rfl ?_); refine goesL_ (some 61) rfl rfl Try.func69 (by kernel_rfl) rfl #[.agg #[.int .i64 t1147, .int .i64 t1148, .int .i64 t1149, .int .i64 t1150, .slice Ao39 t1151.length co39], .int .i64 1] rfl sm_ ?_; (with_reducible refine (laws_markMaker.calls kj67 t1147 t1148 t1149 t1150 (fun k_ => some k_ = (.slice Ao39 t1151.length co39 : Value).ownBlock) (.slice Ao39 t1151.length co39) t1151 1 t1167 t1168 w _ ?side1 ?side2 A70.out).mono ?_); (case side1 => repeat (first | (with_reducible first | exact HB.out | apply below_alloc | apply pw_below_drewN | apply below_drew1 | refine below_set ?_ GE1122.out | refine below_set ?_ GE1138.out | refine below_set ?_ GE1146.out | refine below_set ?_ GE1154.out) | exact HB.out)); (case side2 => exact Kd.R_tight rfl HO_1155004.out); rintro e w77 ⟨rfl, hy0, hb, hkp⟩; refine ⟨_, rfl, ?_⟩; have n0_ := Aside0.mk (Kd.R_mono (ok' := fun k_ => some k_ ≠ (.slice Ao32 t1165.length co32 : Value).ownBlock ∧ some k_ ≠ (.slice Ao39 t1151.length co39 : Value).ownBlock) (Kd.R_keptB (HO_1139004.out) hkp (fun k_ hk_ hs_ => (hk_.2) hs_)) (fun k_ hk_ => ⟨hk_.1.1, hk_.1.2⟩)); have n1_ := Aside0.mk (Kd.R_mono (ok' := fun k_ => some k_ ≠ (.slice Ao25 t1135.length co25 : Value).ownBlock ∧ some k_ ≠ (.slice Ao39 t1151.length co39 : Value).ownBlock) (Kd.R_keptB (HO_1147004.out) hkp (fun k_ hk_ hs_ => (hk_.2) hs_)) (fun k_ hk_ => ⟨hk_.1.1, hk_.1.2⟩)); have n2_ := Aside0.mk (Kd.R_reok rfl hy0 (fun k_ e_ => HO_1155004.out.1 k_ e_)); have n3_ := Aside0.mk (blk_kept (bq_ BK1122.out) hkp (fun hs_ => (fun e_ => (Kd.R_ne HO_1155004.out BK1122.out (by decide)) e_) hs_)); have n4_ := Aside0.mk (blk_kept (bq_ BK1138.out) hkp (fun hs_ => (fun e_ => (Kd.R_ne HO_1155004.out BK1138.out (by decide)) e_) hs_)); have n5_ := Aside0.mk (blk_kept (bq_ BK1146.out) hkp (fun hs_ => (fun e_ => (Kd.R_ne HO_1155004.out BK1146.out (by decide)) e_) hs_)); have n6_ := Aside0.mk (blk_kept (bq_ BK1154.out) hkp (fun hs_ => (fun e_ => (Kd.R_ne HO_1155004.out BK1154.out (by decide)) e_) hs_)); have n7_ := Aside0.mk (hb); clear HO_1139004; clear HO_1147004; clear HO_1155004; clear BK1122; clear BK1138; clear BK1146; clear BK1154; clear HB; have HO_1139004 := n0_; have HO_1147004 := n1_; have HO_1155004 := n2_; have BK1122 := n3_; have BK1138 := n4_; have BK1146 := n5_; have BK1154 := n6_; have HB := n7_; clear n0_ n1_ n2_ n3_ n4_ n5_ n6_ n7_; (try clear hb); (try clear hkp); (try clear hy0); have hcz78_0 : w77.cell? ⟨gb1154, 0, none⟩ = some (.int .i64 t1147) := (blk_cell BK1154.out 0).trans rfl; have hcz78_1 : w77.cell? ⟨gb1154, 1, none⟩ = some (.int .i64 t1148) := (blk_cell BK1154.out 1).trans rfl; have hcz78_2 : w77.cell? ⟨gb1154, 2, none⟩ = some (.int .i64 t1149) := (blk_cell BK1154.out 2).trans rfl; have hcz78_3 : w77.cell? ⟨gb1154, 3, none⟩ = some (.int .i64 t1150) := (blk_cell BK1154.out 3).trans rfl; have hcz78_4 : w77.cell? ⟨gb1154, 4, none⟩ = some (.slice Ao39 t1151.length co39) := (blk_cell BK1154.out 4).trans rfl; have hfz78_0 := blk_frozen BK1154.out 0; have hfz78_1 := blk_frozen BK1154.out 1; have hfz78_2 := blk_frozen BK1154.out 2; have hfz78_3 := blk_frozen BK1154.out 3; have hfz78_4 := blk_frozen BK1154.out 4) | ((with_reducible refine gate_callee (f := 70) rfl ?_); refine goesL_ (some 64) rfl rfl Try.func70 (by kernel_rfl) rfl #[.agg #[.int .i64 t1147, .int .i64 t1148, .int .i64 t1149, .int .i64 t1150, .slice Ao39 t1168.length co39], .int .i64 1] rfl (by (try simp only [List.map_toArray, List.map_cons, List.map_nil]); first | done | (rw [show t1168.length = t1151.length from (Kd.R_reads' HO_1155004.out).1.symm] <;> rfl) | rfl | (simp only [List.length_drop, List.length_take]; rfl)) ?_; (with_reducible refine (laws_heldMaker.calls kj67 t1147 t1148 t1149 t1150 _ _ t1168 1 t1169 _ ?side1 ?side2 A71.out).mono ?_); (case side1 => repeat (first | exact (Kd.R_reads' HO_1155004.out).2.2 | (with_reducible refine Kd.C_alloc ?_ _) | (with_reducible refine Kd.C_drewN ?_ _) | (with_reducible refine Kd.C_drew ?_))); (case side2 => rw [show t1168.length = t1151.length from (Kd.R_reads' HO_1155004.out).1.symm]; exact (Kd.R_reads' HO_1155004.out).2.1); rintro e w79 ⟨rfl, hb⟩; refine ⟨_, rfl, ?_⟩; have n0_ := Aside0.mk (Kd.R_below (rq_ HO_1139004.out) hb); have n1_ := Aside0.mk (Kd.R_below (rq_ HO_1147004.out) hb); have n2_ := Aside0.mk (Kd.R_below (rq_ HO_1155004.out) hb); have n3_ := Aside0.mk (bb_ BK1122.out hb); have n4_ := Aside0.mk (bb_ BK1138.out hb); have n5_ := Aside0.mk (bb_ BK1146.out hb); have n6_ := Aside0.mk (bb_ BK1154.out hb); have n7_ := Aside0.mk (below_step (hb_ HB.out) hb); clear HO_1139004; clear HO_1147004; clear HO_1155004; clear BK1122; clear BK1138; clear BK1146; clear BK1154; clear HB; have HO_1139004 := n0_; have HO_1147004 := n1_; have HO_1155004 := n2_; have BK1122 := n3_; have BK1138 := n4_; have BK1146 := n5_; have BK1154 := n6_; have HB := n7_; clear n0_ n1_ n2_ n3_ n4_ n5_ n6_ n7_; (try clear hb); (try clear hb2); (try clear hk); (try clear hi)))
           (try simp only [Act.put, List.setIfInBounds_toArray, List.set_cons_zero, List.set_cons_succ])
           go_cut [] (fun wc => ∃ (kq : Nat), Aside0 (laws_FnExactMakerPut.j5 kq a1 a2 a3 a4 t1167 t1169 a0_0 a0_1 a0_2 a0_3 l0_4 t1131 t1132 t1133 t1134 t1135 t1147 t1148 t1149 t1150 t1168 = some r) ∧ Aside0 (kq ≤ kj67) ∧ Aside0 (Kd.R k_Mark 118 wc w.heap.size (fun k_ => some k_ ≠ ((.slice Ao32 t1165.length co32) : Value).ownBlock ∧ some k_ ≠ ((.slice Ao39 t1151.length co39) : Value).ownBlock) (.slice Ao25 t1135.length co25) t1135) ∧ Aside0 (Kd.R k_Mark 118 wc w.heap.size (fun k_ => some k_ ≠ ((.slice Ao25 t1135.length co25) : Value).ownBlock ∧ some k_ ≠ ((.slice Ao39 t1151.length co39) : Value).ownBlock) (.slice Ao32 t1165.length co32) t1165) ∧ Aside0 (Kd.R k_Mark 118 wc w.heap.size (fun k_ => some k_ ≠ ((.slice Ao25 t1135.length co25) : Value).ownBlock ∧ some k_ ≠ ((.slice Ao32 t1165.length co32) : Value).ownBlock) (.slice Ao39 t1151.length co39) t1168) ∧ Aside0 (wc.heap[gb1122]? = some (.cells #[.int .i64 a0_0, .int .i64 a0_1, .int .i64 a0_2, .int .i64 a0_3, (.slice A0_4 l0_4.length c0_4)] 48 (0, 0))) ∧ Aside0 (wc.heap[gb1138]? = some (.cells #[.int .i64 t1131, .int .i64 t1132, .int .i64 t1133, .int .i64 t1134, (.slice Ao25 t1135.length co25)] 54 (0, 0))) ∧ Aside0 (wc.heap[gb1146]? = some (.cells #[.int .i64 t1139, .int .i64 t1140, .int .i64 t1141, .int .i64 t1142, (.slice Ao32 t1165.length co32)] 54 (0, 0))) ∧ Aside0 (wc.heap[gb1154]? = some (.cells #[.int .i64 t1147, .int .i64 t1148, .int .i64 t1149, .int .i64 t1150, (.slice Ao39 t1151.length co39)] 54 (0, 0))) ∧ Aside0 (Below w.heap.size w wc))
           case first =>
            have H := HC72.out
            clear HC72
            by_cases c80 : t1169 < 0
            ·
             rw [if_pos c80] at H
             have c80b0 : decide (t1169 < 0) = true := decide_eq_true c80
             clear c80
             (first | rw [c80b0] | (simp only [i64_w, i32_w]; rw [c80b0]) | rw [c80b4] | rw [c80b3] | skip)
             obtain rfl := Option.some.inj H
             go_wp2
             go_ret
             exact ⟨er_, hb_ HB.out⟩
            ·
             rw [if_neg c80] at H
             have c80b0 : decide (t1169 < 0) = false := decide_eq_false c80
             clear c80
             (first | rw [c80b0] | (simp only [i64_w, i32_w]; rw [c80b0]) | rw [c80b4] | rw [c80b3] | skip)
             have H' := Aside0.mk H
             clear H
             go_wp2
             go_meet
             case rel => exact ⟨_, H', ⟨by have := HJ6.out; have := HJ16.out; have := HJ44.out; have := HJ51.out; have := HJ67.out; first | omega | exact Nat.le_refl _⟩, ⟨by (try simp only [hl1147004_51]); (with_reducible repeat (first | apply Kd.R_alloc | apply Kd.R_drewN | apply Kd.R_drew)); exact HO_1139004.out⟩, ⟨by (try simp only [hl1147004_51]); (with_reducible repeat (first | apply Kd.R_alloc | apply Kd.R_drewN | apply Kd.R_drew)); exact HO_1147004.out⟩, ⟨by (try simp only [hl1147004_51]); (with_reducible repeat (first | apply Kd.R_alloc | apply Kd.R_drewN | apply Kd.R_drew)); exact HO_1155004.out⟩, ⟨by (try simp only [hl1147004_51]); (with_reducible repeat (first | refine blk_drewN ?_ _ | refine blk_drew ?_ | refine blk_alloc ?_ _)); exact BK1122.out⟩, ⟨by (try simp only [hl1147004_51]); (with_reducible repeat (first | refine blk_drewN ?_ _ | refine blk_drew ?_ | refine blk_alloc ?_ _)); exact BK1138.out⟩, ⟨by (try simp only [hl1147004_51]); (with_reducible repeat (first | refine blk_drewN ?_ _ | refine blk_drew ?_ | refine blk_alloc ?_ _)); exact BK1146.out⟩, ⟨by (try simp only [hl1147004_51]); (with_reducible repeat (first | refine blk_drewN ?_ _ | refine blk_drew ?_ | refine blk_alloc ?_ _)); exact BK1154.out⟩, ⟨hb_ HB.out⟩⟩
           case rest =>
            clear HC72
            (try clear c1); (try clear c2); (try clear p2); (try clear c3); (try clear c4); (try clear c5); (try clear c6); (try clear c7); (try clear c8); (try clear c11); (try clear c11b0); (try clear c13); (try clear c23); (try clear c26); (try clear c28); (try clear c29); (try clear c30); (try clear c35); (try clear c36); (try clear c37); (try clear c42); (try clear c50); (try clear c53); (try clear c54); (try clear c55); (try clear c58); (try clear c58b0); (try clear c60); (try clear c61); (try clear c62); (try clear c64); (try clear c65); (try clear c69); (try clear c70); (try clear c73); (try clear c74); (try clear c75); (try clear c80); (try clear c80b0); (try clear hcz18_0); (try clear hcz18_1); (try clear hcz18_2); (try clear hcz18_3); (try clear hcz18_4); (try clear hcz24_0); (try clear hcz24_1); (try clear hcz24_2); (try clear hcz24_3); (try clear hcz24_4); (try clear hcz26_0); (try clear hcz26_1); (try clear hcz26_2); (try clear hcz26_3); (try clear hcz26_4); (try clear hcz31_0); (try clear hcz31_1); (try clear hcz31_2); (try clear hcz31_3); (try clear hcz31_4); (try clear hcz38_0); (try clear hcz38_1); (try clear hcz38_2); (try clear hcz38_3); (try clear hcz38_4); (try clear hcz40_0); (try clear hcz40_1); (try clear hcz40_2); (try clear hcz40_3); (try clear hcz40_4); (try clear hcz56_0); (try clear hcz56_1); (try clear hcz56_2); (try clear hcz56_3); (try clear hcz56_4); (try clear hcz63_0); (try clear hcz63_1); (try clear hcz63_2); (try clear hcz63_3); (try clear hcz63_4); (try clear hcz66_0); (try clear hcz66_1); (try clear hcz66_2); (try clear hcz66_3); (try clear hcz66_4); (try clear hcz76_0); (try clear hcz76_1); (try clear hcz76_2); (try clear hcz76_3); (try clear hcz76_4); (try clear hcz78_0); (try clear hcz78_1); (try clear hcz78_2); (try clear hcz78_3); (try clear hcz78_4); (try clear hcz9_0); (try clear hcz9_1); (try clear hcz9_2); (try clear hcz9_3); (try clear hcz9_4); (try clear hfz18_0); (try clear hfz18_1); (try clear hfz18_2); (try clear hfz18_3); (try clear hfz18_4); (try clear hfz24_0); (try clear hfz24_1); (try clear hfz24_2); (try clear hfz24_3); (try clear hfz24_4); (try clear hfz26_0); (try clear hfz26_1); (try clear hfz26_2); (try clear hfz26_3); (try clear hfz26_4); (try clear hfz31_0); (try clear hfz31_1); (try clear hfz31_2); (try clear hfz31_3); (try clear hfz31_4); (try clear hfz38_0); (try clear hfz38_1); (try clear hfz38_2); (try clear hfz38_3); (try clear hfz38_4); (try clear hfz40_0); (try clear hfz40_1); (try clear hfz40_2); (try clear hfz40_3); (try clear hfz40_4); (try clear hfz56_0); (try clear hfz56_1); (try clear hfz56_2); (try clear hfz56_3); (try clear hfz56_4); (try clear hfz63_0); (try clear hfz63_1); (try clear hfz63_2); (try clear hfz63_3); (try clear hfz63_4); (try clear hfz66_0); (try clear hfz66_1); (try clear hfz66_2); (try clear hfz66_3); (try clear hfz66_4); (try clear hfz76_0); (try clear hfz76_1); (try clear hfz76_2); (try clear hfz76_3); (try clear hfz76_4); (try clear hfz78_0); (try clear hfz78_1); (try clear hfz78_2); (try clear hfz78_3); (try clear hfz78_4); (try clear hfz9_0); (try clear hfz9_1); (try clear hfz9_2); (try clear hfz9_3); (try clear hfz9_4); (try clear p2)
            obtain ⟨kq, HA, HJ71, HO_1139004, HO_1147004, HO_1155004, BK1122, BK1138, BK1146, BK1154, HB⟩ := hcut
            have hl1155004_71 := (Kd.R_reads' HO_1155004.out).1
            rw [hl1155004_71] at HO_1155004
            (try simp only [hl1155004_71])
            (try simp only [hl1155004_71] at BK1122)
            (try simp only [hl1155004_71] at BK1138)
            (try simp only [hl1155004_71] at BK1146)
            (try simp only [hl1155004_71] at BK1154)
            (try simp only [hl1155004_71] at HO_1139004)
            (try simp only [hl1155004_71] at HO_1147004)
            cases kq with
            | zero => exact absurd HA.out (by simp [laws_FnExactMakerPut.j5])
            | succ kj71 =>
             have H := HA.out
             clear HA
             simp only [laws_FnExactMakerPut.j5] at H
             have HC81 := Aside0.mk H
             clear H
             go_upto_if 69 with (fail)
             go_cut [] (fun wc => ∃ (kq : Nat), Aside0 (laws_FnExactMakerPut.j6 kq a1 a2 a3 a4 t1167 a0_0 a0_1 a0_2 a0_3 l0_4 t1131 t1132 t1133 t1134 t1135 t1147 t1148 t1149 t1150 t1168 = some r) ∧ Aside0 (kq ≤ kj71) ∧ Aside0 (Kd.R k_Mark 118 wc w.heap.size (fun k_ => some k_ ≠ ((.slice Ao32 t1165.length co32) : Value).ownBlock ∧ some k_ ≠ ((.slice Ao39 t1168.length co39) : Value).ownBlock) (.slice Ao25 t1135.length co25) t1135) ∧ Aside0 (Kd.R k_Mark 118 wc w.heap.size (fun k_ => some k_ ≠ ((.slice Ao25 t1135.length co25) : Value).ownBlock ∧ some k_ ≠ ((.slice Ao39 t1168.length co39) : Value).ownBlock) (.slice Ao32 t1165.length co32) t1165) ∧ Aside0 (Kd.R k_Mark 118 wc w.heap.size (fun k_ => some k_ ≠ ((.slice Ao25 t1135.length co25) : Value).ownBlock ∧ some k_ ≠ ((.slice Ao32 t1165.length co32) : Value).ownBlock) (.slice Ao39 t1168.length co39) t1168) ∧ Aside0 (wc.heap[gb1122]? = some (.cells #[.int .i64 a0_0, .int .i64 a0_1, .int .i64 a0_2, .int .i64 a0_3, (.slice A0_4 l0_4.length c0_4)] 48 (0, 0))) ∧ Aside0 (wc.heap[gb1138]? = some (.cells #[.int .i64 t1131, .int .i64 t1132, .int .i64 t1133, .int .i64 t1134, (.slice Ao25 t1135.length co25)] 54 (0, 0))) ∧ Aside0 (wc.heap[gb1146]? = some (.cells #[.int .i64 t1139, .int .i64 t1140, .int .i64 t1141, .int .i64 t1142, (.slice Ao32 t1165.length co32)] 54 (0, 0))) ∧ Aside0 (wc.heap[gb1154]? = some (.cells #[.int .i64 t1147, .int .i64 t1148, .int .i64 t1149, .int .i64 t1150, (.slice Ao39 t1168.length co39)] 54 (0, 0))) ∧ Aside0 (Below w.heap.size w wc))
             case first =>
              have H := HC81.out
              clear HC81
              by_cases c82 : t1169 = t1167
              ·
               rw [if_pos c82] at H
               have c82b0 : (t1169 == t1167) = true := beq_iff_eq.mpr c82
               have c82b1 : (t1169 != t1167) = false := bne_eq_false_iff_eq.mpr c82
               clear c82
               (first | rw [c82b0] | (simp only [i64_w, i32_w]; rw [c82b0]) | rw [c82b4] | rw [c82b3] | skip)
               have H' := Aside0.mk H
               clear H
               go_wp2
               go_meet
               case rel => exact ⟨_, H', ⟨by have := HJ6.out; have := HJ16.out; have := HJ44.out; have := HJ51.out; have := HJ67.out; have := HJ71.out; first | omega | exact Nat.le_refl _⟩, ⟨by (try simp only [hl1147004_51]); (try simp only [hl1155004_71]); (with_reducible repeat (first | apply Kd.R_alloc | apply Kd.R_drewN | apply Kd.R_drew)); exact HO_1139004.out⟩, ⟨by (try simp only [hl1147004_51]); (try simp only [hl1155004_71]); (with_reducible repeat (first | apply Kd.R_alloc | apply Kd.R_drewN | apply Kd.R_drew)); exact HO_1147004.out⟩, ⟨by (try simp only [hl1147004_51]); (try simp only [hl1155004_71]); (with_reducible repeat (first | apply Kd.R_alloc | apply Kd.R_drewN | apply Kd.R_drew)); exact HO_1155004.out⟩, ⟨by (try simp only [hl1147004_51]); (try simp only [hl1155004_71]); (with_reducible repeat (first | refine blk_drewN ?_ _ | refine blk_drew ?_ | refine blk_alloc ?_ _)); exact BK1122.out⟩, ⟨by (try simp only [hl1147004_51]); (try simp only [hl1155004_71]); (with_reducible repeat (first | refine blk_drewN ?_ _ | refine blk_drew ?_ | refine blk_alloc ?_ _)); exact BK1138.out⟩, ⟨by (try simp only [hl1147004_51]); (try simp only [hl1155004_71]); (with_reducible repeat (first | refine blk_drewN ?_ _ | refine blk_drew ?_ | refine blk_alloc ?_ _)); exact BK1146.out⟩, ⟨by (try simp only [hl1147004_51]); (try simp only [hl1155004_71]); (with_reducible repeat (first | refine blk_drewN ?_ _ | refine blk_drew ?_ | refine blk_alloc ?_ _)); exact BK1154.out⟩, ⟨hb_ HB.out⟩⟩
              ·
               rw [if_neg c82] at H
               have c82b0 : (t1169 == t1167) = false := beq_eq_false_iff_ne.mpr c82
               have c82b1 : (t1169 != t1167) = true := bne_iff_ne.mpr c82
               (first | rw [c82b0] | (simp only [i64_w, i32_w]; rw [c82b0]) | rw [c82b4] | rw [c82b3] | skip)
               obtain rfl := Option.some.inj H
               go_wp2
               go_ret
               exact ⟨er_, hb_ HB.out⟩
             case rest =>
              clear HC81
              (try clear c1); (try clear c2); (try clear p2); (try clear c3); (try clear c4); (try clear c5); (try clear c6); (try clear c7); (try clear c8); (try clear c11); (try clear c11b0); (try clear c13); (try clear c23); (try clear c26); (try clear c28); (try clear c29); (try clear c30); (try clear c35); (try clear c36); (try clear c37); (try clear c42); (try clear c50); (try clear c53); (try clear c54); (try clear c55); (try clear c58); (try clear c58b0); (try clear c60); (try clear c61); (try clear c62); (try clear c64); (try clear c65); (try clear c69); (try clear c70); (try clear c73); (try clear c74); (try clear c75); (try clear c80); (try clear c80b0); (try clear c82); (try clear c82b0); (try clear c82b1); (try clear hcz18_0); (try clear hcz18_1); (try clear hcz18_2); (try clear hcz18_3); (try clear hcz18_4); (try clear hcz24_0); (try clear hcz24_1); (try clear hcz24_2); (try clear hcz24_3); (try clear hcz24_4); (try clear hcz26_0); (try clear hcz26_1); (try clear hcz26_2); (try clear hcz26_3); (try clear hcz26_4); (try clear hcz31_0); (try clear hcz31_1); (try clear hcz31_2); (try clear hcz31_3); (try clear hcz31_4); (try clear hcz38_0); (try clear hcz38_1); (try clear hcz38_2); (try clear hcz38_3); (try clear hcz38_4); (try clear hcz40_0); (try clear hcz40_1); (try clear hcz40_2); (try clear hcz40_3); (try clear hcz40_4); (try clear hcz56_0); (try clear hcz56_1); (try clear hcz56_2); (try clear hcz56_3); (try clear hcz56_4); (try clear hcz63_0); (try clear hcz63_1); (try clear hcz63_2); (try clear hcz63_3); (try clear hcz63_4); (try clear hcz66_0); (try clear hcz66_1); (try clear hcz66_2); (try clear hcz66_3); (try clear hcz66_4); (try clear hcz76_0); (try clear hcz76_1); (try clear hcz76_2); (try clear hcz76_3); (try clear hcz76_4); (try clear hcz78_0); (try clear hcz78_1); (try clear hcz78_2); (try clear hcz78_3); (try clear hcz78_4); (try clear hcz9_0); (try clear hcz9_1); (try clear hcz9_2); (try clear hcz9_3); (try clear hcz9_4); (try clear hfz18_0); (try clear hfz18_1); (try clear hfz18_2); (try clear hfz18_3); (try clear hfz18_4); (try clear hfz24_0); (try clear hfz24_1); (try clear hfz24_2); (try clear hfz24_3); (try clear hfz24_4); (try clear hfz26_0); (try clear hfz26_1); (try clear hfz26_2); (try clear hfz26_3); (try clear hfz26_4); (try clear hfz31_0); (try clear hfz31_1); (try clear hfz31_2); (try clear hfz31_3); (try clear hfz31_4); (try clear hfz38_0); (try clear hfz38_1); (try clear hfz38_2); (try clear hfz38_3); (try clear hfz38_4); (try clear hfz40_0); (try clear hfz40_1); (try clear hfz40_2); (try clear hfz40_3); (try clear hfz40_4); (try clear hfz56_0); (try clear hfz56_1); (try clear hfz56_2); (try clear hfz56_3); (try clear hfz56_4); (try clear hfz63_0); (try clear hfz63_1); (try clear hfz63_2); (try clear hfz63_3); (try clear hfz63_4); (try clear hfz66_0); (try clear hfz66_1); (try clear hfz66_2); (try clear hfz66_3); (try clear hfz66_4); (try clear hfz76_0); (try clear hfz76_1); (try clear hfz76_2); (try clear hfz76_3); (try clear hfz76_4); (try clear hfz78_0); (try clear hfz78_1); (try clear hfz78_2); (try clear hfz78_3); (try clear hfz78_4); (try clear hfz9_0); (try clear hfz9_1); (try clear hfz9_2); (try clear hfz9_3); (try clear hfz9_4); (try clear p2)
              obtain ⟨kq, HA, HJ80, HO_1139004, HO_1147004, HO_1155004, BK1122, BK1138, BK1146, BK1154, HB⟩ := hcut
              cases kq with
              | zero => exact absurd HA.out (by simp [laws_FnExactMakerPut.j6])
              | succ kj80 =>
               have H := HA.out
               clear HA
               simp only [laws_FnExactMakerPut.j6] at H
               replace H := Option.bind_eq_some_iff.mp H
               obtain ⟨⟨t1170, t1171, t1172, t1173, t1174⟩, A830, H⟩ := H
               replace H : ((impl_MakerPut.f kj80 t1170 t1171 t1172 t1173 t1174 a1 a2 a3 a4).bind fun bt1177 => ((laws_eqMaker.f kj80 bt1177.1 bt1177.2.1 bt1177.2.2.1 bt1177.2.2.2.1 bt1177.2.2.2.2 t1131 t1132 t1133 t1134 t1135).bind fun t1185 => (if t1185 = true then (laws_FnExactMakerPut.j7 kj80 t1167 t1147 t1148 t1149 t1150 t1168) else (some false)))) = some r := H
               have A83 := Aside0.mk A830
               clear A830
               replace H := Option.bind_eq_some_iff.mp H
               obtain ⟨⟨t1177, t1178, t1179, t1180, t1181⟩, A840, H⟩ := H
               replace H : ((laws_eqMaker.f kj80 t1177 t1178 t1179 t1180 t1181 t1131 t1132 t1133 t1134 t1135).bind fun t1185 => (if t1185 = true then (laws_FnExactMakerPut.j7 kj80 t1167 t1147 t1148 t1149 t1150 t1168) else (some false))) = some r := H
               have A84 := Aside0.mk A840
               clear A840
               replace H := Option.bind_eq_some_iff.mp H
               obtain ⟨t1185, A850, H⟩ := H
               replace H : (if t1185 = true then (laws_FnExactMakerPut.j7 kj80 t1167 t1147 t1148 t1149 t1150 t1168) else (some false)) = some r := H
               have A85 := Aside0.mk A850
               clear A850
               have HC86 := Aside0.mk H
               clear H
               have hnb87 := NB1122_1138.out
               have hnc87 := NB1138_1122.out
               have hnb88 := NB1122_1146.out
               have hnc88 := NB1146_1122.out
               have hnb89 := NB1122_1154.out
               have hnc89 := NB1154_1122.out
               have hcz90_0 : wc.cell? ⟨gb1122, 0, none⟩ = some (.int .i64 a0_0) := (blk_cell BK1122.out 0).trans rfl
               have hcz90_1 : wc.cell? ⟨gb1122, 1, none⟩ = some (.int .i64 a0_1) := (blk_cell BK1122.out 1).trans rfl
               have hcz90_2 : wc.cell? ⟨gb1122, 2, none⟩ = some (.int .i64 a0_2) := (blk_cell BK1122.out 2).trans rfl
               have hcz90_3 : wc.cell? ⟨gb1122, 3, none⟩ = some (.int .i64 a0_3) := (blk_cell BK1122.out 3).trans rfl
               have hcz90_4 : wc.cell? ⟨gb1122, 4, none⟩ = some (.slice A0_4 l0_4.length c0_4) := (blk_cell BK1122.out 4).trans rfl
               have hfz90_0 := blk_frozen BK1122.out 0
               have hfz90_1 := blk_frozen BK1122.out 1
               have hfz90_2 := blk_frozen BK1122.out 2
               have hfz90_3 := blk_frozen BK1122.out 3
               have hfz90_4 := blk_frozen BK1122.out 4
               go_upto_if 80 with (first | ((with_reducible refine gate_callee (f := 28) rfl ?_); refine goesL_ (some 71) rfl rfl Try.func28 (by kernel_rfl) rfl #[.agg #[.int .i64 a0_0, .int .i64 a0_1, .int .i64 a0_2, .int .i64 a0_3, .slice A0_4 l0_4.length c0_4]] rfl sm_ ?_; (with_reducible refine (laws_toMaker.calls kj80 a0_0 a0_1 a0_2 a0_3 _ _ l0_4 t1170 t1171 t1172 t1173 t1174 _ ?side1 ?side2 A83.out).mono ?_); (case side1 => repeat (first | exact (Kd.C_below HR0_4.out HB.out) | (with_reducible refine Kd.C_alloc ?_ _) | (with_reducible refine Kd.C_drewN ?_ _) | (with_reducible refine Kd.C_drew ?_))); (case side2 => exact HC0_4.out); rintro e w91 ⟨v1175, rfl, ho0, hb⟩; refine ⟨_, rfl, ?_⟩; have n0_ := Aside0.mk (Kd.R_elder' (rq_ HO_1139004.out) (Kd.R_base ho0) hb); have n1_ := Aside0.mk (Kd.R_elder' (rq_ HO_1147004.out) (Kd.R_base ho0) hb); have n2_ := Aside0.mk (Kd.R_elder' (rq_ HO_1155004.out) (Kd.R_base ho0) hb); have n3_ := Aside0.mk (Kd.R_lower (Kd.R_new' (Kd.R_new' (Kd.R_new' ho0 (Kd.R_lt (rq_ HO_1139004.out))) (Kd.R_lt (rq_ HO_1147004.out))) (Kd.R_lt (rq_ HO_1155004.out))) (below_size (hb_ HB.out))); have n4_ := Aside0.mk (bb_ BK1122.out hb); have n5_ := Aside0.mk (bb_ BK1138.out hb); have n6_ := Aside0.mk (bb_ BK1146.out hb); have n7_ := Aside0.mk (bb_ BK1154.out hb); have n8_ := Aside0.mk (below_step (hb_ HB.out) hb); clear HO_1139004; clear HO_1147004; clear HO_1155004; clear BK1122; clear BK1138; clear BK1146; clear BK1154; clear HB; have HO_1139004 := n0_; have HO_1147004 := n1_; have HO_1155004 := n2_; have HO1176 := n3_; have BK1122 := n4_; have BK1138 := n5_; have BK1146 := n6_; have BK1154 := n7_; have HB := n8_; clear n0_ n1_ n2_ n3_ n4_ n5_ n6_ n7_ n8_; (try clear hb); (try clear hb2); (try clear hk); (try clear hi); (try clear ho0); obtain ⟨Ao92, co92, eo92⟩ := Kd.R_slice HO1176.out; subst eo92) | ((with_reducible refine gate_callee (f := 61) rfl ?_); refine goesL_ (some 76) rfl rfl Try.func61 (by kernel_rfl) rfl #[.agg #[.int .i64 t1170, .int .i64 t1171, .int .i64 t1172, .int .i64 t1173, .slice Ao92 t1174.length co92], .int .i64 a1, .int .i64 a2, .int .i64 a3, .int .i64 a4] rfl sm_ ?_; (with_reducible refine (impl_MakerPut.calls kj80 t1170 t1171 t1172 t1173 _ _ t1174 a1 a2 a3 a4 t1177 t1178 t1179 t1180 t1181 _ ?side1 ?side2 A84.out).mono ?_); (case side1 => repeat (first | exact (Kd.R_reads' HO1176.out).2.2 | (with_reducible refine Kd.C_alloc ?_ _) | (with_reducible refine Kd.C_drewN ?_ _) | (with_reducible refine Kd.C_drew ?_))); (case side2 => exact (Kd.R_reads' HO1176.out).2.1); rintro e w93 ⟨v1182, rfl, ho0, hb⟩; refine ⟨_, rfl, ?_⟩; have n0_ := Aside0.mk (Kd.R_elder' (rq_ HO_1139004.out) (Kd.R_base ho0) hb); have n1_ := Aside0.mk (Kd.R_elder' (rq_ HO_1147004.out) (Kd.R_base ho0) hb); have n2_ := Aside0.mk (Kd.R_elder' (rq_ HO_1155004.out) (Kd.R_base ho0) hb); have n3_ := Aside0.mk (Kd.R_elder' (rq_ HO1176.out) (Kd.R_base ho0) hb); have n4_ := Aside0.mk (Kd.R_lower (Kd.R_new' (Kd.R_new' (Kd.R_new' (Kd.R_new' ho0 (Kd.R_lt (rq_ HO_1139004.out))) (Kd.R_lt (rq_ HO_1147004.out))) (Kd.R_lt (rq_ HO_1155004.out))) (Kd.R_lt (rq_ HO1176.out))) (below_size (hb_ HB.out))); have n5_ := Aside0.mk (bb_ BK1122.out hb); have n6_ := Aside0.mk (bb_ BK1138.out hb); have n7_ := Aside0.mk (bb_ BK1146.out hb); have n8_ := Aside0.mk (bb_ BK1154.out hb); have n9_ := Aside0.mk (below_step (hb_ HB.out) hb); clear HO_1139004; clear HO_1147004; clear HO_1155004; clear HO1176; clear BK1122; clear BK1138; clear BK1146; clear BK1154; clear HB; have HO_1139004 := n0_; have HO_1147004 := n1_; have HO_1155004 := n2_; have HO1176 := n3_; have HO1183 := n4_; have BK1122 := n5_; have BK1138 := n6_; have BK1146 := n7_; have BK1154 := n8_; have HB := n9_; clear n0_ n1_ n2_ n3_ n4_ n5_ n6_ n7_ n8_ n9_; (try clear hb); (try clear hb2); (try clear hk); (try clear hi); (try clear ho0)) | ((with_reducible refine gate_dst (N := 18) rfl ?_); refine box_event ?hg (N := 18) ?hd (cs := #[.int .i64 0, .int .i64 0, .int .i64 0, .int .i64 0, .slice none 0 0]) (t := 54) ?hr ?_; (case hd => rfl); (case hg => rfl); (case hr => first | (go_simp; done) | (go_simp; rfl)); intro gb1184 hg w94 hbox hb; have n0_ := Aside0.mk (Kd.R_below (rq_ HO_1139004.out) hb); have n1_ := Aside0.mk (Kd.R_below (rq_ HO_1147004.out) hb); have n2_ := Aside0.mk (Kd.R_below (rq_ HO_1155004.out) hb); have n3_ := Aside0.mk (Kd.R_below (rq_ HO1176.out) hb); have n4_ := Aside0.mk (Kd.R_below (rq_ HO1183.out) hb); have n5_ := Aside0.mk (bb_ BK1122.out hb); have n6_ := Aside0.mk (bb_ BK1138.out hb); have n7_ := Aside0.mk (bb_ BK1146.out hb); have n8_ := Aside0.mk (bb_ BK1154.out hb); have n9_ := Aside0.mk (below_step (hb_ HB.out) hb); have n10_ := Aside0.mk (hbox); have n11_ := Aside0.mk ((by rw [hg]; exact (below_size (hb_ HB.out)) : w.heap.size ≤ gb1184)); have n12_ := Aside0.mk ((by rw [hg]; exact (below_size (hb_ HB.out)) : w.heap.size ≤ gb1184)); have n13_ := Aside0.mk ((nl_ BK1122.out hg : gb1122 ≠ gb1184)); have n14_ := Aside0.mk ((ng_ BK1122.out hg : gb1184 ≠ gb1122)); have n15_ := Aside0.mk ((nl_ BK1138.out hg : gb1138 ≠ gb1184)); have n16_ := Aside0.mk ((ng_ BK1138.out hg : gb1184 ≠ gb1138)); have n17_ := Aside0.mk ((nl_ BK1146.out hg : gb1146 ≠ gb1184)); have n18_ := Aside0.mk ((ng_ BK1146.out hg : gb1184 ≠ gb1146)); have n19_ := Aside0.mk ((nl_ BK1154.out hg : gb1154 ≠ gb1184)); have n20_ := Aside0.mk ((ng_ BK1154.out hg : gb1184 ≠ gb1154)); clear HO_1139004; clear HO_1147004; clear HO_1155004; clear HO1176; clear HO1183; clear BK1122; clear BK1138; clear BK1146; clear BK1154; clear HB; have HO_1139004 := n0_; have HO_1147004 := n1_; have HO_1155004 := n2_; have HO1176 := n3_; have HO1183 := n4_; have BK1122 := n5_; have BK1138 := n6_; have BK1146 := n7_; have BK1154 := n8_; have HB := n9_; have BK1184 := n10_; have GW1184 := n11_; have GE1184 := n12_; have NB1122_1184 := n13_; have NB1184_1122 := n14_; have NB1138_1184 := n15_; have NB1184_1138 := n16_; have NB1146_1184 := n17_; have NB1184_1146 := n18_; have NB1154_1184 := n19_; have NB1184_1154 := n20_; clear n0_ n1_ n2_ n3_ n4_ n5_ n6_ n7_ n8_ n9_ n10_ n11_ n12_ n13_ n14_ n15_ n16_ n17_ n18_ n19_ n20_; clear hb hbox hg; have hnb95 := NB1184_1122.out; have hnc95 := NB1122_1184.out; have hnb96 := NB1184_1138.out; have hnc96 := NB1138_1184.out; have hnb97 := NB1184_1146.out; have hnc97 := NB1146_1184.out; have hnb98 := NB1184_1154.out; have hnc98 := NB1154_1184.out; have hcz99_0 : w94.cell? ⟨gb1184, 0, none⟩ = some (.int .i64 0) := (blk_cell BK1184.out 0).trans rfl; have hcz99_1 : w94.cell? ⟨gb1184, 1, none⟩ = some (.int .i64 0) := (blk_cell BK1184.out 1).trans rfl; have hcz99_2 : w94.cell? ⟨gb1184, 2, none⟩ = some (.int .i64 0) := (blk_cell BK1184.out 2).trans rfl; have hcz99_3 : w94.cell? ⟨gb1184, 3, none⟩ = some (.int .i64 0) := (blk_cell BK1184.out 3).trans rfl; have hcz99_4 : w94.cell? ⟨gb1184, 4, none⟩ = some (.slice none 0 0) := (blk_cell BK1184.out 4).trans rfl; have hfz99_0 := blk_frozen BK1184.out 0; have hfz99_1 := blk_frozen BK1184.out 1; have hfz99_2 := blk_frozen BK1184.out 2; have hfz99_3 := blk_frozen BK1184.out 3; have hfz99_4 := blk_frozen BK1184.out 4; obtain ⟨Ao100, co100, eo100⟩ := Kd.R_slice HO1183.out; subst eo100; have hnb101 := NB1138_1146.out; have hnc101 := NB1146_1138.out; have hnb102 := NB1138_1154.out; have hnc102 := NB1154_1138.out; have hcz103_0 : w94.cell? ⟨gb1138, 0, none⟩ = some (.int .i64 t1131) := (blk_cell BK1138.out 0).trans rfl; have hcz103_1 : w94.cell? ⟨gb1138, 1, none⟩ = some (.int .i64 t1132) := (blk_cell BK1138.out 1).trans rfl; have hcz103_2 : w94.cell? ⟨gb1138, 2, none⟩ = some (.int .i64 t1133) := (blk_cell BK1138.out 2).trans rfl; have hcz103_3 : w94.cell? ⟨gb1138, 3, none⟩ = some (.int .i64 t1134) := (blk_cell BK1138.out 3).trans rfl; have hcz103_4 : w94.cell? ⟨gb1138, 4, none⟩ = some (.slice Ao25 t1135.length co25) := (blk_cell BK1138.out 4).trans rfl; have hfz103_0 := blk_frozen BK1138.out 0; have hfz103_1 := blk_frozen BK1138.out 1; have hfz103_2 := blk_frozen BK1138.out 2; have hfz103_3 := blk_frozen BK1138.out 3; have hfz103_4 := blk_frozen BK1138.out 4) | ((with_reducible refine gate_callee (f := 30) rfl ?_); refine goesL_ (some 79) rfl rfl Try.func30 (by kernel_rfl) rfl #[.agg #[.int .i64 t1177, .int .i64 t1178, .int .i64 t1179, .int .i64 t1180, .slice Ao100 t1181.length co100], .agg #[.int .i64 t1131, .int .i64 t1132, .int .i64 t1133, .int .i64 t1134, .slice Ao25 t1135.length co25]] rfl sm_ ?_; (with_reducible refine (laws_eqMaker.calls kj80 t1177 t1178 t1179 t1180 _ _ t1181 t1131 t1132 t1133 t1134 _ _ t1135 t1185 _ ?side1 ?side2 ?side3 ?side4 A85.out).mono ?_); (case side1 => refine (Kd.R_reads' (e := 118) (base := w.heap.size) (ok := fun k_ => ((((True ∧ some k_ ≠ (.slice Ao25 t1135.length co25 : Value).ownBlock) ∧ some k_ ≠ (.slice Ao32 t1165.length co32 : Value).ownBlock) ∧ some k_ ≠ (.slice Ao39 t1168.length co39 : Value).ownBlock) ∧ some k_ ≠ (.slice Ao92 t1174.length co92 : Value).ownBlock)) (n := t1181.length) (c := co100) ?_).2.2; exact (rk_ HO1183.out BK1184.out)); (case side2 => exact (Kd.R_reads' HO1183.out).2.1); (case side3 => refine (Kd.R_reads' (e := 118) (base := w.heap.size) (ok := fun k_ => (((some k_ ≠ (.slice Ao32 t1165.length co32 : Value).ownBlock ∧ some k_ ≠ (.slice Ao39 t1168.length co39 : Value).ownBlock) ∧ some k_ ≠ (.slice Ao92 t1174.length co92 : Value).ownBlock) ∧ some k_ ≠ (.slice Ao100 t1181.length co100 : Value).ownBlock)) (n := t1135.length) (c := co25) ?_).2.2; exact (rk_ HO_1139004.out BK1184.out)); (case side4 => exact (Kd.R_reads' HO_1139004.out).2.1); rintro e w104 ⟨rfl, hb⟩; refine ⟨_, rfl, ?_⟩; have n0_ := Aside0.mk (Kd.R_below (rk_ HO_1139004.out BK1184.out) hb); have n1_ := Aside0.mk (Kd.R_below (rk_ HO_1147004.out BK1184.out) hb); have n2_ := Aside0.mk (Kd.R_below (rk_ HO_1155004.out BK1184.out) hb); have n3_ := Aside0.mk (Kd.R_below (rk_ HO1176.out BK1184.out) hb); have n4_ := Aside0.mk (Kd.R_below (rk_ HO1183.out BK1184.out) hb); have n5_ := Aside0.mk (blk_below (g := gb1122) (o := .cells #[.int .i64 a0_0, .int .i64 a0_1, .int .i64 a0_2, .int .i64 a0_3, .slice A0_4 l0_4.length c0_4] 48 (0, 0)) (bf_ NB1122_1184.out BK1122.out) hb); have n6_ := Aside0.mk (blk_below (g := gb1138) (o := .cells #[.int .i64 t1131, .int .i64 t1132, .int .i64 t1133, .int .i64 t1134, .slice Ao25 t1135.length co25] 54 (0, 0)) (bf_ NB1138_1184.out BK1138.out) hb); have n7_ := Aside0.mk (blk_below (g := gb1146) (o := .cells #[.int .i64 t1139, .int .i64 t1140, .int .i64 t1141, .int .i64 t1142, .slice Ao32 t1165.length co32] 54 (0, 0)) (bf_ NB1146_1184.out BK1146.out) hb); have n8_ := Aside0.mk (blk_below (g := gb1154) (o := .cells #[.int .i64 t1147, .int .i64 t1148, .int .i64 t1149, .int .i64 t1150, .slice Ao39 t1168.length co39] 54 (0, 0)) (bf_ NB1154_1184.out BK1154.out) hb); have n9_ := Aside0.mk (blk_below (g := gb1184) (o := .cells #[.int .i64 t1177, .int .i64 t1178, .int .i64 t1179, .int .i64 t1180, .slice Ao100 t1181.length co100] 54 (0, 0)) (bp_ BK1184.out) hb); have n10_ := Aside0.mk (below_step (hb_ HB.out) hb); clear HO_1139004; clear HO_1147004; clear HO_1155004; clear HO1176; clear HO1183; clear BK1122; clear BK1138; clear BK1146; clear BK1154; clear BK1184; clear HB; have HO_1139004 := n0_; have HO_1147004 := n1_; have HO_1155004 := n2_; have HO1176 := n3_; have HO1183 := n4_; have BK1122 := n5_; have BK1138 := n6_; have BK1146 := n7_; have BK1154 := n8_; have BK1184 := n9_; have HB := n10_; clear n0_ n1_ n2_ n3_ n4_ n5_ n6_ n7_ n8_ n9_ n10_; (try clear hb); (try clear hb2); (try clear hk); (try clear hi)))
               (try simp only [Act.put, List.setIfInBounds_toArray, List.set_cons_zero, List.set_cons_succ])
               go_cut [] (fun wc => ∃ (kq : Nat), Aside0 (laws_FnExactMakerPut.j7 kq t1167 t1147 t1148 t1149 t1150 t1168 = some r) ∧ Aside0 (kq ≤ kj80) ∧ Aside0 (Kd.R k_Mark 118 wc w.heap.size (fun k_ => some k_ ≠ ((.slice Ao32 t1165.length co32) : Value).ownBlock ∧ some k_ ≠ ((.slice Ao39 t1168.length co39) : Value).ownBlock ∧ some k_ ≠ ((.slice Ao100 t1181.length co100) : Value).ownBlock) (.slice Ao25 t1135.length co25) t1135) ∧ Aside0 (Kd.R k_Mark 118 wc w.heap.size (fun k_ => some k_ ≠ ((.slice Ao25 t1135.length co25) : Value).ownBlock ∧ some k_ ≠ ((.slice Ao39 t1168.length co39) : Value).ownBlock ∧ some k_ ≠ ((.slice Ao100 t1181.length co100) : Value).ownBlock) (.slice Ao32 t1165.length co32) t1165) ∧ Aside0 (Kd.R k_Mark 118 wc w.heap.size (fun k_ => some k_ ≠ ((.slice Ao25 t1135.length co25) : Value).ownBlock ∧ some k_ ≠ ((.slice Ao32 t1165.length co32) : Value).ownBlock ∧ some k_ ≠ ((.slice Ao100 t1181.length co100) : Value).ownBlock) (.slice Ao39 t1168.length co39) t1168) ∧ Aside0 (Kd.R k_Mark 118 wc w.heap.size (fun k_ => some k_ ≠ ((.slice Ao25 t1135.length co25) : Value).ownBlock ∧ some k_ ≠ ((.slice Ao32 t1165.length co32) : Value).ownBlock ∧ some k_ ≠ ((.slice Ao39 t1168.length co39) : Value).ownBlock) (.slice Ao100 t1181.length co100) t1181) ∧ Aside0 (wc.heap[gb1122]? = some (.cells #[.int .i64 a0_0, .int .i64 a0_1, .int .i64 a0_2, .int .i64 a0_3, (.slice A0_4 l0_4.length c0_4)] 48 (0, 0))) ∧ Aside0 (wc.heap[gb1138]? = some (.cells #[.int .i64 t1131, .int .i64 t1132, .int .i64 t1133, .int .i64 t1134, (.slice Ao25 t1135.length co25)] 54 (0, 0))) ∧ Aside0 (wc.heap[gb1146]? = some (.cells #[.int .i64 t1139, .int .i64 t1140, .int .i64 t1141, .int .i64 t1142, (.slice Ao32 t1165.length co32)] 54 (0, 0))) ∧ Aside0 (wc.heap[gb1154]? = some (.cells #[.int .i64 t1147, .int .i64 t1148, .int .i64 t1149, .int .i64 t1150, (.slice Ao39 t1168.length co39)] 54 (0, 0))) ∧ Aside0 (wc.heap[gb1184]? = some (.cells #[.int .i64 t1177, .int .i64 t1178, .int .i64 t1179, .int .i64 t1180, (.slice Ao100 t1181.length co100)] 54 (0, 0))) ∧ Aside0 (Below w.heap.size w wc))
               case first =>
                have H := HC86.out
                clear HC86
                by_cases c105 : t1185 = true
                ·
                 subst c105
                 have H1 : (laws_FnExactMakerPut.j7 kj80 t1167 t1147 t1148 t1149 t1150 t1168) = some r := by rw [if_pos rfl] at H; exact H
                 clear H
                 have H := H1
                 clear H1
                 have H' := Aside0.mk H
                 clear H
                 go_wp2
                 go_meet
                 case rel => exact ⟨_, H', ⟨by have := HJ6.out; have := HJ16.out; have := HJ44.out; have := HJ51.out; have := HJ67.out; have := HJ71.out; have := HJ80.out; first | omega | exact Nat.le_refl _⟩, ⟨by (try simp only [hl1147004_51]); (try simp only [hl1155004_71]); (with_reducible repeat (first | apply Kd.R_alloc | apply Kd.R_drewN | apply Kd.R_drew)); exact Kd.R_mono HO_1139004.out (fun _ hk => ⟨hk.1.1.1, ⟨hk.1.1.2, hk.2⟩⟩)⟩, ⟨by (try simp only [hl1147004_51]); (try simp only [hl1155004_71]); (with_reducible repeat (first | apply Kd.R_alloc | apply Kd.R_drewN | apply Kd.R_drew)); exact Kd.R_mono HO_1147004.out (fun _ hk => ⟨hk.1.1.1, ⟨hk.1.1.2, hk.2⟩⟩)⟩, ⟨by (try simp only [hl1147004_51]); (try simp only [hl1155004_71]); (with_reducible repeat (first | apply Kd.R_alloc | apply Kd.R_drewN | apply Kd.R_drew)); exact Kd.R_mono HO_1155004.out (fun _ hk => ⟨hk.1.1.1, ⟨hk.1.1.2, hk.2⟩⟩)⟩, ⟨by (try simp only [hl1147004_51]); (try simp only [hl1155004_71]); (with_reducible repeat (first | apply Kd.R_alloc | apply Kd.R_drewN | apply Kd.R_drew)); exact Kd.R_mono HO1183.out (fun _ hk => ⟨hk.1.1.1.2, ⟨hk.1.1.2, hk.1.2⟩⟩)⟩, ⟨by (try simp only [hl1147004_51]); (try simp only [hl1155004_71]); (with_reducible repeat (first | refine blk_drewN ?_ _ | refine blk_drew ?_ | refine blk_alloc ?_ _)); exact BK1122.out⟩, ⟨by (try simp only [hl1147004_51]); (try simp only [hl1155004_71]); (with_reducible repeat (first | refine blk_drewN ?_ _ | refine blk_drew ?_ | refine blk_alloc ?_ _)); exact BK1138.out⟩, ⟨by (try simp only [hl1147004_51]); (try simp only [hl1155004_71]); (with_reducible repeat (first | refine blk_drewN ?_ _ | refine blk_drew ?_ | refine blk_alloc ?_ _)); exact BK1146.out⟩, ⟨by (try simp only [hl1147004_51]); (try simp only [hl1155004_71]); (with_reducible repeat (first | refine blk_drewN ?_ _ | refine blk_drew ?_ | refine blk_alloc ?_ _)); exact BK1154.out⟩, ⟨by (try simp only [hl1147004_51]); (try simp only [hl1155004_71]); (with_reducible repeat (first | refine blk_drewN ?_ _ | refine blk_drew ?_ | refine blk_alloc ?_ _)); exact BK1184.out⟩, ⟨hb_ HB.out⟩⟩
                ·
                 replace c105 := Bool.eq_false_iff.mpr c105
                 subst c105
                 have H1 : (some false) = some r := by rw [if_neg (show ¬ (false = true) by decide)] at H; exact H
                 clear H
                 have H := H1
                 clear H1
                 obtain rfl := Option.some.inj H
                 go_wp2
                 go_ret
                 exact ⟨er_, hb_ HB.out⟩
               case rest =>
                clear HC86
                (try clear c1); (try clear c2); (try clear p2); (try clear c3); (try clear c4); (try clear c5); (try clear c6); (try clear c7); (try clear c8); (try clear c9); (try clear c10); (try clear c11); (try clear c11b0); (try clear c13); (try clear c23); (try clear c26); (try clear c28); (try clear c29); (try clear c30); (try clear c35); (try clear c36); (try clear c37); (try clear c42); (try clear c50); (try clear c53); (try clear c54); (try clear c55); (try clear c58); (try clear c58b0); (try clear c60); (try clear c61); (try clear c62); (try clear c64); (try clear c65); (try clear c69); (try clear c70); (try clear c73); (try clear c74); (try clear c75); (try clear c80); (try clear c80b0); (try clear c82); (try clear c82b0); (try clear c82b1); (try clear c87); (try clear c88); (try clear c89); (try clear c95); (try clear c96); (try clear c97); (try clear c98); (try clear c101); (try clear c102); (try clear c105); (try clear hcz103_0); (try clear hcz103_1); (try clear hcz103_2); (try clear hcz103_3); (try clear hcz103_4); (try clear hcz18_0); (try clear hcz18_1); (try clear hcz18_2); (try clear hcz18_3); (try clear hcz18_4); (try clear hcz24_0); (try clear hcz24_1); (try clear hcz24_2); (try clear hcz24_3); (try clear hcz24_4); (try clear hcz26_0); (try clear hcz26_1); (try clear hcz26_2); (try clear hcz26_3); (try clear hcz26_4); (try clear hcz31_0); (try clear hcz31_1); (try clear hcz31_2); (try clear hcz31_3); (try clear hcz31_4); (try clear hcz38_0); (try clear hcz38_1); (try clear hcz38_2); (try clear hcz38_3); (try clear hcz38_4); (try clear hcz40_0); (try clear hcz40_1); (try clear hcz40_2); (try clear hcz40_3); (try clear hcz40_4); (try clear hcz56_0); (try clear hcz56_1); (try clear hcz56_2); (try clear hcz56_3); (try clear hcz56_4); (try clear hcz63_0); (try clear hcz63_1); (try clear hcz63_2); (try clear hcz63_3); (try clear hcz63_4); (try clear hcz66_0); (try clear hcz66_1); (try clear hcz66_2); (try clear hcz66_3); (try clear hcz66_4); (try clear hcz76_0); (try clear hcz76_1); (try clear hcz76_2); (try clear hcz76_3); (try clear hcz76_4); (try clear hcz78_0); (try clear hcz78_1); (try clear hcz78_2); (try clear hcz78_3); (try clear hcz78_4); (try clear hcz90_0); (try clear hcz90_1); (try clear hcz90_2); (try clear hcz90_3); (try clear hcz90_4); (try clear hcz99_0); (try clear hcz99_1); (try clear hcz99_2); (try clear hcz99_3); (try clear hcz99_4); (try clear hcz9_0); (try clear hcz9_1); (try clear hcz9_2); (try clear hcz9_3); (try clear hcz9_4); (try clear hfz103_0); (try clear hfz103_1); (try clear hfz103_2); (try clear hfz103_3); (try clear hfz103_4); (try clear hfz18_0); (try clear hfz18_1); (try clear hfz18_2); (try clear hfz18_3); (try clear hfz18_4); (try clear hfz24_0); (try clear hfz24_1); (try clear hfz24_2); (try clear hfz24_3); (try clear hfz24_4); (try clear hfz26_0); (try clear hfz26_1); (try clear hfz26_2); (try clear hfz26_3); (try clear hfz26_4); (try clear hfz31_0); (try clear hfz31_1); (try clear hfz31_2); (try clear hfz31_3); (try clear hfz31_4); (try clear hfz38_0); (try clear hfz38_1); (try clear hfz38_2); (try clear hfz38_3); (try clear hfz38_4); (try clear hfz40_0); (try clear hfz40_1); (try clear hfz40_2); (try clear hfz40_3); (try clear hfz40_4); (try clear hfz56_0); (try clear hfz56_1); (try clear hfz56_2); (try clear hfz56_3); (try clear hfz56_4); (try clear hfz63_0); (try clear hfz63_1); (try clear hfz63_2); (try clear hfz63_3); (try clear hfz63_4); (try clear hfz66_0); (try clear hfz66_1); (try clear hfz66_2); (try clear hfz66_3); (try clear hfz66_4); (try clear hfz76_0); (try clear hfz76_1); (try clear hfz76_2); (try clear hfz76_3); (try clear hfz76_4); (try clear hfz78_0); (try clear hfz78_1); (try clear hfz78_2); (try clear hfz78_3); (try clear hfz78_4); (try clear hfz90_0); (try clear hfz90_1); (try clear hfz90_2); (try clear hfz90_3); (try clear hfz90_4); (try clear hfz99_0); (try clear hfz99_1); (try clear hfz99_2); (try clear hfz99_3); (try clear hfz99_4); (try clear hfz9_0); (try clear hfz9_1); (try clear hfz9_2); (try clear hfz9_3); (try clear hfz9_4); (try clear p2)
                obtain ⟨kq, HA, HJ85, HO_1139004, HO_1147004, HO_1155004, HO_1185004, BK1122, BK1138, BK1146, BK1154, BK1184, HB⟩ := hcut
                cases kq with
                | zero => exact absurd HA.out (by simp [laws_FnExactMakerPut.j7])
                | succ kj85 =>
                 have H := HA.out
                 clear HA
                 simp only [laws_FnExactMakerPut.j7] at H
                 replace H := Option.bind_eq_some_iff.mp H
                 obtain ⟨t1186, A1060, H⟩ := H
                 replace H : (if t1186 < 0 then (some false) else (if t1186 = t1167 then (some true) else (some false))) = some r := H
                 have A106 := Aside0.mk A1060
                 clear A1060
                 by_cases c107 : t1186 < 0
                 ·
                  rw [if_pos c107] at H
                  have c107b0 : decide (t1186 < 0) = true := decide_eq_true c107
                  clear c107
                  obtain rfl := Option.some.inj H
                  have hnb108 := NB1154_1122.out
                  have hnc108 := NB1122_1154.out
                  have hnb109 := NB1154_1138.out
                  have hnc109 := NB1138_1154.out
                  have hnb110 := NB1154_1146.out
                  have hnc110 := NB1146_1154.out
                  have hnb111 := NB1154_1184.out
                  have hnc111 := NB1184_1154.out
                  have hcz112_0 : wc.cell? ⟨gb1154, 0, none⟩ = some (.int .i64 t1147) := (blk_cell BK1154.out 0).trans rfl
                  have hcz112_1 : wc.cell? ⟨gb1154, 1, none⟩ = some (.int .i64 t1148) := (blk_cell BK1154.out 1).trans rfl
                  have hcz112_2 : wc.cell? ⟨gb1154, 2, none⟩ = some (.int .i64 t1149) := (blk_cell BK1154.out 2).trans rfl
                  have hcz112_3 : wc.cell? ⟨gb1154, 3, none⟩ = some (.int .i64 t1150) := (blk_cell BK1154.out 3).trans rfl
                  have hcz112_4 : wc.cell? ⟨gb1154, 4, none⟩ = some (.slice Ao39 t1168.length co39) := (blk_cell BK1154.out 4).trans rfl
                  have hfz112_0 := blk_frozen BK1154.out 0
                  have hfz112_1 := blk_frozen BK1154.out 1
                  have hfz112_2 := blk_frozen BK1154.out 2
                  have hfz112_3 := blk_frozen BK1154.out 3
                  have hfz112_4 := blk_frozen BK1154.out 4
                  go_wp2_with (first | ((with_reducible refine gate_callee (f := 70) rfl ?_); refine goesL_ (some 83) rfl rfl Try.func70 (by kernel_rfl) rfl #[.agg #[.int .i64 t1147, .int .i64 t1148, .int .i64 t1149, .int .i64 t1150, .slice Ao39 t1168.length co39], .int .i64 1] rfl sm_ ?_; (with_reducible refine (laws_heldMaker.calls kj85 t1147 t1148 t1149 t1150 _ _ t1168 1 t1186 _ ?side1 ?side2 A106.out).mono ?_); (case side1 => repeat (first | exact (Kd.R_reads' HO_1155004.out).2.2 | (with_reducible refine Kd.C_alloc ?_ _) | (with_reducible refine Kd.C_drewN ?_ _) | (with_reducible refine Kd.C_drew ?_))); (case side2 => exact (Kd.R_reads' HO_1155004.out).2.1); rintro e w113 ⟨rfl, hb⟩; refine ⟨_, rfl, ?_⟩; have n0_ := Aside0.mk (Kd.R_below (rq_ HO_1139004.out) hb); have n1_ := Aside0.mk (Kd.R_below (rq_ HO_1147004.out) hb); have n2_ := Aside0.mk (Kd.R_below (rq_ HO_1155004.out) hb); have n3_ := Aside0.mk (Kd.R_below (rq_ HO_1185004.out) hb); have n4_ := Aside0.mk (bb_ BK1122.out hb); have n5_ := Aside0.mk (bb_ BK1138.out hb); have n6_ := Aside0.mk (bb_ BK1146.out hb); have n7_ := Aside0.mk (bb_ BK1154.out hb); have n8_ := Aside0.mk (bb_ BK1184.out hb); have n9_ := Aside0.mk (below_step (hb_ HB.out) hb); clear HO_1139004; clear HO_1147004; clear HO_1155004; clear HO_1185004; clear BK1122; clear BK1138; clear BK1146; clear BK1154; clear BK1184; clear HB; have HO_1139004 := n0_; have HO_1147004 := n1_; have HO_1155004 := n2_; have HO_1185004 := n3_; have BK1122 := n4_; have BK1138 := n5_; have BK1146 := n6_; have BK1154 := n7_; have BK1184 := n8_; have HB := n9_; clear n0_ n1_ n2_ n3_ n4_ n5_ n6_ n7_ n8_ n9_; (try clear hb); (try clear hb2); (try clear hk); (try clear hi)))
                  go_ret
                  exact ⟨er_, hb_ HB.out⟩
                 ·
                  rw [if_neg c107] at H
                  have c107b0 : decide (t1186 < 0) = false := decide_eq_false c107
                  clear c107
                  by_cases c114 : t1186 = t1167
                  ·
                   rw [if_pos c114] at H
                   have c114b0 : (t1186 == t1167) = true := beq_iff_eq.mpr c114
                   have c114b1 : (t1186 != t1167) = false := bne_eq_false_iff_eq.mpr c114
                   clear c114
                   obtain rfl := Option.some.inj H
                   have hnb115 := NB1154_1122.out
                   have hnc115 := NB1122_1154.out
                   have hnb116 := NB1154_1138.out
                   have hnc116 := NB1138_1154.out
                   have hnb117 := NB1154_1146.out
                   have hnc117 := NB1146_1154.out
                   have hnb118 := NB1154_1184.out
                   have hnc118 := NB1184_1154.out
                   have hcz119_0 : wc.cell? ⟨gb1154, 0, none⟩ = some (.int .i64 t1147) := (blk_cell BK1154.out 0).trans rfl
                   have hcz119_1 : wc.cell? ⟨gb1154, 1, none⟩ = some (.int .i64 t1148) := (blk_cell BK1154.out 1).trans rfl
                   have hcz119_2 : wc.cell? ⟨gb1154, 2, none⟩ = some (.int .i64 t1149) := (blk_cell BK1154.out 2).trans rfl
                   have hcz119_3 : wc.cell? ⟨gb1154, 3, none⟩ = some (.int .i64 t1150) := (blk_cell BK1154.out 3).trans rfl
                   have hcz119_4 : wc.cell? ⟨gb1154, 4, none⟩ = some (.slice Ao39 t1168.length co39) := (blk_cell BK1154.out 4).trans rfl
                   have hfz119_0 := blk_frozen BK1154.out 0
                   have hfz119_1 := blk_frozen BK1154.out 1
                   have hfz119_2 := blk_frozen BK1154.out 2
                   have hfz119_3 := blk_frozen BK1154.out 3
                   have hfz119_4 := blk_frozen BK1154.out 4
                   go_wp2_with (first | ((with_reducible refine gate_callee (f := 70) rfl ?_); refine goesL_ (some 83) rfl rfl Try.func70 (by kernel_rfl) rfl #[.agg #[.int .i64 t1147, .int .i64 t1148, .int .i64 t1149, .int .i64 t1150, .slice Ao39 t1168.length co39], .int .i64 1] rfl sm_ ?_; (with_reducible refine (laws_heldMaker.calls kj85 t1147 t1148 t1149 t1150 _ _ t1168 1 t1186 _ ?side1 ?side2 A106.out).mono ?_); (case side1 => repeat (first | exact (Kd.R_reads' HO_1155004.out).2.2 | (with_reducible refine Kd.C_alloc ?_ _) | (with_reducible refine Kd.C_drewN ?_ _) | (with_reducible refine Kd.C_drew ?_))); (case side2 => exact (Kd.R_reads' HO_1155004.out).2.1); rintro e w120 ⟨rfl, hb⟩; refine ⟨_, rfl, ?_⟩; have n0_ := Aside0.mk (Kd.R_below (rq_ HO_1139004.out) hb); have n1_ := Aside0.mk (Kd.R_below (rq_ HO_1147004.out) hb); have n2_ := Aside0.mk (Kd.R_below (rq_ HO_1155004.out) hb); have n3_ := Aside0.mk (Kd.R_below (rq_ HO_1185004.out) hb); have n4_ := Aside0.mk (bb_ BK1122.out hb); have n5_ := Aside0.mk (bb_ BK1138.out hb); have n6_ := Aside0.mk (bb_ BK1146.out hb); have n7_ := Aside0.mk (bb_ BK1154.out hb); have n8_ := Aside0.mk (bb_ BK1184.out hb); have n9_ := Aside0.mk (below_step (hb_ HB.out) hb); clear HO_1139004; clear HO_1147004; clear HO_1155004; clear HO_1185004; clear BK1122; clear BK1138; clear BK1146; clear BK1154; clear BK1184; clear HB; have HO_1139004 := n0_; have HO_1147004 := n1_; have HO_1155004 := n2_; have HO_1185004 := n3_; have BK1122 := n4_; have BK1138 := n5_; have BK1146 := n6_; have BK1154 := n7_; have BK1184 := n8_; have HB := n9_; clear n0_ n1_ n2_ n3_ n4_ n5_ n6_ n7_ n8_ n9_; (try clear hb); (try clear hb2); (try clear hk); (try clear hi)))
                   go_ret
                   exact ⟨er_, hb_ HB.out⟩
                  ·
                   rw [if_neg c114] at H
                   have c114b0 : (t1186 == t1167) = false := beq_eq_false_iff_ne.mpr c114
                   have c114b1 : (t1186 != t1167) = true := bne_iff_ne.mpr c114
                   obtain rfl := Option.some.inj H
                   have hnb121 := NB1154_1122.out
                   have hnc121 := NB1122_1154.out
                   have hnb122 := NB1154_1138.out
                   have hnc122 := NB1138_1154.out
                   have hnb123 := NB1154_1146.out
                   have hnc123 := NB1146_1154.out
                   have hnb124 := NB1154_1184.out
                   have hnc124 := NB1184_1154.out
                   have hcz125_0 : wc.cell? ⟨gb1154, 0, none⟩ = some (.int .i64 t1147) := (blk_cell BK1154.out 0).trans rfl
                   have hcz125_1 : wc.cell? ⟨gb1154, 1, none⟩ = some (.int .i64 t1148) := (blk_cell BK1154.out 1).trans rfl
                   have hcz125_2 : wc.cell? ⟨gb1154, 2, none⟩ = some (.int .i64 t1149) := (blk_cell BK1154.out 2).trans rfl
                   have hcz125_3 : wc.cell? ⟨gb1154, 3, none⟩ = some (.int .i64 t1150) := (blk_cell BK1154.out 3).trans rfl
                   have hcz125_4 : wc.cell? ⟨gb1154, 4, none⟩ = some (.slice Ao39 t1168.length co39) := (blk_cell BK1154.out 4).trans rfl
                   have hfz125_0 := blk_frozen BK1154.out 0
                   have hfz125_1 := blk_frozen BK1154.out 1
                   have hfz125_2 := blk_frozen BK1154.out 2
                   have hfz125_3 := blk_frozen BK1154.out 3
                   have hfz125_4 := blk_frozen BK1154.out 4
                   go_wp2_with (first | ((with_reducible refine gate_callee (f := 70) rfl ?_); refine goesL_ (some 83) rfl rfl Try.func70 (by kernel_rfl) rfl #[.agg #[.int .i64 t1147, .int .i64 t1148, .int .i64 t1149, .int .i64 t1150, .slice Ao39 t1168.length co39], .int .i64 1] rfl sm_ ?_; (with_reducible refine (laws_heldMaker.calls kj85 t1147 t1148 t1149 t1150 _ _ t1168 1 t1186 _ ?side1 ?side2 A106.out).mono ?_); (case side1 => repeat (first | exact (Kd.R_reads' HO_1155004.out).2.2 | (with_reducible refine Kd.C_alloc ?_ _) | (with_reducible refine Kd.C_drewN ?_ _) | (with_reducible refine Kd.C_drew ?_))); (case side2 => exact (Kd.R_reads' HO_1155004.out).2.1); rintro e w126 ⟨rfl, hb⟩; refine ⟨_, rfl, ?_⟩; have n0_ := Aside0.mk (Kd.R_below (rq_ HO_1139004.out) hb); have n1_ := Aside0.mk (Kd.R_below (rq_ HO_1147004.out) hb); have n2_ := Aside0.mk (Kd.R_below (rq_ HO_1155004.out) hb); have n3_ := Aside0.mk (Kd.R_below (rq_ HO_1185004.out) hb); have n4_ := Aside0.mk (bb_ BK1122.out hb); have n5_ := Aside0.mk (bb_ BK1138.out hb); have n6_ := Aside0.mk (bb_ BK1146.out hb); have n7_ := Aside0.mk (bb_ BK1154.out hb); have n8_ := Aside0.mk (bb_ BK1184.out hb); have n9_ := Aside0.mk (below_step (hb_ HB.out) hb); clear HO_1139004; clear HO_1147004; clear HO_1155004; clear HO_1185004; clear BK1122; clear BK1138; clear BK1146; clear BK1154; clear BK1184; clear HB; have HO_1139004 := n0_; have HO_1147004 := n1_; have HO_1155004 := n2_; have HO_1185004 := n3_; have BK1122 := n4_; have BK1138 := n5_; have BK1146 := n6_; have BK1154 := n7_; have BK1184 := n8_; have HB := n9_; clear n0_ n1_ n2_ n3_ n4_ n5_ n6_ n7_ n8_ n9_; (try clear hb); (try clear hb2); (try clear hk); (try clear hi)))
                   go_ret
                   exact ⟨er_, hb_ HB.out⟩
end Go.Proofs.Ytgkeapbeogmfjaa.Q
