/- Made by a program of ours out of the print of the loaded functions: for each of some functions a plain function, and the walk that shows that a call comes to what it says. No condition but those of each theorem. -/
import Derived.Test.YtgkeapbeogmfjaaZFnFenced0
import Derived.Test.YtgkeapbeogmfjaaZFnFenceda
import Derived.Test.YtgkeapbeogmfjaaZFnFencedb
import Derived.Test.YtgkeapbeogmfjaaZFnFencedc
namespace Go.Proofs.Ytgkeapbeogmfjaa.Q
open Go.RowKit Go.Proofs.YtgkeapbeogmfjaaW.PrintWords Go.Proofs.YtgkeapbeogmfjaaW.PrintLast Go.Proofs.YtgkeapbeogmfjaaW.PrintMore
attribute [local go_sem] max2_int min2_int max_two min_two max_three min_three max_four min_four   -- for this text's walks alone
set_option linter.unusedVariables false
set_option linter.unusedSimpArgs false

/-! ### spec_l4Draw: function 108 -/
def spec_l4Draw.f (k : Nat) (s0_0 : List Int) (s0_1 : Int) (s0_2 : Int) : Option (Int × Int × Int × Int × (List (S_Mark)) × Int × Int) := (spec_l4DrawRight.f k s0_0 s0_1 s0_2).bind fun bt1302 => ((spec_l1Below.f s0_0 bt1302.2.2.2.2.2.1 bt1302.2.2.2.2.2.2 12).bind fun bt1312 => (if bt1312.1 = 0 then ((spec_l1PickInt.f s0_0 bt1312.2.1 bt1312.2.2 (([(-2), (-1), 5, 100000, 9223372036854775807, (-9223372036854775808)] : List Int))).bind fun bt1318 => (some (bt1302.1, bt1302.2.1, bt1302.2.2.1, bt1318.1, bt1302.2.2.2.2.1, bt1318.2.1, bt1318.2.2))) else (if bt1312.1 = 1 then ((spec_l1PickInt.f s0_0 bt1312.2.1 bt1312.2.2 (([(-1), 0, 2] : List Int))).bind fun bt1324 => (some (bt1302.1, bt1302.2.1, bt1324.1, bt1302.2.2.2.1, bt1302.2.2.2.2.1, bt1324.2.1, bt1324.2.2))) else (if bt1312.1 = 2 then ((spec_l1Below.f s0_0 bt1312.2.1 bt1312.2.2 9).bind fun bt1327 => ((spec_l1Below.f s0_0 bt1327.2.1 bt1327.2.2 9).bind fun bt1330 => (if bt1302.2.2.2.2.1.length < 8796093022208 then (some (bt1302.1, bt1302.2.1, bt1302.2.2.1, bt1302.2.2.2.1, (bt1302.2.2.2.2.1 ++ [(⟨bt1327.1, bt1330.1⟩ : S_Mark)]), bt1330.2.1, bt1330.2.2)) else (none)))) else (if bt1312.1 = 3 then ((spec_l1PickInt.f s0_0 bt1312.2.1 bt1312.2.2 (([(-1), 3, 4] : List Int))).bind fun bt1339 => (some (bt1339.1, bt1302.2.1, bt1302.2.2.1, bt1302.2.2.2.1, bt1302.2.2.2.2.1, bt1339.2.1, bt1339.2.2))) else (some (bt1302.1, bt1302.2.1, bt1302.2.2.1, bt1302.2.2.2.1, bt1302.2.2.2.2.1, bt1312.2.1, bt1312.2.2)))))))
theorem spec_l4Draw.mono : ∀ a0 a1 a2 k, LeO (spec_l4Draw.f k a0 a1 a2) (spec_l4Draw.f (k + 1) a0 a1 a2) := by
 intro a0 a1 a2 k
 unfold spec_l4Draw.f
 repeat' first
  | (with_reducible exact spec_l4DrawRight.mono _ _ _ _)
  | (with_reducible exact LeO.refl _)
  | (with_reducible exact LeO.none _)
  | (with_reducible refine LeO.ite ?_ ?_)
  | (with_reducible refine LeO.bind ?_ (fun _ => ?_))
  | exact spec_l4DrawRight.mono _ _ _ _
  | exact LeO.none _
  | refine LeO.ite ?_ ?_
  | refine LeO.bind ?_ (fun _ => ?_)
def spec_l4Draw.T8 : Bool × List (List Nat × List Nat) := (true, [([], []), ([0], [0]), ([], []), ([2], [2]), ([], []), ([4, 3], [4]), ([3, 5], [3, 5]), ([6], [6]), ([1, 7, 5], [1, 7]), ([0, 1, 2, 3, 4, 5, 6, 7, 8], []), ([9, 8, 8, 0, 1, 2, 3, 4, 5, 6, 7, 8], [8, 9])])
def spec_l4Draw.B8 : List Nat := [0, 1, 0, 4, 0, 28, 60, 124, 255, 511, 1023]
theorem spec_l4Draw.tab8 : rtab .any (opsOf Try.f108 8) = spec_l4Draw.T8 := by kernel_rfl
theorem spec_l4Draw.bits8 : waitsOk spec_l4Draw.T8.2 spec_l4Draw.B8 = true := by kernel_rfl
set_option maxHeartbeats 8000000 in
set_option maxRecDepth 100000 in
theorem spec_l4Draw.calls (k : Nat) (g : Nat) (s0_0 : List Int) (s0_1 : Int) (s0_2 : Int) (r1 : Int) (r2 : Int) (r3 : Int) (r4 : Int) (r5 : List (S_Mark)) (r6 : Int) (r7 : Int) (w0 w : World) (hI : IsS_l1Cur w0 w g s0_0 s0_1 s0_2) (hB : Below w0.heap.size w0 w) (h : spec_l4Draw.f k s0_0 s0_1 s0_2 = some (r1, r2, r3, r4, r5, r6, r7)) :
 Calls Try.prog 108 #[.pointer (some ⟨g, 0, none⟩)] w fun e w' => ∃ v4_ : Value, e = .returned (.agg #[.int .i64 r1, .int .i64 r2, .int .i64 r3, .int .i64 r4, v4_]) ∧ Kd.R k_Mark 118 w' w.heap.size (fun _ => True) v4_ r5 ∧ IsS_l1Cur w0 w' g s0_0 r6 r7 ∧ Below w0.heap.size w0 w' ∧ KeepBut w w' g none := by
 have hu54 := Try.underlying54
 have hu118 := Try.underlying118
 have HI0 := Aside0.mk hI
 have HK := Aside0.mk (KeepBut.refl w g none)
 have HL := Aside0.mk hB.size
 clear hI
 have HW0 := Aside0.mk hB.size
 have HB := Aside0.mk hB
 clear hB
 have H : ((spec_l4DrawRight.f k s0_0 s0_1 s0_2).bind fun bt1302 => ((spec_l1Below.f s0_0 bt1302.2.2.2.2.2.1 bt1302.2.2.2.2.2.2 12).bind fun bt1312 => (if bt1312.1 = 0 then ((spec_l1PickInt.f s0_0 bt1312.2.1 bt1312.2.2 (([(-2), (-1), 5, 100000, 9223372036854775807, (-9223372036854775808)] : List Int))).bind fun bt1318 => (some (bt1302.1, bt1302.2.1, bt1302.2.2.1, bt1318.1, bt1302.2.2.2.2.1, bt1318.2.1, bt1318.2.2))) else (if bt1312.1 = 1 then ((spec_l1PickInt.f s0_0 bt1312.2.1 bt1312.2.2 (([(-1), 0, 2] : List Int))).bind fun bt1324 => (some (bt1302.1, bt1302.2.1, bt1324.1, bt1302.2.2.2.1, bt1302.2.2.2.2.1, bt1324.2.1, bt1324.2.2))) else (if bt1312.1 = 2 then ((spec_l1Below.f s0_0 bt1312.2.1 bt1312.2.2 9).bind fun bt1327 => ((spec_l1Below.f s0_0 bt1327.2.1 bt1327.2.2 9).bind fun bt1330 => (if bt1302.2.2.2.2.1.length < 8796093022208 then (some (bt1302.1, bt1302.2.1, bt1302.2.2.1, bt1302.2.2.2.1, (bt1302.2.2.2.2.1 ++ [(⟨bt1327.1, bt1330.1⟩ : S_Mark)]), bt1330.2.1, bt1330.2.2)) else (none)))) else (if bt1312.1 = 3 then ((spec_l1PickInt.f s0_0 bt1312.2.1 bt1312.2.2 (([(-1), 3, 4] : List Int))).bind fun bt1339 => (some (bt1339.1, bt1302.2.1, bt1302.2.2.1, bt1302.2.2.2.1, bt1302.2.2.2.2.1, bt1339.2.1, bt1339.2.2))) else (some (bt1302.1, bt1302.2.1, bt1302.2.2.1, bt1302.2.2.2.1, bt1302.2.2.2.2.1, bt1312.2.1, bt1312.2.2)))))))) = some (r1, r2, r3, r4, r5, r6, r7) := h
 clear h
 replace H := Option.bind_eq_some_iff.mp H
 obtain ⟨⟨t1302, t1303, t1304, t1305, t1306, t1309, t1310⟩, A20, H⟩ := H
 replace H : ((spec_l1Below.f s0_0 t1309 t1310 12).bind fun bt1312 => (if bt1312.1 = 0 then ((spec_l1PickInt.f s0_0 bt1312.2.1 bt1312.2.2 (([(-2), (-1), 5, 100000, 9223372036854775807, (-9223372036854775808)] : List Int))).bind fun bt1318 => (some (t1302, t1303, t1304, bt1318.1, t1306, bt1318.2.1, bt1318.2.2))) else (if bt1312.1 = 1 then ((spec_l1PickInt.f s0_0 bt1312.2.1 bt1312.2.2 (([(-1), 0, 2] : List Int))).bind fun bt1324 => (some (t1302, t1303, bt1324.1, t1305, t1306, bt1324.2.1, bt1324.2.2))) else (if bt1312.1 = 2 then ((spec_l1Below.f s0_0 bt1312.2.1 bt1312.2.2 9).bind fun bt1327 => ((spec_l1Below.f s0_0 bt1327.2.1 bt1327.2.2 9).bind fun bt1330 => (if t1306.length < 8796093022208 then (some (t1302, t1303, t1304, t1305, (t1306 ++ [(⟨bt1327.1, bt1330.1⟩ : S_Mark)]), bt1330.2.1, bt1330.2.2)) else (none)))) else (if bt1312.1 = 3 then ((spec_l1PickInt.f s0_0 bt1312.2.1 bt1312.2.2 (([(-1), 3, 4] : List Int))).bind fun bt1339 => (some (bt1339.1, t1303, t1304, t1305, t1306, bt1339.2.1, bt1339.2.2))) else (some (t1302, t1303, t1304, t1305, t1306, bt1312.2.1, bt1312.2.2))))))) = some (r1, r2, r3, r4, r5, r6, r7) := H
 have A2 := Aside0.mk A20
 clear A20
 replace H := Option.bind_eq_some_iff.mp H
 obtain ⟨⟨t1312, t1313, t1314⟩, A30, H⟩ := H
 replace H : (if t1312 = 0 then ((spec_l1PickInt.f s0_0 t1313 t1314 (([(-2), (-1), 5, 100000, 9223372036854775807, (-9223372036854775808)] : List Int))).bind fun bt1318 => (some (t1302, t1303, t1304, bt1318.1, t1306, bt1318.2.1, bt1318.2.2))) else (if t1312 = 1 then ((spec_l1PickInt.f s0_0 t1313 t1314 (([(-1), 0, 2] : List Int))).bind fun bt1324 => (some (t1302, t1303, bt1324.1, t1305, t1306, bt1324.2.1, bt1324.2.2))) else (if t1312 = 2 then ((spec_l1Below.f s0_0 t1313 t1314 9).bind fun bt1327 => ((spec_l1Below.f s0_0 bt1327.2.1 bt1327.2.2 9).bind fun bt1330 => (if t1306.length < 8796093022208 then (some (t1302, t1303, t1304, t1305, (t1306 ++ [(⟨bt1327.1, bt1330.1⟩ : S_Mark)]), bt1330.2.1, bt1330.2.2)) else (none)))) else (if t1312 = 3 then ((spec_l1PickInt.f s0_0 t1313 t1314 (([(-1), 3, 4] : List Int))).bind fun bt1339 => (some (bt1339.1, t1303, t1304, t1305, t1306, bt1339.2.1, bt1339.2.2))) else (some (t1302, t1303, t1304, t1305, t1306, t1313, t1314)))))) = some (r1, r2, r3, r4, r5, r6, r7) := H
 have A3 := Aside0.mk A30
 clear A30
 by_cases c4 : t1312 = 0
 ·
  rw [if_pos c4] at H
  have c4b0 : (t1312 == 0) = true := beq_iff_eq.mpr c4
  have c4b1 : (t1312 != 0) = false := bne_eq_false_iff_eq.mpr c4
  clear c4
  obtain ⟨y1315, hy1315⟩ : ∃ y_ : List Int, y_ = (([(-2), (-1), 5, 100000, 9223372036854775807, (-9223372036854775808)] : List Int)) := ⟨_, rfl⟩
  replace H : ((spec_l1PickInt.f s0_0 t1313 t1314 y1315).bind fun bt1318 => (some (t1302, t1303, t1304, bt1318.1, t1306, bt1318.2.1, bt1318.2.2))) = some (r1, r2, r3, r4, r5, r6, r7) := by first | (rw [hy1315]; with_reducible exact H) | (have H2_ := (Option.bind_some _ _).symm.trans H; rw [hy1315]; with_reducible exact H2_) | (have H2_ := (Option.bind_some _ _).symm.trans H; with_reducible exact H2_) | with_reducible exact H | (rw [hy1315]; exact H) | exact H
  have Ny1315 := Aside0.mk hy1315
  clear hy1315
  replace H := Option.bind_eq_some_iff.mp H
  obtain ⟨⟨t1318, t1319, t1320⟩, A50, H⟩ := H
  replace H : (some (t1302, t1303, t1304, t1318, t1306, t1319, t1320)) = some (r1, r2, r3, r4, r5, r6, r7) := H
  have A5 := Aside0.mk A50
  clear A50
  simp only [Option.some.injEq, Prod.mk.injEq] at H
  obtain ⟨rfl, rfl, rfl, rfl, rfl, rfl, rfl⟩ := H
  go_enter Try.func108, Try.ntmps108
  go_wp2_with (first | ((with_reducible refine gate_dst (N := 2) rfl ?_); refine box_event ?hg (N := 2) ?hd (cs := #[.int .i64 0, .int .i64 0, .int .i64 0, .int .i64 0, .slice none 0 0]) (t := 54) ?hr ?_; (case hd => rfl); (case hg => rfl); (case hr => first | (go_simp; done) | (go_simp; rfl)); intro gb1301 hg w6 hbox hb; have n0_ := Aside0.mk (IsS_l1Cur.below (is_l1Cur_ HI0.out) hb); have n1_ := Aside0.mk (KeepBut.trans (hk_ HK.out) (KeepBut.of_below hb g none) (.inl rfl)); have n2_ := Aside0.mk (below_step (hi_ HB.out) hb); have n3_ := Aside0.mk (hbox); have n4_ := Aside0.mk ((by rw [hg]; exact (keep_size (w := w) (g := g) (row := none) (hk_ HK.out)) : w.heap.size ≤ gb1301)); have n5_ := Aside0.mk ((Nat.le_trans HW0.out (by rw [hg]; exact (keep_size (w := w) (g := g) (row := none) (hk_ HK.out)) : w.heap.size ≤ gb1301) : w0.heap.size ≤ gb1301)); have n6_ := Aside0.mk ((by rw [hg]; exact Nat.ne_of_lt (IsS_l1Cur.lt (show IsS_l1Cur w0 _ g s0_0 s0_1 s0_2 from is_l1Cur_ HI0.out)) : g ≠ gb1301)); have n7_ := Aside0.mk ((by rw [hg]; exact Nat.ne_of_gt (IsS_l1Cur.lt (show IsS_l1Cur w0 _ g s0_0 s0_1 s0_2 from is_l1Cur_ HI0.out)) : gb1301 ≠ g)); clear HI0; clear HK; clear HB; have HI0 := n0_; have HK := n1_; have HB := n2_; have BK1301 := n3_; have GW1301 := n4_; have GE1301 := n5_; have NB0_1301 := n6_; have NB1301_0 := n7_; clear n0_ n1_ n2_ n3_ n4_ n5_ n6_ n7_; clear hb hbox hg) | ((with_reducible refine gate_callee (f := 126) rfl ?_); refine goesL_ (some 5) rfl rfl Try.func126 (by kernel_rfl) rfl #[.pointer (some ⟨g, 0, none⟩)] rfl sm_ ?_; (with_reducible refine (spec_l4DrawRight.calls k g s0_0 s0_1 s0_2 t1302 t1303 t1304 t1305 t1306 t1309 t1310 w0 _ ?side1 ?side2 A2.out).mono ?_); (case side1 => repeat (first | (with_reducible first | exact HI0.out | apply IsS_l1Cur.alloc | apply IsS_l1Cur.drewN | apply IsS_l1Cur.drew | apply IsS_l1Cur.set_1 | apply IsS_l1Cur.set_2 | refine IsS_l1Cur.far ?_ NB0_1301.out _) | exact HI0.out)); (case side2 => repeat (first | (with_reducible first | exact HB.out | apply below_alloc | apply pw_below_drewN | apply below_drew1 | refine below_set ?_ (IsS_l1Cur.ge HI0.out) | refine below_set ?_ GE1301.out) | exact HB.out)); rintro e w7 ⟨v1307, rfl, ho0, hi, hb, hk⟩; refine ⟨_, rfl, ?_⟩; have n0_ := Aside0.mk (KeepBut.blk hk (g' := gb1301) (o := .cells #[.int .i64 0, .int .i64 0, .int .i64 0, .int .i64 0, .slice none 0 0] 54 (0, 0)) (bq_ BK1301.out) NB1301_0.out (by simp)); have n1_ := Aside0.mk (Kd.R_lower ho0 (keep_size (w := w) (g := g) (row := none) (hk_ HK.out))); have n2_ := Aside0.mk (KeepBut.trans (hk_ HK.out) hk (.inl rfl)); have n3_ := Aside0.mk (hb); have n4_ := Aside0.mk (hi); clear BK1301; clear HK; clear HB; clear HI0; have BK1301 := n0_; have HO1308 := n1_; have HK := n2_; have HB := n3_; have HI0 := n4_; clear n0_ n1_ n2_ n3_ n4_; (try clear hb); (try clear hb2); (try clear hk); (try clear hi); (try clear ho0)) | ((with_reducible refine gate_dst (N := 3) rfl ?_); refine box_event ?hg (N := 3) ?hd (cs := #[.int .i64 0, .int .i64 0, .int .i64 0, .int .i64 0, .slice none 0 0]) (t := 54) ?hr ?_; (case hd => rfl); (case hg => rfl); (case hr => first | (go_simp; done) | (go_simp; rfl)); intro gb1311 hg w8 hbox hb; have n0_ := Aside0.mk (Kd.R_below (rq_ HO1308.out) hb); have n1_ := Aside0.mk (IsS_l1Cur.below (is_l1Cur_ HI0.out) hb); have n2_ := Aside0.mk (bb_ BK1301.out hb); have n3_ := Aside0.mk (KeepBut.trans (hk_ HK.out) (KeepBut.of_below hb g none) (.inl rfl)); have n4_ := Aside0.mk (below_step (hi_ HB.out) hb); have n5_ := Aside0.mk (hbox); have n6_ := Aside0.mk ((by rw [hg]; exact (keep_size (w := w) (g := g) (row := none) (hk_ HK.out)) : w.heap.size ≤ gb1311)); have n7_ := Aside0.mk ((Nat.le_trans HW0.out (by rw [hg]; exact (keep_size (w := w) (g := g) (row := none) (hk_ HK.out)) : w.heap.size ≤ gb1311) : w0.heap.size ≤ gb1311)); have n8_ := Aside0.mk ((nl_ BK1301.out hg : gb1301 ≠ gb1311)); have n9_ := Aside0.mk ((ng_ BK1301.out hg : gb1311 ≠ gb1301)); have n10_ := Aside0.mk ((by rw [hg]; exact Nat.ne_of_lt (IsS_l1Cur.lt (show IsS_l1Cur w0 _ g s0_0 t1309 t1310 from is_l1Cur_ HI0.out)) : g ≠ gb1311)); have n11_ := Aside0.mk ((by rw [hg]; exact Nat.ne_of_gt (IsS_l1Cur.lt (show IsS_l1Cur w0 _ g s0_0 t1309 t1310 from is_l1Cur_ HI0.out)) : gb1311 ≠ g)); clear HO1308; clear HI0; clear BK1301; clear HK; clear HB; have HO1308 := n0_; have HI0 := n1_; have BK1301 := n2_; have HK := n3_; have HB := n4_; have BK1311 := n5_; have GW1311 := n6_; have GE1311 := n7_; have NB1301_1311 := n8_; have NB1311_1301 := n9_; have NB0_1311 := n10_; have NB1311_0 := n11_; clear n0_ n1_ n2_ n3_ n4_ n5_ n6_ n7_ n8_ n9_ n10_ n11_; clear hb hbox hg; have hnb9 := NB1311_1301.out; have hnc9 := NB1301_1311.out; have hnb10 := NB1311_0.out; have hnc10 := NB0_1311.out; have hcz11_0 : w8.cell? ⟨gb1311, 0, none⟩ = some (.int .i64 0) := (blk_cell BK1311.out 0).trans rfl; have hcz11_1 : w8.cell? ⟨gb1311, 1, none⟩ = some (.int .i64 0) := (blk_cell BK1311.out 1).trans rfl; have hcz11_2 : w8.cell? ⟨gb1311, 2, none⟩ = some (.int .i64 0) := (blk_cell BK1311.out 2).trans rfl; have hcz11_3 : w8.cell? ⟨gb1311, 3, none⟩ = some (.int .i64 0) := (blk_cell BK1311.out 3).trans rfl; have hcz11_4 : w8.cell? ⟨gb1311, 4, none⟩ = some (.slice none 0 0) := (blk_cell BK1311.out 4).trans rfl; have hfz11_0 := blk_frozen BK1311.out 0; have hfz11_1 := blk_frozen BK1311.out 1; have hfz11_2 := blk_frozen BK1311.out 2; have hfz11_3 := blk_frozen BK1311.out 3; have hfz11_4 := blk_frozen BK1311.out 4; obtain ⟨Ao12, co12, eo12⟩ := Kd.R_slice HO1308.out; subst eo12) | ((with_reducible refine gate_callee (f := 94) rfl ?_); refine goesL_ (some 7) rfl rfl Try.func94 (by kernel_rfl) rfl #[.pointer (some ⟨g, 0, none⟩), .int .i64 12] rfl sm_ ?_; (with_reducible refine (spec_l1Below.calls g s0_0 t1309 t1310 12 t1312 t1313 t1314 w0 _ ?side1 ?side2 A3.out).mono ?_); (case side1 => repeat (first | (with_reducible first | exact HI0.out | apply IsS_l1Cur.alloc | apply IsS_l1Cur.drewN | apply IsS_l1Cur.drew | apply IsS_l1Cur.set_1 | apply IsS_l1Cur.set_2 | refine IsS_l1Cur.far ?_ NB0_1301.out _ | refine IsS_l1Cur.far ?_ NB0_1311.out _) | exact HI0.out)); (case side2 => repeat (first | (with_reducible first | exact HB.out | apply below_alloc | apply pw_below_drewN | apply below_drew1 | refine below_set ?_ (IsS_l1Cur.ge HI0.out) | refine below_set ?_ GE1301.out | refine below_set ?_ GE1311.out) | exact HB.out)); rintro e w13 ⟨rfl, hi, hb, hk⟩; refine ⟨_, rfl, ?_⟩; have n0_ := Aside0.mk (KeepBut.blk hk (g' := gb1301) (o := .cells #[.int .i64 0, .int .i64 0, .int .i64 0, .int .i64 0, .slice none 0 0] 54 (0, 0)) (bf_ NB1301_1311.out BK1301.out) NB1301_0.out (by simp)); have n1_ := Aside0.mk (Kd.R_mono (Kd.R_keep (IsS_l1Cur.apart (show IsS_l1Cur w0 _ g s0_0 t1309 t1310 from is_l1Cur_ HI0.out) (rk_ HO1308.out BK1311.out) (by decide)) hk (fun _ h => h.2)) (fun _ h => h.1)); have n2_ := Aside0.mk (KeepBut.blk hk (g' := gb1311) (o := .cells #[.int .i64 t1302, .int .i64 t1303, .int .i64 t1304, .int .i64 t1305, .slice Ao12 t1306.length co12] 54 (0, 0)) (bp_ BK1311.out) NB1311_0.out (by simp)); have n3_ := Aside0.mk (KeepBut.trans (hk_ HK.out) hk (.inl rfl)); have n4_ := Aside0.mk (hb); have n5_ := Aside0.mk (hi); clear BK1301; clear HO1308; clear BK1311; clear HK; clear HB; clear HI0; have BK1301 := n0_; have HO1308 := n1_; have BK1311 := n2_; have HK := n3_; have HB := n4_; have HI0 := n5_; clear n0_ n1_ n2_ n3_ n4_ n5_; (try clear hb); (try clear hb2); (try clear hk); (try clear hi)) | ((with_reducible refine gate_dst (N := 11) rfl ?_); refine Kd.R_lit (Kd.int .i64) _ 3 ?hg (N := 11) ?hd (xs := ([(-2), (-1), 5, 100000, 9223372036854775807, (-9223372036854775808)] : List Int)) (inner := [.int .i64 (-2), .int .i64 (-1), .int .i64 5, .int .i64 100000, .int .i64 9223372036854775807, .int .i64 (-9223372036854775808)]) (ok := fun _ => True) (okp := fun _ => True) ?hr ?hp (fun _ hk => hk) trivial (Below.refl _ _) (Nat.le_refl _) (by simp) ?_; (case hd => rfl); (case hg => rfl); (case hr => first | (go_simp; done) | (go_simp; rfl)); (case hp => exact (Reps.one (show Kd.M (Kd.int .i64) _ _ _ (-2) [.int .i64 (-2)] from rfl) (Reps.one (show Kd.M (Kd.int .i64) _ _ _ (-1) [.int .i64 (-1)] from rfl) (Reps.one (show Kd.M (Kd.int .i64) _ _ _ 5 [.int .i64 5] from rfl) (Reps.one (show Kd.M (Kd.int .i64) _ _ _ 100000 [.int .i64 100000] from rfl) (Reps.one (show Kd.M (Kd.int .i64) _ _ _ 9223372036854775807 [.int .i64 9223372036854775807] from rfl) (Reps.one (show Kd.M (Kd.int .i64) _ _ _ (-9223372036854775808) [.int .i64 (-9223372036854775808)] from rfl) (Reps.none _ _)))))))); intro v1316 w14 ho15 hb hg_ hnew_; clear hg_ hnew_; (first | rw [← Ny1315.out] at ho15 | (simp only [Int.reduceToNat] at ho15; rw [← Ny1315.out] at ho15)); have n0_ := Aside0.mk (Kd.R_below (rq_ HO1308.out) hb); have n1_ := Aside0.mk (Kd.R_lower ho15 (keep_size (w := w) (g := g) (row := none) (hk_ HK.out))); have n2_ := Aside0.mk (IsS_l1Cur.below (is_l1Cur_ HI0.out) hb); have n3_ := Aside0.mk (bb_ BK1301.out hb); have n4_ := Aside0.mk (bb_ BK1311.out hb); have n5_ := Aside0.mk (KeepBut.trans (hk_ HK.out) (KeepBut.of_below hb g none) (.inl rfl)); have n6_ := Aside0.mk (below_step (hi_ HB.out) hb); clear HO1308; clear HI0; clear BK1301; clear BK1311; clear HK; clear HB; have HO1308 := n0_; have HO1317 := n1_; have HI0 := n2_; have BK1301 := n3_; have BK1311 := n4_; have HK := n5_; have HB := n6_; clear n0_ n1_ n2_ n3_ n4_ n5_ n6_; clear hb ho15; obtain ⟨Ao16, co16, eo16⟩ := Kd.R_slice HO1317.out; subst eo16) | ((with_reducible refine gate_callee (f := 89) rfl ?_); refine goesL_ (some 12) rfl rfl Try.func89 (by kernel_rfl) rfl #[.pointer (some ⟨g, 0, none⟩), .slice Ao16 y1315.length co16] rfl sm_ ?_; (with_reducible refine (spec_l1PickInt.calls g s0_0 t1313 t1314 _ _ y1315 t1318 t1319 t1320 w0 _ ?side1 ?side2 ?side3 ?side4 ?side5 A5.out).mono ?_); (case side1 => repeat (first | (with_reducible first | exact HI0.out | apply IsS_l1Cur.alloc | apply IsS_l1Cur.drewN | apply IsS_l1Cur.drew | apply IsS_l1Cur.set_1 | apply IsS_l1Cur.set_2 | refine IsS_l1Cur.far ?_ NB0_1301.out _ | refine IsS_l1Cur.far ?_ NB0_1311.out _) | exact HI0.out)); (case side2 => repeat (first | (with_reducible first | exact HB.out | apply below_alloc | apply pw_below_drewN | apply below_drew1 | refine below_set ?_ (IsS_l1Cur.ge HI0.out) | refine below_set ?_ GE1301.out | refine below_set ?_ GE1311.out) | exact HB.out)); (case side3 => repeat (first | exact (Kd.R_reads' HO1317.out).2.2 | (with_reducible refine Kd.C_alloc ?_ _) | (with_reducible refine Kd.C_drewN ?_ _) | (with_reducible refine Kd.C_drew ?_))); (case side4 => exact (Kd.R_reads' HO1317.out).2.1); (case side5 => exact far_slice (IsS_l1Cur.own_ne HI0.out HO1317.out (by decide))); rintro e w17 ⟨rfl, hi, hb, hk⟩; refine ⟨_, rfl, ?_⟩; have n0_ := Aside0.mk (KeepBut.blk hk (g' := gb1301) (o := .cells #[.int .i64 0, .int .i64 0, .int .i64 0, .int .i64 0, .slice none 0 0] 54 (0, 0)) (bq_ BK1301.out) NB1301_0.out (by simp)); have n1_ := Aside0.mk (Kd.R_mono (Kd.R_keep (IsS_l1Cur.apart (show IsS_l1Cur w0 _ g s0_0 t1313 t1314 from is_l1Cur_ HI0.out) (rq_ HO1308.out) (by decide)) hk (fun _ h => h.2)) (fun _ h => h.1)); have n2_ := Aside0.mk (KeepBut.blk hk (g' := gb1311) (o := .cells #[.int .i64 t1302, .int .i64 t1303, .int .i64 t1304, .int .i64 t1305, .slice Ao12 t1306.length co12] 54 (0, 0)) (bq_ BK1311.out) NB1311_0.out (by simp)); have n3_ := Aside0.mk (Kd.R_mono (Kd.R_keep (IsS_l1Cur.apart (show IsS_l1Cur w0 _ g s0_0 t1313 t1314 from is_l1Cur_ HI0.out) (rq_ HO1317.out) (by decide)) hk (fun _ h => h.2)) (fun _ h => h.1)); have n4_ := Aside0.mk (KeepBut.trans (hk_ HK.out) hk (.inl rfl)); have n5_ := Aside0.mk (hb); have n6_ := Aside0.mk (hi); clear BK1301; clear HO1308; clear BK1311; clear HO1317; clear HK; clear HB; clear HI0; have BK1301 := n0_; have HO1308 := n1_; have BK1311 := n2_; have HO1317 := n3_; have HK := n4_; have HB := n5_; have HI0 := n6_; clear n0_ n1_ n2_ n3_ n4_ n5_ n6_; (try clear hb); (try clear hb2); (try clear hk); (try clear hi); have hcz18_0 : w17.cell? ⟨gb1311, 0, none⟩ = some (.int .i64 t1302) := (blk_cell BK1311.out 0).trans rfl; have hcz18_1 : w17.cell? ⟨gb1311, 1, none⟩ = some (.int .i64 t1303) := (blk_cell BK1311.out 1).trans rfl; have hcz18_2 : w17.cell? ⟨gb1311, 2, none⟩ = some (.int .i64 t1304) := (blk_cell BK1311.out 2).trans rfl; have hcz18_3 : w17.cell? ⟨gb1311, 3, none⟩ = some (.int .i64 t1305) := (blk_cell BK1311.out 3).trans rfl; have hcz18_4 : w17.cell? ⟨gb1311, 4, none⟩ = some (.slice Ao12 t1306.length co12) := (blk_cell BK1311.out 4).trans rfl; have hfz18_0 := blk_frozen BK1311.out 0; have hfz18_1 := blk_frozen BK1311.out 1; have hfz18_2 := blk_frozen BK1311.out 2; have hfz18_3 := blk_frozen BK1311.out 3; have hfz18_4 := blk_frozen BK1311.out 4; have hnb19 := NB1301_0.out; have hnc19 := NB0_1301.out; have hcz20_0 : w17.cell? ⟨gb1301, 0, none⟩ = some (.int .i64 0) := (blk_cell BK1301.out 0).trans rfl; have hcz20_1 : w17.cell? ⟨gb1301, 1, none⟩ = some (.int .i64 0) := (blk_cell BK1301.out 1).trans rfl; have hcz20_2 : w17.cell? ⟨gb1301, 2, none⟩ = some (.int .i64 0) := (blk_cell BK1301.out 2).trans rfl; have hcz20_3 : w17.cell? ⟨gb1301, 3, none⟩ = some (.int .i64 0) := (blk_cell BK1301.out 3).trans rfl; have hcz20_4 : w17.cell? ⟨gb1301, 4, none⟩ = some (.slice none 0 0) := (blk_cell BK1301.out 4).trans rfl; have hfz20_0 := blk_frozen BK1301.out 0; have hfz20_1 := blk_frozen BK1301.out 1; have hfz20_2 := blk_frozen BK1301.out 2; have hfz20_3 := blk_frozen BK1301.out 3; have hfz20_4 := blk_frozen BK1301.out 4))
  refine bodyPost_ret (results_cell_row rfl _ _ gb1301 54 #[.int .i64 t1302, .int .i64 t1303, .int .i64 t1304, .int .i64 t1318, .slice Ao12 t1306.length co12] (0, 0) _ rfl (by (with_reducible repeat (first | refine blk_drewN ?_ _ | refine blk_drew ?_ | refine blk_alloc ?_ _)); refine blk_put (cs := #[.int .i64 t1302, .int .i64 t1303, .int .i64 t1304, .int .i64 t1318, .slice none 0 0]) ?_ 4 _ rfl; (with_reducible repeat (first | refine blk_drewN ?_ _ | refine blk_drew ?_ | refine blk_alloc ?_ _)); refine blk_put (cs := #[.int .i64 t1302, .int .i64 t1303, .int .i64 t1304, .int .i64 0, .slice none 0 0]) ?_ 3 _ rfl; (with_reducible repeat (first | refine blk_drewN ?_ _ | refine blk_drew ?_ | refine blk_alloc ?_ _)); refine blk_put (cs := #[.int .i64 t1302, .int .i64 t1303, .int .i64 0, .int .i64 0, .slice none 0 0]) ?_ 2 _ rfl; (with_reducible repeat (first | refine blk_drewN ?_ _ | refine blk_drew ?_ | refine blk_alloc ?_ _)); refine blk_put (cs := #[.int .i64 t1302, .int .i64 0, .int .i64 0, .int .i64 0, .slice none 0 0]) ?_ 1 _ rfl; (with_reducible repeat (first | refine blk_drewN ?_ _ | refine blk_drew ?_ | refine blk_alloc ?_ _)); refine blk_put (cs := #[.int .i64 0, .int .i64 0, .int .i64 0, .int .i64 0, .slice none 0 0]) ?_ 0 _ rfl; (with_reducible repeat (first | refine blk_drewN ?_ _ | refine blk_drew ?_ | refine blk_alloc ?_ _)); refine blk_far ?_ NB1301_1311.out _; (with_reducible repeat (first | refine blk_drewN ?_ _ | refine blk_drew ?_ | refine blk_alloc ?_ _)); exact BK1301.out) Try.underlying54 rfl (by kernel_rfl)) rfl ?_
  exact ⟨_, er_, by (with_reducible repeat (first | apply Kd.R_alloc | apply Kd.R_drewN | apply Kd.R_drew)); exact Kd.R_mono (Kd.R_far (p := ⟨gb1301, 4, none⟩) (Kd.R_far (p := ⟨gb1301, 3, none⟩) (Kd.R_far (p := ⟨gb1301, 2, none⟩) (Kd.R_far (p := ⟨gb1301, 1, none⟩) (Kd.R_far (p := ⟨gb1301, 0, none⟩) (Kd.R_far (p := ⟨gb1311, 3, none⟩) (Kd.R_types (Kd.R_types HO1308.out BK1311.out (by decide)) BK1301.out (by decide)) (fun _ hk => hk.1.2) (.int .i64 t1318)) (fun _ hk => hk.2) (.int .i64 t1302)) (fun _ hk => hk.2) (.int .i64 t1303)) (fun _ hk => hk.2) (.int .i64 t1304)) (fun _ hk => hk.2) (.int .i64 t1318)) (fun _ hk => hk.2) (.slice Ao12 t1306.length co12)) (fun _ hk => trivial), is_l1Cur_ HI0.out, by repeat (first | (with_reducible first | exact HB.out | apply below_alloc | apply pw_below_drewN | apply below_drew1 | refine below_set ?_ (IsS_l1Cur.ge HI0.out) | refine below_set ?_ GE1301.out | refine below_set ?_ GE1311.out) | exact HB.out), by repeat (first | (with_reducible first | exact HK.out | apply KeepBut.set_ | apply keep_drewN | apply keep_drew | apply keep_alloc | refine keep_far ?_ GW1301.out _ | refine keep_far ?_ GW1311.out _) | exact HK.out)⟩
 ·
  rw [if_neg c4] at H
  have c4b0 : (t1312 == 0) = false := beq_eq_false_iff_ne.mpr c4
  have c4b1 : (t1312 != 0) = true := bne_iff_ne.mpr c4
  by_cases c21 : t1312 = 1
  ·
   rw [if_pos c21] at H
   have c21b0 : (t1312 == 1) = true := beq_iff_eq.mpr c21
   have c21b1 : (t1312 != 1) = false := bne_eq_false_iff_eq.mpr c21
   clear c21
   obtain ⟨y1321, hy1321⟩ : ∃ y_ : List Int, y_ = (([(-1), 0, 2] : List Int)) := ⟨_, rfl⟩
   replace H : ((spec_l1PickInt.f s0_0 t1313 t1314 y1321).bind fun bt1324 => (some (t1302, t1303, bt1324.1, t1305, t1306, bt1324.2.1, bt1324.2.2))) = some (r1, r2, r3, r4, r5, r6, r7) := by first | (rw [hy1321]; with_reducible exact H) | (have H2_ := (Option.bind_some _ _).symm.trans H; rw [hy1321]; with_reducible exact H2_) | (have H2_ := (Option.bind_some _ _).symm.trans H; with_reducible exact H2_) | with_reducible exact H | (rw [hy1321]; exact H) | exact H
   have Ny1321 := Aside0.mk hy1321
   clear hy1321
   replace H := Option.bind_eq_some_iff.mp H
   obtain ⟨⟨t1324, t1325, t1326⟩, A220, H⟩ := H
   replace H : (some (t1302, t1303, t1324, t1305, t1306, t1325, t1326)) = some (r1, r2, r3, r4, r5, r6, r7) := H
   have A22 := Aside0.mk A220
   clear A220
   simp only [Option.some.injEq, Prod.mk.injEq] at H
   obtain ⟨rfl, rfl, rfl, rfl, rfl, rfl, rfl⟩ := H
   go_enter Try.func108, Try.ntmps108
   go_wp2_with (first | ((with_reducible refine gate_dst (N := 2) rfl ?_); refine box_event ?hg (N := 2) ?hd (cs := #[.int .i64 0, .int .i64 0, .int .i64 0, .int .i64 0, .slice none 0 0]) (t := 54) ?hr ?_; (case hd => rfl); (case hg => rfl); (case hr => first | (go_simp; done) | (go_simp; rfl)); intro gb1301 hg w23 hbox hb; have n0_ := Aside0.mk (IsS_l1Cur.below (is_l1Cur_ HI0.out) hb); have n1_ := Aside0.mk (KeepBut.trans (hk_ HK.out) (KeepBut.of_below hb g none) (.inl rfl)); have n2_ := Aside0.mk (below_step (hi_ HB.out) hb); have n3_ := Aside0.mk (hbox); have n4_ := Aside0.mk ((by rw [hg]; exact (keep_size (w := w) (g := g) (row := none) (hk_ HK.out)) : w.heap.size ≤ gb1301)); have n5_ := Aside0.mk ((Nat.le_trans HW0.out (by rw [hg]; exact (keep_size (w := w) (g := g) (row := none) (hk_ HK.out)) : w.heap.size ≤ gb1301) : w0.heap.size ≤ gb1301)); have n6_ := Aside0.mk ((by rw [hg]; exact Nat.ne_of_lt (IsS_l1Cur.lt (show IsS_l1Cur w0 _ g s0_0 s0_1 s0_2 from is_l1Cur_ HI0.out)) : g ≠ gb1301)); have n7_ := Aside0.mk ((by rw [hg]; exact Nat.ne_of_gt (IsS_l1Cur.lt (show IsS_l1Cur w0 _ g s0_0 s0_1 s0_2 from is_l1Cur_ HI0.out)) : gb1301 ≠ g)); clear HI0; clear HK; clear HB; have HI0 := n0_; have HK := n1_; have HB := n2_; have BK1301 := n3_; have GW1301 := n4_; have GE1301 := n5_; have NB0_1301 := n6_; have NB1301_0 := n7_; clear n0_ n1_ n2_ n3_ n4_ n5_ n6_ n7_; clear hb hbox hg) | ((with_reducible refine gate_callee (f := 126) rfl ?_); refine goesL_ (some 5) rfl rfl Try.func126 (by kernel_rfl) rfl #[.pointer (some ⟨g, 0, none⟩)] rfl sm_ ?_; (with_reducible refine (spec_l4DrawRight.calls k g s0_0 s0_1 s0_2 t1302 t1303 t1304 t1305 t1306 t1309 t1310 w0 _ ?side1 ?side2 A2.out).mono ?_); (case side1 => repeat (first | (with_reducible first | exact HI0.out | apply IsS_l1Cur.alloc | apply IsS_l1Cur.drewN | apply IsS_l1Cur.drew | apply IsS_l1Cur.set_1 | apply IsS_l1Cur.set_2 | refine IsS_l1Cur.far ?_ NB0_1301.out _) | exact HI0.out)); (case side2 => repeat (first | (with_reducible first | exact HB.out | apply below_alloc | apply pw_below_drewN | apply below_drew1 | refine below_set ?_ (IsS_l1Cur.ge HI0.out) | refine below_set ?_ GE1301.out) | exact HB.out)); rintro e w24 ⟨v1307, rfl, ho0, hi, hb, hk⟩; refine ⟨_, rfl, ?_⟩; have n0_ := Aside0.mk (KeepBut.blk hk (g' := gb1301) (o := .cells #[.int .i64 0, .int .i64 0, .int .i64 0, .int .i64 0, .slice none 0 0] 54 (0, 0)) (bq_ BK1301.out) NB1301_0.out (by simp)); have n1_ := Aside0.mk (Kd.R_lower ho0 (keep_size (w := w) (g := g) (row := none) (hk_ HK.out))); have n2_ := Aside0.mk (KeepBut.trans (hk_ HK.out) hk (.inl rfl)); have n3_ := Aside0.mk (hb); have n4_ := Aside0.mk (hi); clear BK1301; clear HK; clear HB; clear HI0; have BK1301 := n0_; have HO1308 := n1_; have HK := n2_; have HB := n3_; have HI0 := n4_; clear n0_ n1_ n2_ n3_ n4_; (try clear hb); (try clear hb2); (try clear hk); (try clear hi); (try clear ho0)) | ((with_reducible refine gate_dst (N := 3) rfl ?_); refine box_event ?hg (N := 3) ?hd (cs := #[.int .i64 0, .int .i64 0, .int .i64 0, .int .i64 0, .slice none 0 0]) (t := 54) ?hr ?_; (case hd => rfl); (case hg => rfl); (case hr => first | (go_simp; done) | (go_simp; rfl)); intro gb1311 hg w25 hbox hb; have n0_ := Aside0.mk (Kd.R_below (rq_ HO1308.out) hb); have n1_ := Aside0.mk (IsS_l1Cur.below (is_l1Cur_ HI0.out) hb); have n2_ := Aside0.mk (bb_ BK1301.out hb); have n3_ := Aside0.mk (KeepBut.trans (hk_ HK.out) (KeepBut.of_below hb g none) (.inl rfl)); have n4_ := Aside0.mk (below_step (hi_ HB.out) hb); have n5_ := Aside0.mk (hbox); have n6_ := Aside0.mk ((by rw [hg]; exact (keep_size (w := w) (g := g) (row := none) (hk_ HK.out)) : w.heap.size ≤ gb1311)); have n7_ := Aside0.mk ((Nat.le_trans HW0.out (by rw [hg]; exact (keep_size (w := w) (g := g) (row := none) (hk_ HK.out)) : w.heap.size ≤ gb1311) : w0.heap.size ≤ gb1311)); have n8_ := Aside0.mk ((nl_ BK1301.out hg : gb1301 ≠ gb1311)); have n9_ := Aside0.mk ((ng_ BK1301.out hg : gb1311 ≠ gb1301)); have n10_ := Aside0.mk ((by rw [hg]; exact Nat.ne_of_lt (IsS_l1Cur.lt (show IsS_l1Cur w0 _ g s0_0 t1309 t1310 from is_l1Cur_ HI0.out)) : g ≠ gb1311)); have n11_ := Aside0.mk ((by rw [hg]; exact Nat.ne_of_gt (IsS_l1Cur.lt (show IsS_l1Cur w0 _ g s0_0 t1309 t1310 from is_l1Cur_ HI0.out)) : gb1311 ≠ g)); clear HO1308; clear HI0; clear BK1301; clear HK; clear HB; have HO1308 := n0_; have HI0 := n1_; have BK1301 := n2_; have HK := n3_; have HB := n4_; have BK1311 := n5_; have GW1311 := n6_; have GE1311 := n7_; have NB1301_1311 := n8_; have NB1311_1301 := n9_; have NB0_1311 := n10_; have NB1311_0 := n11_; clear n0_ n1_ n2_ n3_ n4_ n5_ n6_ n7_ n8_ n9_ n10_ n11_; clear hb hbox hg; have hnb26 := NB1311_1301.out; have hnc26 := NB1301_1311.out; have hnb27 := NB1311_0.out; have hnc27 := NB0_1311.out; have hcz28_0 : w25.cell? ⟨gb1311, 0, none⟩ = some (.int .i64 0) := (blk_cell BK1311.out 0).trans rfl; have hcz28_1 : w25.cell? ⟨gb1311, 1, none⟩ = some (.int .i64 0) := (blk_cell BK1311.out 1).trans rfl; have hcz28_2 : w25.cell? ⟨gb1311, 2, none⟩ = some (.int .i64 0) := (blk_cell BK1311.out 2).trans rfl; have hcz28_3 : w25.cell? ⟨gb1311, 3, none⟩ = some (.int .i64 0) := (blk_cell BK1311.out 3).trans rfl; have hcz28_4 : w25.cell? ⟨gb1311, 4, none⟩ = some (.slice none 0 0) := (blk_cell BK1311.out 4).trans rfl; have hfz28_0 := blk_frozen BK1311.out 0; have hfz28_1 := blk_frozen BK1311.out 1; have hfz28_2 := blk_frozen BK1311.out 2; have hfz28_3 := blk_frozen BK1311.out 3; have hfz28_4 := blk_frozen BK1311.out 4; obtain ⟨Ao29, co29, eo29⟩ := Kd.R_slice HO1308.out; subst eo29) | ((with_reducible refine gate_callee (f := 94) rfl ?_); refine goesL_ (some 7) rfl rfl Try.func94 (by kernel_rfl) rfl #[.pointer (some ⟨g, 0, none⟩), .int .i64 12] rfl sm_ ?_; (with_reducible refine (spec_l1Below.calls g s0_0 t1309 t1310 12 t1312 t1313 t1314 w0 _ ?side1 ?side2 A3.out).mono ?_); (case side1 => repeat (first | (with_reducible first | exact HI0.out | apply IsS_l1Cur.alloc | apply IsS_l1Cur.drewN | apply IsS_l1Cur.drew | apply IsS_l1Cur.set_1 | apply IsS_l1Cur.set_2 | refine IsS_l1Cur.far ?_ NB0_1301.out _ | refine IsS_l1Cur.far ?_ NB0_1311.out _) | exact HI0.out)); (case side2 => repeat (first | (with_reducible first | exact HB.out | apply below_alloc | apply pw_below_drewN | apply below_drew1 | refine below_set ?_ (IsS_l1Cur.ge HI0.out) | refine below_set ?_ GE1301.out | refine below_set ?_ GE1311.out) | exact HB.out)); rintro e w30 ⟨rfl, hi, hb, hk⟩; refine ⟨_, rfl, ?_⟩; have n0_ := Aside0.mk (KeepBut.blk hk (g' := gb1301) (o := .cells #[.int .i64 0, .int .i64 0, .int .i64 0, .int .i64 0, .slice none 0 0] 54 (0, 0)) (bf_ NB1301_1311.out BK1301.out) NB1301_0.out (by simp)); have n1_ := Aside0.mk (Kd.R_mono (Kd.R_keep (IsS_l1Cur.apart (show IsS_l1Cur w0 _ g s0_0 t1309 t1310 from is_l1Cur_ HI0.out) (rk_ HO1308.out BK1311.out) (by decide)) hk (fun _ h => h.2)) (fun _ h => h.1)); have n2_ := Aside0.mk (KeepBut.blk hk (g' := gb1311) (o := .cells #[.int .i64 t1302, .int .i64 t1303, .int .i64 t1304, .int .i64 t1305, .slice Ao29 t1306.length co29] 54 (0, 0)) (bp_ BK1311.out) NB1311_0.out (by simp)); have n3_ := Aside0.mk (KeepBut.trans (hk_ HK.out) hk (.inl rfl)); have n4_ := Aside0.mk (hb); have n5_ := Aside0.mk (hi); clear BK1301; clear HO1308; clear BK1311; clear HK; clear HB; clear HI0; have BK1301 := n0_; have HO1308 := n1_; have BK1311 := n2_; have HK := n3_; have HB := n4_; have HI0 := n5_; clear n0_ n1_ n2_ n3_ n4_ n5_; (try clear hb); (try clear hb2); (try clear hk); (try clear hi)) | ((with_reducible refine gate_dst (N := 17) rfl ?_); refine Kd.R_lit (Kd.int .i64) _ 3 ?hg (N := 17) ?hd (xs := ([(-1), 0, 2] : List Int)) (inner := [.int .i64 (-1), .int .i64 0, .int .i64 2]) (ok := fun _ => True) (okp := fun _ => True) ?hr ?hp (fun _ hk => hk) trivial (Below.refl _ _) (Nat.le_refl _) (by simp) ?_; (case hd => rfl); (case hg => rfl); (case hr => first | (go_simp; done) | (go_simp; rfl)); (case hp => exact (Reps.one (show Kd.M (Kd.int .i64) _ _ _ (-1) [.int .i64 (-1)] from rfl) (Reps.one (show Kd.M (Kd.int .i64) _ _ _ 0 [.int .i64 0] from rfl) (Reps.one (show Kd.M (Kd.int .i64) _ _ _ 2 [.int .i64 2] from rfl) (Reps.none _ _))))); intro v1322 w31 ho32 hb hg_ hnew_; clear hg_ hnew_; (first | rw [← Ny1321.out] at ho32 | (simp only [Int.reduceToNat] at ho32; rw [← Ny1321.out] at ho32)); have n0_ := Aside0.mk (Kd.R_below (rq_ HO1308.out) hb); have n1_ := Aside0.mk (Kd.R_lower ho32 (keep_size (w := w) (g := g) (row := none) (hk_ HK.out))); have n2_ := Aside0.mk (IsS_l1Cur.below (is_l1Cur_ HI0.out) hb); have n3_ := Aside0.mk (bb_ BK1301.out hb); have n4_ := Aside0.mk (bb_ BK1311.out hb); have n5_ := Aside0.mk (KeepBut.trans (hk_ HK.out) (KeepBut.of_below hb g none) (.inl rfl)); have n6_ := Aside0.mk (below_step (hi_ HB.out) hb); clear HO1308; clear HI0; clear BK1301; clear BK1311; clear HK; clear HB; have HO1308 := n0_; have HO1323 := n1_; have HI0 := n2_; have BK1301 := n3_; have BK1311 := n4_; have HK := n5_; have HB := n6_; clear n0_ n1_ n2_ n3_ n4_ n5_ n6_; clear hb ho32; obtain ⟨Ao33, co33, eo33⟩ := Kd.R_slice HO1323.out; subst eo33) | ((with_reducible refine gate_callee (f := 89) rfl ?_); refine goesL_ (some 18) rfl rfl Try.func89 (by kernel_rfl) rfl #[.pointer (some ⟨g, 0, none⟩), .slice Ao33 y1321.length co33] rfl sm_ ?_; (with_reducible refine (spec_l1PickInt.calls g s0_0 t1313 t1314 _ _ y1321 t1324 t1325 t1326 w0 _ ?side1 ?side2 ?side3 ?side4 ?side5 A22.out).mono ?_); (case side1 => repeat (first | (with_reducible first | exact HI0.out | apply IsS_l1Cur.alloc | apply IsS_l1Cur.drewN | apply IsS_l1Cur.drew | apply IsS_l1Cur.set_1 | apply IsS_l1Cur.set_2 | refine IsS_l1Cur.far ?_ NB0_1301.out _ | refine IsS_l1Cur.far ?_ NB0_1311.out _) | exact HI0.out)); (case side2 => repeat (first | (with_reducible first | exact HB.out | apply below_alloc | apply pw_below_drewN | apply below_drew1 | refine below_set ?_ (IsS_l1Cur.ge HI0.out) | refine below_set ?_ GE1301.out | refine below_set ?_ GE1311.out) | exact HB.out)); (case side3 => repeat (first | exact (Kd.R_reads' HO1323.out).2.2 | (with_reducible refine Kd.C_alloc ?_ _) | (with_reducible refine Kd.C_drewN ?_ _) | (with_reducible refine Kd.C_drew ?_))); (case side4 => exact (Kd.R_reads' HO1323.out).2.1); (case side5 => exact far_slice (IsS_l1Cur.own_ne HI0.out HO1323.out (by decide))); rintro e w34 ⟨rfl, hi, hb, hk⟩; refine ⟨_, rfl, ?_⟩; have n0_ := Aside0.mk (KeepBut.blk hk (g' := gb1301) (o := .cells #[.int .i64 0, .int .i64 0, .int .i64 0, .int .i64 0, .slice none 0 0] 54 (0, 0)) (bq_ BK1301.out) NB1301_0.out (by simp)); have n1_ := Aside0.mk (Kd.R_mono (Kd.R_keep (IsS_l1Cur.apart (show IsS_l1Cur w0 _ g s0_0 t1313 t1314 from is_l1Cur_ HI0.out) (rq_ HO1308.out) (by decide)) hk (fun _ h => h.2)) (fun _ h => h.1)); have n2_ := Aside0.mk (KeepBut.blk hk (g' := gb1311) (o := .cells #[.int .i64 t1302, .int .i64 t1303, .int .i64 t1304, .int .i64 t1305, .slice Ao29 t1306.length co29] 54 (0, 0)) (bq_ BK1311.out) NB1311_0.out (by simp)); have n3_ := Aside0.mk (Kd.R_mono (Kd.R_keep (IsS_l1Cur.apart (show IsS_l1Cur w0 _ g s0_0 t1313 t1314 from is_l1Cur_ HI0.out) (rq_ HO1323.out) (by decide)) hk (fun _ h => h.2)) (fun _ h => h.1)); have n4_ := Aside0.mk (KeepBut.trans (hk_ HK.out) hk (.inl rfl)); have n5_ := Aside0.mk (hb); have n6_ := Aside0.mk (hi); clear BK1301; clear HO1308; clear BK1311; clear HO1323; clear HK; clear HB; clear HI0; have BK1301 := n0_; have HO1308 := n1_; have BK1311 := n2_; have HO1323 := n3_; have HK := n4_; have HB := n5_; have HI0 := n6_; clear n0_ n1_ n2_ n3_ n4_ n5_ n6_; (try clear hb); (try clear hb2); (try clear hk); (try clear hi); have hcz35_0 : w34.cell? ⟨gb1311, 0, none⟩ = some (.int .i64 t1302) := (blk_cell BK1311.out 0).trans rfl; have hcz35_1 : w34.cell? ⟨gb1311, 1, none⟩ = some (.int .i64 t1303) := (blk_cell BK1311.out 1).trans rfl; have hcz35_2 : w34.cell? ⟨gb1311, 2, none⟩ = some (.int .i64 t1304) := (blk_cell BK1311.out 2).trans rfl; have hcz35_3 : w34.cell? ⟨gb1311, 3, none⟩ = some (.int .i64 t1305) := (blk_cell BK1311.out 3).trans rfl; have hcz35_4 : w34.cell? ⟨gb1311, 4, none⟩ = some (.slice Ao29 t1306.length co29) := (blk_cell BK1311.out 4).trans rfl; have hfz35_0 := blk_frozen BK1311.out 0; have hfz35_1 := blk_frozen BK1311.out 1; have hfz35_2 := blk_frozen BK1311.out 2; have hfz35_3 := blk_frozen BK1311.out 3; have hfz35_4 := blk_frozen BK1311.out 4; have hnb36 := NB1301_0.out; have hnc36 := NB0_1301.out; have hcz37_0 : w34.cell? ⟨gb1301, 0, none⟩ = some (.int .i64 0) := (blk_cell BK1301.out 0).trans rfl; have hcz37_1 : w34.cell? ⟨gb1301, 1, none⟩ = some (.int .i64 0) := (blk_cell BK1301.out 1).trans rfl; have hcz37_2 : w34.cell? ⟨gb1301, 2, none⟩ = some (.int .i64 0) := (blk_cell BK1301.out 2).trans rfl; have hcz37_3 : w34.cell? ⟨gb1301, 3, none⟩ = some (.int .i64 0) := (blk_cell BK1301.out 3).trans rfl; have hcz37_4 : w34.cell? ⟨gb1301, 4, none⟩ = some (.slice none 0 0) := (blk_cell BK1301.out 4).trans rfl; have hfz37_0 := blk_frozen BK1301.out 0; have hfz37_1 := blk_frozen BK1301.out 1; have hfz37_2 := blk_frozen BK1301.out 2; have hfz37_3 := blk_frozen BK1301.out 3; have hfz37_4 := blk_frozen BK1301.out 4))
   refine bodyPost_ret (results_cell_row rfl _ _ gb1301 54 #[.int .i64 t1302, .int .i64 t1303, .int .i64 t1324, .int .i64 t1305, .slice Ao29 t1306.length co29] (0, 0) _ rfl (by (with_reducible repeat (first | refine blk_drewN ?_ _ | refine blk_drew ?_ | refine blk_alloc ?_ _)); refine blk_put (cs := #[.int .i64 t1302, .int .i64 t1303, .int .i64 t1324, .int .i64 t1305, .slice none 0 0]) ?_ 4 _ rfl; (with_reducible repeat (first | refine blk_drewN ?_ _ | refine blk_drew ?_ | refine blk_alloc ?_ _)); refine blk_put (cs := #[.int .i64 t1302, .int .i64 t1303, .int .i64 t1324, .int .i64 0, .slice none 0 0]) ?_ 3 _ rfl; (with_reducible repeat (first | refine blk_drewN ?_ _ | refine blk_drew ?_ | refine blk_alloc ?_ _)); refine blk_put (cs := #[.int .i64 t1302, .int .i64 t1303, .int .i64 0, .int .i64 0, .slice none 0 0]) ?_ 2 _ rfl; (with_reducible repeat (first | refine blk_drewN ?_ _ | refine blk_drew ?_ | refine blk_alloc ?_ _)); refine blk_put (cs := #[.int .i64 t1302, .int .i64 0, .int .i64 0, .int .i64 0, .slice none 0 0]) ?_ 1 _ rfl; (with_reducible repeat (first | refine blk_drewN ?_ _ | refine blk_drew ?_ | refine blk_alloc ?_ _)); refine blk_put (cs := #[.int .i64 0, .int .i64 0, .int .i64 0, .int .i64 0, .slice none 0 0]) ?_ 0 _ rfl; (with_reducible repeat (first | refine blk_drewN ?_ _ | refine blk_drew ?_ | refine blk_alloc ?_ _)); refine blk_far ?_ NB1301_1311.out _; (with_reducible repeat (first | refine blk_drewN ?_ _ | refine blk_drew ?_ | refine blk_alloc ?_ _)); exact BK1301.out) Try.underlying54 rfl (by kernel_rfl)) rfl ?_
   exact ⟨_, er_, by (with_reducible repeat (first | apply Kd.R_alloc | apply Kd.R_drewN | apply Kd.R_drew)); exact Kd.R_mono (Kd.R_far (p := ⟨gb1301, 4, none⟩) (Kd.R_far (p := ⟨gb1301, 3, none⟩) (Kd.R_far (p := ⟨gb1301, 2, none⟩) (Kd.R_far (p := ⟨gb1301, 1, none⟩) (Kd.R_far (p := ⟨gb1301, 0, none⟩) (Kd.R_far (p := ⟨gb1311, 2, none⟩) (Kd.R_types (Kd.R_types HO1308.out BK1311.out (by decide)) BK1301.out (by decide)) (fun _ hk => hk.1.2) (.int .i64 t1324)) (fun _ hk => hk.2) (.int .i64 t1302)) (fun _ hk => hk.2) (.int .i64 t1303)) (fun _ hk => hk.2) (.int .i64 t1324)) (fun _ hk => hk.2) (.int .i64 t1305)) (fun _ hk => hk.2) (.slice Ao29 t1306.length co29)) (fun _ hk => trivial), is_l1Cur_ HI0.out, by repeat (first | (with_reducible first | exact HB.out | apply below_alloc | apply pw_below_drewN | apply below_drew1 | refine below_set ?_ (IsS_l1Cur.ge HI0.out) | refine below_set ?_ GE1301.out | refine below_set ?_ GE1311.out) | exact HB.out), by repeat (first | (with_reducible first | exact HK.out | apply KeepBut.set_ | apply keep_drewN | apply keep_drew | apply keep_alloc | refine keep_far ?_ GW1301.out _ | refine keep_far ?_ GW1311.out _) | exact HK.out)⟩
  ·
   rw [if_neg c21] at H
   have c21b0 : (t1312 == 1) = false := beq_eq_false_iff_ne.mpr c21
   have c21b1 : (t1312 != 1) = true := bne_iff_ne.mpr c21
   by_cases c38 : t1312 = 2
   ·
    rw [if_pos c38] at H
    have c38b0 : (t1312 == 2) = true := beq_iff_eq.mpr c38
    have c38b1 : (t1312 != 2) = false := bne_eq_false_iff_eq.mpr c38
    clear c38
    replace H := Option.bind_eq_some_iff.mp H
    obtain ⟨⟨t1327, t1328, t1329⟩, A390, H⟩ := H
    replace H : ((spec_l1Below.f s0_0 t1328 t1329 9).bind fun bt1330 => (if t1306.length < 8796093022208 then (some (t1302, t1303, t1304, t1305, (t1306 ++ [(⟨t1327, bt1330.1⟩ : S_Mark)]), bt1330.2.1, bt1330.2.2)) else (none))) = some (r1, r2, r3, r4, r5, r6, r7) := H
    have A39 := Aside0.mk A390
    clear A390
    replace H := Option.bind_eq_some_iff.mp H
    obtain ⟨⟨t1330, t1331, t1332⟩, A400, H⟩ := H
    replace H : (if t1306.length < 8796093022208 then (some (t1302, t1303, t1304, t1305, (t1306 ++ [(⟨t1327, t1330⟩ : S_Mark)]), t1331, t1332)) else (none)) = some (r1, r2, r3, r4, r5, r6, r7) := H
    have A40 := Aside0.mk A400
    clear A400
    by_cases c41 : t1306.length < 8796093022208
    ·
     rw [if_pos c41] at H
     have LMc41 := Aside0.mk c41
     clear c41
     obtain ⟨y1333, hy1333⟩ : ∃ y_ : List (S_Mark), y_ = (t1306 ++ [(⟨t1327, t1330⟩ : S_Mark)]) := ⟨_, rfl⟩
     replace H : (some (t1302, t1303, t1304, t1305, y1333, t1331, t1332)) = some (r1, r2, r3, r4, r5, r6, r7) := by first | (rw [hy1333]; with_reducible exact H) | (have H2_ := (Option.bind_some _ _).symm.trans H; rw [hy1333]; with_reducible exact H2_) | (have H2_ := (Option.bind_some _ _).symm.trans H; with_reducible exact H2_) | with_reducible exact H | (rw [hy1333]; exact H) | exact H
     have Ny1333 := Aside0.mk hy1333
     clear hy1333
     simp only [Option.some.injEq, Prod.mk.injEq] at H
     obtain ⟨rfl, rfl, rfl, rfl, rfl, rfl, rfl⟩ := H
     go_enter Try.func108, Try.ntmps108
     try go_wp2_with (first | ((with_reducible refine gate_dst (N := 2) rfl ?_); refine box_event ?hg (N := 2) ?hd (cs := #[.int .i64 0, .int .i64 0, .int .i64 0, .int .i64 0, .slice none 0 0]) (t := 54) ?hr ?_; (case hd => rfl); (case hg => rfl); (case hr => first | (go_simp; done) | (go_simp; rfl)); intro gb1301 hg w42 hbox hb; have n0_ := Aside0.mk (IsS_l1Cur.below (is_l1Cur_ HI0.out) hb); have n1_ := Aside0.mk (KeepBut.trans (hk_ HK.out) (KeepBut.of_below hb g none) (.inl rfl)); have n2_ := Aside0.mk (below_step (hi_ HB.out) hb); have n3_ := Aside0.mk (hbox); have n4_ := Aside0.mk ((by rw [hg]; exact (keep_size (w := w) (g := g) (row := none) (hk_ HK.out)) : w.heap.size ≤ gb1301)); have n5_ := Aside0.mk ((Nat.le_trans HW0.out (by rw [hg]; exact (keep_size (w := w) (g := g) (row := none) (hk_ HK.out)) : w.heap.size ≤ gb1301) : w0.heap.size ≤ gb1301)); have n6_ := Aside0.mk ((by rw [hg]; exact Nat.ne_of_lt (IsS_l1Cur.lt (show IsS_l1Cur w0 _ g s0_0 s0_1 s0_2 from is_l1Cur_ HI0.out)) : g ≠ gb1301)); have n7_ := Aside0.mk ((by rw [hg]; exact Nat.ne_of_gt (IsS_l1Cur.lt (show IsS_l1Cur w0 _ g s0_0 s0_1 s0_2 from is_l1Cur_ HI0.out)) : gb1301 ≠ g)); clear HI0; clear HK; clear HB; have HI0 := n0_; have HK := n1_; have HB := n2_; have BK1301 := n3_; have GW1301 := n4_; have GE1301 := n5_; have NB0_1301 := n6_; have NB1301_0 := n7_; clear n0_ n1_ n2_ n3_ n4_ n5_ n6_ n7_; clear hb hbox hg) | ((with_reducible refine gate_callee (f := 126) rfl ?_); refine goesL_ (some 5) rfl rfl Try.func126 (by kernel_rfl) rfl #[.pointer (some ⟨g, 0, none⟩)] rfl sm_ ?_; (with_reducible refine (spec_l4DrawRight.calls k g s0_0 s0_1 s0_2 t1302 t1303 t1304 t1305 t1306 t1309 t1310 w0 _ ?side1 ?side2 A2.out).mono ?_); (case side1 => repeat (first | (with_reducible first | exact HI0.out | apply IsS_l1Cur.alloc | apply IsS_l1Cur.drewN | apply IsS_l1Cur.drew | apply IsS_l1Cur.set_1 | apply IsS_l1Cur.set_2 | refine IsS_l1Cur.far ?_ NB0_1301.out _) | exact HI0.out)); (case side2 => repeat (first | (with_reducible first | exact HB.out | apply below_alloc | apply pw_below_drewN | apply below_drew1 | refine below_set ?_ (IsS_l1Cur.ge HI0.out) | refine below_set ?_ GE1301.out) | exact HB.out)); rintro e w43 ⟨v1307, rfl, ho0, hi, hb, hk⟩; refine ⟨_, rfl, ?_⟩; have n0_ := Aside0.mk (KeepBut.blk hk (g' := gb1301) (o := .cells #[.int .i64 0, .int .i64 0, .int .i64 0, .int .i64 0, .slice none 0 0] 54 (0, 0)) (bq_ BK1301.out) NB1301_0.out (by simp)); have n1_ := Aside0.mk (Kd.R_lower ho0 (keep_size (w := w) (g := g) (row := none) (hk_ HK.out))); have n2_ := Aside0.mk (KeepBut.trans (hk_ HK.out) hk (.inl rfl)); have n3_ := Aside0.mk (hb); have n4_ := Aside0.mk (hi); clear BK1301; clear HK; clear HB; clear HI0; have BK1301 := n0_; have HO1308 := n1_; have HK := n2_; have HB := n3_; have HI0 := n4_; clear n0_ n1_ n2_ n3_ n4_; (try clear hb); (try clear hb2); (try clear hk); (try clear hi); (try clear ho0)) | ((with_reducible refine gate_dst (N := 3) rfl ?_); refine box_event ?hg (N := 3) ?hd (cs := #[.int .i64 0, .int .i64 0, .int .i64 0, .int .i64 0, .slice none 0 0]) (t := 54) ?hr ?_; (case hd => rfl); (case hg => rfl); (case hr => first | (go_simp; done) | (go_simp; rfl)); intro gb1311 hg w44 hbox hb; have n0_ := Aside0.mk (Kd.R_below (rq_ HO1308.out) hb); have n1_ := Aside0.mk (IsS_l1Cur.below (is_l1Cur_ HI0.out) hb); have n2_ := Aside0.mk (bb_ BK1301.out hb); have n3_ := Aside0.mk (KeepBut.trans (hk_ HK.out) (KeepBut.of_below hb g none) (.inl rfl)); have n4_ := Aside0.mk (below_step (hi_ HB.out) hb); have n5_ := Aside0.mk (hbox); have n6_ := Aside0.mk ((by rw [hg]; exact (keep_size (w := w) (g := g) (row := none) (hk_ HK.out)) : w.heap.size ≤ gb1311)); have n7_ := Aside0.mk ((Nat.le_trans HW0.out (by rw [hg]; exact (keep_size (w := w) (g := g) (row := none) (hk_ HK.out)) : w.heap.size ≤ gb1311) : w0.heap.size ≤ gb1311)); have n8_ := Aside0.mk ((nl_ BK1301.out hg : gb1301 ≠ gb1311)); have n9_ := Aside0.mk ((ng_ BK1301.out hg : gb1311 ≠ gb1301)); have n10_ := Aside0.mk ((by rw [hg]; exact Nat.ne_of_lt (IsS_l1Cur.lt (show IsS_l1Cur w0 _ g s0_0 t1309 t1310 from is_l1Cur_ HI0.out)) : g ≠ gb1311)); have n11_ := Aside0.mk ((by rw [hg]; exact Nat.ne_of_gt (IsS_l1Cur.lt (show IsS_l1Cur w0 _ g s0_0 t1309 t1310 from is_l1Cur_ HI0.out)) : gb1311 ≠ g)); clear HO1308; clear HI0; clear BK1301; clear HK; clear HB; have HO1308 := n0_; have HI0 := n1_; have BK1301 := n2_; have HK := n3_; have HB := n4_; have BK1311 := n5_; have GW1311 := n6_; have GE1311 := n7_; have NB1301_1311 := n8_; have NB1311_1301 := n9_; have NB0_1311 := n10_; have NB1311_0 := n11_; clear n0_ n1_ n2_ n3_ n4_ n5_ n6_ n7_ n8_ n9_ n10_ n11_; clear hb hbox hg; have hnb45 := NB1311_1301.out; have hnc45 := NB1301_1311.out; have hnb46 := NB1311_0.out; have hnc46 := NB0_1311.out; have hcz47_0 : w44.cell? ⟨gb1311, 0, none⟩ = some (.int .i64 0) := (blk_cell BK1311.out 0).trans rfl; have hcz47_1 : w44.cell? ⟨gb1311, 1, none⟩ = some (.int .i64 0) := (blk_cell BK1311.out 1).trans rfl; have hcz47_2 : w44.cell? ⟨gb1311, 2, none⟩ = some (.int .i64 0) := (blk_cell BK1311.out 2).trans rfl; have hcz47_3 : w44.cell? ⟨gb1311, 3, none⟩ = some (.int .i64 0) := (blk_cell BK1311.out 3).trans rfl; have hcz47_4 : w44.cell? ⟨gb1311, 4, none⟩ = some (.slice none 0 0) := (blk_cell BK1311.out 4).trans rfl; have hfz47_0 := blk_frozen BK1311.out 0; have hfz47_1 := blk_frozen BK1311.out 1; have hfz47_2 := blk_frozen BK1311.out 2; have hfz47_3 := blk_frozen BK1311.out 3; have hfz47_4 := blk_frozen BK1311.out 4; obtain ⟨Ao48, co48, eo48⟩ := Kd.R_slice HO1308.out; subst eo48) | ((with_reducible refine gate_callee (f := 94) rfl ?_); refine goesL_ (some 7) rfl rfl Try.func94 (by kernel_rfl) rfl #[.pointer (some ⟨g, 0, none⟩), .int .i64 12] rfl sm_ ?_; (with_reducible refine (spec_l1Below.calls g s0_0 t1309 t1310 12 t1312 t1313 t1314 w0 _ ?side1 ?side2 A3.out).mono ?_); (case side1 => repeat (first | (with_reducible first | exact HI0.out | apply IsS_l1Cur.alloc | apply IsS_l1Cur.drewN | apply IsS_l1Cur.drew | apply IsS_l1Cur.set_1 | apply IsS_l1Cur.set_2 | refine IsS_l1Cur.far ?_ NB0_1301.out _ | refine IsS_l1Cur.far ?_ NB0_1311.out _) | exact HI0.out)); (case side2 => repeat (first | (with_reducible first | exact HB.out | apply below_alloc | apply pw_below_drewN | apply below_drew1 | refine below_set ?_ (IsS_l1Cur.ge HI0.out) | refine below_set ?_ GE1301.out | refine below_set ?_ GE1311.out) | exact HB.out)); rintro e w49 ⟨rfl, hi, hb, hk⟩; refine ⟨_, rfl, ?_⟩; have n0_ := Aside0.mk (KeepBut.blk hk (g' := gb1301) (o := .cells #[.int .i64 0, .int .i64 0, .int .i64 0, .int .i64 0, .slice none 0 0] 54 (0, 0)) (bf_ NB1301_1311.out BK1301.out) NB1301_0.out (by simp)); have n1_ := Aside0.mk (Kd.R_mono (Kd.R_keep (IsS_l1Cur.apart (show IsS_l1Cur w0 _ g s0_0 t1309 t1310 from is_l1Cur_ HI0.out) (rk_ HO1308.out BK1311.out) (by decide)) hk (fun _ h => h.2)) (fun _ h => h.1)); have n2_ := Aside0.mk (KeepBut.blk hk (g' := gb1311) (o := .cells #[.int .i64 t1302, .int .i64 t1303, .int .i64 t1304, .int .i64 t1305, .slice Ao48 t1306.length co48] 54 (0, 0)) (bp_ BK1311.out) NB1311_0.out (by simp)); have n3_ := Aside0.mk (KeepBut.trans (hk_ HK.out) hk (.inl rfl)); have n4_ := Aside0.mk (hb); have n5_ := Aside0.mk (hi); clear BK1301; clear HO1308; clear BK1311; clear HK; clear HB; clear HI0; have BK1301 := n0_; have HO1308 := n1_; have BK1311 := n2_; have HK := n3_; have HB := n4_; have HI0 := n5_; clear n0_ n1_ n2_ n3_ n4_ n5_; (try clear hb); (try clear hb2); (try clear hk); (try clear hi)))
     have n0_ := Aside0.mk (Kd.R_drew HO1308.out)
     have n1_ := Aside0.mk (blk_drew BK1301.out)
     have n2_ := Aside0.mk (blk_drew BK1311.out)
     have n3_ := Aside0.mk (IsS_l1Cur.drew HI0.out)
     have n4_ := Aside0.mk (keep_drew HK.out)
     have n5_ := Aside0.mk (below_drew1 HB.out)
     clear HO1308; clear BK1301
     clear BK1311; clear HI0
     clear HK; clear HB
     have HO1308 := n0_
     have BK1301 := n1_
     have BK1311 := n2_
     have HI0 := n3_
     have HK := n4_
     have HB := n5_
     clear n0_ n1_ n2_ n3_ n4_ n5_
     refine start_ (n := 11) (S := fun w' => w'.cell? ⟨gb1311, 0, none⟩ = some (.int .i64 t1302) ∧ w'.cell? ⟨gb1311, 1, none⟩ = some (.int .i64 t1303) ∧ w'.cell? ⟨gb1311, 2, none⟩ = some (.int .i64 t1304) ∧ w'.cell? ⟨gb1311, 3, none⟩ = some (.int .i64 t1305) ∧ w'.cell? ⟨gb1311, 4, none⟩ = some (.slice Ao48 t1306.length co48)) (ds := [10]) #[false, false, false, false, false, false, false, false, false, false, false] (by kernel_rfl) rfl rfl ⟨(blk_cell BK1311.out 0).trans rfl, (blk_cell BK1311.out 1).trans rfl, (blk_cell BK1311.out 2).trans rfl, (blk_cell BK1311.out 3).trans rfl, (blk_cell BK1311.out 4).trans rfl⟩ (fun hHeld => ?_); refine with_tabW spec_l4Draw.tab8 spec_l4Draw.bits8 (fun HT_ HW_ => ?_)
     generalize w49.drew = w50 at HO1308 BK1301 BK1311 HI0 HK HB hHeld ⊢
     refine pI_ 0 22 HT_ #[true, false, false, false, false, false, false, false, false, false, false] rfl rfl ?_
     refine pI_ 2 24 HT_ #[true, false, true, false, false, false, false, false, false, false, false] rfl rfl ?_
     refine pI_ 4 26 HT_ #[true, false, true, false, true, false, false, false, false, false, false] rfl rfl ?_
     refine take_ (i := 1) (N := some 23) (v := ?_) (a' := ?_) #[true, true, true, false, true, false, false, false, false, false, false] rfl rfl (take_ofW HT_.out HW_.out (by kernel_rfl)) (fun _ _ _ h => h) (Or.inl ⟨by rfl, ?_⟩) hHeld ?_ ?_
     rotate_left
     ·
      rintro w' ⟨s0, s1, s2, s3, s4⟩
      go_simp
      with_reducible rfl
     rotate_left; (focus simp only [Act.put, List.setIfInBounds_toArray, List.set_cons_zero, List.set_cons_succ, i64_w, i32_w]; rfl)
     refine one_ (i := 3) (N := some 25) #[true, true, true, true, true, false, false, false, false, false, false] rfl rfl (one_of HT_.out (by kernel_rfl)) (by decide) (fun K hK => ?_)
     refine goes_ Try.func94 (by kernel_rfl) rfl #[.pointer (some ⟨g, 0, none⟩), .int .i64 9] (by rfl) rfl rfl sm_ ?_
     with_reducible refine (spec_l1Below.calls g s0_0 t1313 t1314 9 t1327 t1328 t1329 w0 _ ?side1 ?side2 A39.out).mono ?_
     (case side1 => repeat (first | (with_reducible first | exact HI0.out | apply IsS_l1Cur.alloc | apply IsS_l1Cur.drewN | apply IsS_l1Cur.drew | apply IsS_l1Cur.set_1 | apply IsS_l1Cur.set_2 | refine IsS_l1Cur.far ?_ NB0_1301.out _ | refine IsS_l1Cur.far ?_ NB0_1311.out _) | exact HI0.out))
     (case side2 => repeat (first | (with_reducible first | exact HB.out | apply below_alloc | apply pw_below_drewN | apply below_drew1 | refine below_set ?_ (IsS_l1Cur.ge HI0.out) | refine below_set ?_ GE1301.out | refine below_set ?_ GE1311.out) | exact HB.out))
     rintro e w51 ⟨rfl, hi, hb, hk⟩
     refine ⟨_, rfl, ?_⟩
     have n0_ := Aside0.mk (KeepBut.blk hk (g' := gb1301) (o := .cells #[.int .i64 0, .int .i64 0, .int .i64 0, .int .i64 0, .slice none 0 0] 54 (0, 0)) (bq_ BK1301.out) NB1301_0.out (by simp))
     have n1_ := Aside0.mk (Kd.R_mono (Kd.R_keep (IsS_l1Cur.apart (show IsS_l1Cur w0 _ g s0_0 t1313 t1314 from is_l1Cur_ HI0.out) (rq_ HO1308.out) (by decide)) hk (fun _ h => h.2)) (fun _ h => h.1))
     have n2_ := Aside0.mk (KeepBut.blk hk (g' := gb1311) (o := .cells #[.int .i64 t1302, .int .i64 t1303, .int .i64 t1304, .int .i64 t1305, .slice Ao48 t1306.length co48] 54 (0, 0)) (bq_ BK1311.out) NB1311_0.out (by simp))
     have n3_ := Aside0.mk (KeepBut.trans (hk_ HK.out) hk (.inl rfl))
     have n4_ := Aside0.mk (hb)
     have n5_ := Aside0.mk (hi)
     clear BK1301; clear HO1308
     clear BK1311; clear HK
     clear HB; clear HI0
     have BK1301 := n0_
     have HO1308 := n1_
     have BK1311 := n2_
     have HK := n3_
     have HB := n4_
     have HI0 := n5_
     clear n0_ n1_ n2_ n3_ n4_ n5_
     (try clear hb)
     (try clear hb2)
     (try clear hk)
     (try clear hi)
     refine hK.out _ _ ⟨(blk_cell BK1311.out 0).trans rfl, (blk_cell BK1311.out 1).trans rfl, (blk_cell BK1311.out 2).trans rfl, (blk_cell BK1311.out 3).trans rfl, (blk_cell BK1311.out 4).trans rfl⟩ (fun hHeld => ?_)
     clear hK K
     refine norm_ (a' := ?_) ?_ ?_
     rotate_left
     ·
      show Act.put _ (some 25) _ = _
      simp only [Act.put, List.setIfInBounds_toArray, List.set_cons_zero, List.set_cons_succ, i64_w, i32_w]
      rfl
     refine one_ (i := 5) (N := some 27) #[true, true, true, true, true, true, false, false, false, false, false] rfl rfl (one_of HT_.out (by kernel_rfl)) (by decide) (fun K hK => ?_)
     refine goes_ Try.func94 (by kernel_rfl) rfl #[.pointer (some ⟨g, 0, none⟩), .int .i64 9] (by rfl) rfl rfl sm_ ?_
     with_reducible refine (spec_l1Below.calls g s0_0 t1328 t1329 9 t1330 t1331 t1332 w0 _ ?side1 ?side2 A40.out).mono ?_
     (case side1 => repeat (first | (with_reducible first | exact HI0.out | apply IsS_l1Cur.alloc | apply IsS_l1Cur.drewN | apply IsS_l1Cur.drew | apply IsS_l1Cur.set_1 | apply IsS_l1Cur.set_2 | refine IsS_l1Cur.far ?_ NB0_1301.out _ | refine IsS_l1Cur.far ?_ NB0_1311.out _) | exact HI0.out))
     (case side2 => repeat (first | (with_reducible first | exact HB.out | apply below_alloc | apply pw_below_drewN | apply below_drew1 | refine below_set ?_ (IsS_l1Cur.ge HI0.out) | refine below_set ?_ GE1301.out | refine below_set ?_ GE1311.out) | exact HB.out))
     rintro e w52 ⟨rfl, hi, hb, hk⟩
     refine ⟨_, rfl, ?_⟩
     have n0_ := Aside0.mk (KeepBut.blk hk (g' := gb1301) (o := .cells #[.int .i64 0, .int .i64 0, .int .i64 0, .int .i64 0, .slice none 0 0] 54 (0, 0)) (bq_ BK1301.out) NB1301_0.out (by simp))
     have n1_ := Aside0.mk (Kd.R_mono (Kd.R_keep (IsS_l1Cur.apart (show IsS_l1Cur w0 _ g s0_0 t1328 t1329 from is_l1Cur_ HI0.out) (rq_ HO1308.out) (by decide)) hk (fun _ h => h.2)) (fun _ h => h.1))
     have n2_ := Aside0.mk (KeepBut.blk hk (g' := gb1311) (o := .cells #[.int .i64 t1302, .int .i64 t1303, .int .i64 t1304, .int .i64 t1305, .slice Ao48 t1306.length co48] 54 (0, 0)) (bq_ BK1311.out) NB1311_0.out (by simp))
     have n3_ := Aside0.mk (KeepBut.trans (hk_ HK.out) hk (.inl rfl))
     have n4_ := Aside0.mk (hb)
     have n5_ := Aside0.mk (hi)
     clear BK1301; clear HO1308
     clear BK1311; clear HK
     clear HB; clear HI0
     have BK1301 := n0_
     have HO1308 := n1_
     have BK1311 := n2_
     have HK := n3_
     have HB := n4_
     have HI0 := n5_
     clear n0_ n1_ n2_ n3_ n4_ n5_
     (try clear hb)
     (try clear hb2)
     (try clear hk)
     (try clear hi)
     refine hK.out _ _ ⟨(blk_cell BK1311.out 0).trans rfl, (blk_cell BK1311.out 1).trans rfl, (blk_cell BK1311.out 2).trans rfl, (blk_cell BK1311.out 3).trans rfl, (blk_cell BK1311.out 4).trans rfl⟩ (fun hHeld => ?_)
     clear hK K
     refine norm_ (a' := ?_) ?_ ?_
     rotate_left
     ·
      show Act.put _ (some 27) _ = _
      simp only [Act.put, List.setIfInBounds_toArray, List.set_cons_zero, List.set_cons_succ, i64_w, i32_w]
      rfl
     refine pI_ 6 28 HT_ #[true, true, true, true, true, true, true, false, false, false, false] rfl rfl ?_
     refine one_ (i := 7) (N := some 29) #[true, true, true, true, true, true, true, true, false, false, false] rfl rfl (one_of HT_.out (by kernel_rfl)) (by decide) (fun K hK => ?_)
     refine value_ (w1 := ?_) (v := ?_) (by rfl) rfl ?_ ?_
     rotate_left 2
     ·
      go_simp
      constructor
      ·
       rfl
      ·
       rfl
     refine hK.out _ _ ⟨(blk_cell (blk_alloc BK1311.out _) 0).trans rfl, (blk_cell (blk_alloc BK1311.out _) 1).trans rfl, (blk_cell (blk_alloc BK1311.out _) 2).trans rfl, (blk_cell (blk_alloc BK1311.out _) 3).trans rfl, (blk_cell (blk_alloc BK1311.out _) 4).trans rfl⟩ (fun hHeld => ?_)
     clear hK K
     refine norm_ (a' := ?_) ?_ ?_
     rotate_left
     ·
      show Act.put _ (some 29) _ = _
      simp only [Act.put, List.setIfInBounds_toArray, List.set_cons_zero, List.set_cons_succ, i64_w, i32_w]
      rfl
     refine one_ (i := 8) (N := some 30) #[true, true, true, true, true, true, true, true, true, false, false] rfl rfl (one_of HT_.out (by kernel_rfl)) (by decide) (fun K hK => ?_)
     refine Kd.R_append_step k_Mark w.heap.size (by rfl) (.tmp 23) (.tmp 29) 52 118 (.agg #[(.int .i64 0), (.int .i64 0)]) 16 rfl Try.underlying52 info118 rfl (by decide) (by omega) (.slice Ao48 t1306.length co48) t1306 (⟨t1327, t1330⟩ : S_Mark) [.int .i64 t1327, .int .i64 t1330] (fun _ => True) (fun _ => False) rfl rfl ?aP (fun _ hk => hk.elim) ?aF ?aO (Below.refl _ _) ?aS ?aL ?_
     (case aP => exact k_Mark_mkM _ _ _ (⟨t1327, t1330⟩ : S_Mark))
     (case aF => exact (fun _ _ => trivial))
     (case aO => exact (rq_ HO1308.out))
     (case aS => exact (keep_size (w := w) (g := g) (row := none) (hk_ HK.out)))
     (case aL => have := LMc41.out; omega)
     intro v1334 w53 ho hb hg hat
     rw [← Ny1333.out] at ho
     have n0_ := Aside0.mk (IsS_l1Cur.grown (is_l1Cur_ HI0.out) hg (IsS_l1Cur.own_ne HI0.out HO1308.out (by decide)))
     have n1_ := Aside0.mk (blk_grown (g := gb1301) (o := .cells #[.int .i64 0, .int .i64 0, .int .i64 0, .int .i64 0, .slice none 0 0] 54 (0, 0)) (bq_ BK1301.out) hg (Kd.R_ne HO1308.out BK1301.out (by decide)))
     have n2_ := Aside0.mk (blk_grown (g := gb1311) (o := .cells #[.int .i64 t1302, .int .i64 t1303, .int .i64 t1304, .int .i64 t1305, .slice Ao48 t1306.length co48] 54 (0, 0)) (bq_ BK1311.out) hg (Kd.R_ne HO1308.out BK1311.out (by decide)))
     have n3_ := Aside0.mk (below_weaken (hi_ HB.out) HL.out hb)
     have n4_ := Aside0.mk (KeepBut.trans (hk_ HK.out) (KeepBut.of_grown hg g) (Kd.R_base2 HO1308.out))
     have n5_ := Aside0.mk (ho)
     clear HI0; clear BK1301
     clear BK1311; clear HB
     clear HK; clear HO1308
     have HI0 := n0_
     have BK1301 := n1_
     have BK1311 := n2_
     have HB := n3_
     have HK := n4_
     have HO1335 := n5_
     clear n0_ n1_ n2_ n3_ n4_ n5_; clear ho hb hg hat
     obtain ⟨Ao54, co54, eo54⟩ := Kd.R_slice HO1335.out
     (first | subst eo54 | (injection eo54 with f1_ f2_ f3_; have f4_ := f1_.symm; have f5_ := f3_.symm; clear f1_ f2_ f3_; subst f4_; subst f5_))
     refine hK.out _ _ ⟨(blk_cell BK1311.out 0).trans rfl, (blk_cell BK1311.out 1).trans rfl, (blk_cell BK1311.out 2).trans rfl, (blk_cell BK1311.out 3).trans rfl, (blk_cell BK1311.out 4).trans rfl⟩ (fun hHeld => ?_)
     clear hK K
     refine norm_ (a' := ?_) ?_ ?_
     rotate_left
     ·
      show Act.put _ (some 30) _ = _
      simp only [Act.put, List.setIfInBounds_toArray, List.set_cons_zero, List.set_cons_succ, i64_w, i32_w]
      rfl
     refine pI_ 9 31 HT_ #[true, true, true, true, true, true, true, true, true, true, false] rfl rfl ?_
     refine last_ (i := 10) (N := none) #[true, true, true, true, true, true, true, true, true, true, true] rfl rfl (one_of HT_.out (by kernel_rfl)) (by decide) (fun K hK => ?_)
     have hs55 : w53.cell? ⟨gb1311, 4, none⟩ = some (.slice Ao48 t1306.length co48) := (blk_cell BK1311.out 4).trans rfl
     have hfs55 := blk_frozen BK1311.out 4
     have hns55_0 := NB1301_1311.out
     have hms55_0 := NB1311_1301.out
     refine skip_ (w1 := ?_) (by rfl) rfl ?_ ?_
     rotate_left; (focus go_simp; rfl)
     refine hK.out _ _ ?_
     clear hK K
     refine done_ (done_of HT_.out (by kernel_rfl)) ?_
     have hcz56_0 : w53.cell? ⟨gb1311, 0, none⟩ = some (.int .i64 t1302) := (blk_cell BK1311.out 0).trans rfl
     have hcz56_1 : w53.cell? ⟨gb1311, 1, none⟩ = some (.int .i64 t1303) := (blk_cell BK1311.out 1).trans rfl
     have hcz56_2 : w53.cell? ⟨gb1311, 2, none⟩ = some (.int .i64 t1304) := (blk_cell BK1311.out 2).trans rfl
     have hcz56_3 : w53.cell? ⟨gb1311, 3, none⟩ = some (.int .i64 t1305) := (blk_cell BK1311.out 3).trans rfl
     have hcz56_4 : w53.cell? ⟨gb1311, 4, none⟩ = some (.slice Ao48 t1306.length co48) := (blk_cell BK1311.out 4).trans rfl
     have hfz56_0 := blk_frozen BK1311.out 0
     have hfz56_1 := blk_frozen BK1311.out 1
     have hfz56_2 := blk_frozen BK1311.out 2
     have hfz56_3 := blk_frozen BK1311.out 3
     have hfz56_4 := blk_frozen BK1311.out 4
     have hnb57 := NB1301_0.out
     have hnc57 := NB0_1301.out
     have hcz58_0 : w53.cell? ⟨gb1301, 0, none⟩ = some (.int .i64 0) := (blk_cell BK1301.out 0).trans rfl
     have hcz58_1 : w53.cell? ⟨gb1301, 1, none⟩ = some (.int .i64 0) := (blk_cell BK1301.out 1).trans rfl
     have hcz58_2 : w53.cell? ⟨gb1301, 2, none⟩ = some (.int .i64 0) := (blk_cell BK1301.out 2).trans rfl
     have hcz58_3 : w53.cell? ⟨gb1301, 3, none⟩ = some (.int .i64 0) := (blk_cell BK1301.out 3).trans rfl
     have hcz58_4 : w53.cell? ⟨gb1301, 4, none⟩ = some (.slice none 0 0) := (blk_cell BK1301.out 4).trans rfl
     have hfz58_0 := blk_frozen BK1301.out 0
     have hfz58_1 := blk_frozen BK1301.out 1
     have hfz58_2 := blk_frozen BK1301.out 2
     have hfz58_3 := blk_frozen BK1301.out 3
     have hfz58_4 := blk_frozen BK1301.out 4
     try go_wp2
     refine bodyPost_ret (results_cell_row rfl _ _ gb1301 54 #[.int .i64 t1302, .int .i64 t1303, .int .i64 t1304, .int .i64 t1305, .slice Ao54 y1333.length co54] (0, 0) _ rfl (by (with_reducible repeat (first | refine blk_drewN ?_ _ | refine blk_drew ?_ | refine blk_alloc ?_ _)); refine blk_put (cs := #[.int .i64 t1302, .int .i64 t1303, .int .i64 t1304, .int .i64 t1305, .slice none 0 0]) ?_ 4 _ rfl; (with_reducible repeat (first | refine blk_drewN ?_ _ | refine blk_drew ?_ | refine blk_alloc ?_ _)); refine blk_put (cs := #[.int .i64 t1302, .int .i64 t1303, .int .i64 t1304, .int .i64 0, .slice none 0 0]) ?_ 3 _ rfl; (with_reducible repeat (first | refine blk_drewN ?_ _ | refine blk_drew ?_ | refine blk_alloc ?_ _)); refine blk_put (cs := #[.int .i64 t1302, .int .i64 t1303, .int .i64 0, .int .i64 0, .slice none 0 0]) ?_ 2 _ rfl; (with_reducible repeat (first | refine blk_drewN ?_ _ | refine blk_drew ?_ | refine blk_alloc ?_ _)); refine blk_put (cs := #[.int .i64 t1302, .int .i64 0, .int .i64 0, .int .i64 0, .slice none 0 0]) ?_ 1 _ rfl; (with_reducible repeat (first | refine blk_drewN ?_ _ | refine blk_drew ?_ | refine blk_alloc ?_ _)); refine blk_put (cs := #[.int .i64 0, .int .i64 0, .int .i64 0, .int .i64 0, .slice none 0 0]) ?_ 0 _ rfl; (with_reducible repeat (first | refine blk_drewN ?_ _ | refine blk_drew ?_ | refine blk_alloc ?_ _)); refine blk_far ?_ NB1301_1311.out _; (with_reducible repeat (first | refine blk_drewN ?_ _ | refine blk_drew ?_ | refine blk_alloc ?_ _)); exact BK1301.out) Try.underlying54 rfl (by kernel_rfl)) rfl ?_
     exact ⟨_, er_, by (with_reducible repeat (first | apply Kd.R_alloc | apply Kd.R_drewN | apply Kd.R_drew)); exact Kd.R_mono (Kd.R_far (p := ⟨gb1301, 4, none⟩) (Kd.R_far (p := ⟨gb1301, 3, none⟩) (Kd.R_far (p := ⟨gb1301, 2, none⟩) (Kd.R_far (p := ⟨gb1301, 1, none⟩) (Kd.R_far (p := ⟨gb1301, 0, none⟩) (Kd.R_far (p := ⟨gb1311, 4, none⟩) (Kd.R_types (Kd.R_types HO1335.out BK1311.out (by decide)) BK1301.out (by decide)) (fun _ hk => hk.1.2) (.slice Ao54 y1333.length co54)) (fun _ hk => hk.2) (.int .i64 t1302)) (fun _ hk => hk.2) (.int .i64 t1303)) (fun _ hk => hk.2) (.int .i64 t1304)) (fun _ hk => hk.2) (.int .i64 t1305)) (fun _ hk => hk.2) (.slice Ao54 y1333.length co54)) (fun _ hk => trivial), is_l1Cur_ HI0.out, by repeat (first | (with_reducible first | exact HB.out | apply below_alloc | apply pw_below_drewN | apply below_drew1 | refine below_set ?_ (IsS_l1Cur.ge HI0.out) | refine below_set ?_ GE1301.out | refine below_set ?_ GE1311.out) | exact HB.out), by repeat (first | (with_reducible first | exact HK.out | apply KeepBut.set_ | apply keep_drewN | apply keep_drew | apply keep_alloc | refine keep_far ?_ GW1301.out _ | refine keep_far ?_ GW1311.out _) | exact HK.out)⟩
    ·
     rw [if_neg c41] at H
     exact absurd H (by simp)
   ·
    rw [if_neg c38] at H
    have c38b0 : (t1312 == 2) = false := beq_eq_false_iff_ne.mpr c38
    have c38b1 : (t1312 != 2) = true := bne_iff_ne.mpr c38
    by_cases c59 : t1312 = 3
    ·
     rw [if_pos c59] at H
     have c59b0 : (t1312 == 3) = true := beq_iff_eq.mpr c59
     have c59b1 : (t1312 != 3) = false := bne_eq_false_iff_eq.mpr c59
     clear c59
     obtain ⟨y1336, hy1336⟩ : ∃ y_ : List Int, y_ = (([(-1), 3, 4] : List Int)) := ⟨_, rfl⟩
     replace H : ((spec_l1PickInt.f s0_0 t1313 t1314 y1336).bind fun bt1339 => (some (bt1339.1, t1303, t1304, t1305, t1306, bt1339.2.1, bt1339.2.2))) = some (r1, r2, r3, r4, r5, r6, r7) := by first | (rw [hy1336]; with_reducible exact H) | (have H2_ := (Option.bind_some _ _).symm.trans H; rw [hy1336]; with_reducible exact H2_) | (have H2_ := (Option.bind_some _ _).symm.trans H; with_reducible exact H2_) | with_reducible exact H | (rw [hy1336]; exact H) | exact H
     have Ny1336 := Aside0.mk hy1336
     clear hy1336
     replace H := Option.bind_eq_some_iff.mp H
     obtain ⟨⟨t1339, t1340, t1341⟩, A600, H⟩ := H
     replace H : (some (t1339, t1303, t1304, t1305, t1306, t1340, t1341)) = some (r1, r2, r3, r4, r5, r6, r7) := H
     have A60 := Aside0.mk A600
     clear A600
     simp only [Option.some.injEq, Prod.mk.injEq] at H
     obtain ⟨rfl, rfl, rfl, rfl, rfl, rfl, rfl⟩ := H
     go_enter Try.func108, Try.ntmps108
     go_wp2_with (first | ((with_reducible refine gate_dst (N := 2) rfl ?_); refine box_event ?hg (N := 2) ?hd (cs := #[.int .i64 0, .int .i64 0, .int .i64 0, .int .i64 0, .slice none 0 0]) (t := 54) ?hr ?_; (case hd => rfl); (case hg => rfl); (case hr => first | (go_simp; done) | (go_simp; rfl)); intro gb1301 hg w61 hbox hb; have n0_ := Aside0.mk (IsS_l1Cur.below (is_l1Cur_ HI0.out) hb); have n1_ := Aside0.mk (KeepBut.trans (hk_ HK.out) (KeepBut.of_below hb g none) (.inl rfl)); have n2_ := Aside0.mk (below_step (hi_ HB.out) hb); have n3_ := Aside0.mk (hbox); have n4_ := Aside0.mk ((by rw [hg]; exact (keep_size (w := w) (g := g) (row := none) (hk_ HK.out)) : w.heap.size ≤ gb1301)); have n5_ := Aside0.mk ((Nat.le_trans HW0.out (by rw [hg]; exact (keep_size (w := w) (g := g) (row := none) (hk_ HK.out)) : w.heap.size ≤ gb1301) : w0.heap.size ≤ gb1301)); have n6_ := Aside0.mk ((by rw [hg]; exact Nat.ne_of_lt (IsS_l1Cur.lt (show IsS_l1Cur w0 _ g s0_0 s0_1 s0_2 from is_l1Cur_ HI0.out)) : g ≠ gb1301)); have n7_ := Aside0.mk ((by rw [hg]; exact Nat.ne_of_gt (IsS_l1Cur.lt (show IsS_l1Cur w0 _ g s0_0 s0_1 s0_2 from is_l1Cur_ HI0.out)) : gb1301 ≠ g)); clear HI0; clear HK; clear HB; have HI0 := n0_; have HK := n1_; have HB := n2_; have BK1301 := n3_; have GW1301 := n4_; have GE1301 := n5_; have NB0_1301 := n6_; have NB1301_0 := n7_; clear n0_ n1_ n2_ n3_ n4_ n5_ n6_ n7_; clear hb hbox hg) | ((with_reducible refine gate_callee (f := 126) rfl ?_); refine goesL_ (some 5) rfl rfl Try.func126 (by kernel_rfl) rfl #[.pointer (some ⟨g, 0, none⟩)] rfl sm_ ?_; (with_reducible refine (spec_l4DrawRight.calls k g s0_0 s0_1 s0_2 t1302 t1303 t1304 t1305 t1306 t1309 t1310 w0 _ ?side1 ?side2 A2.out).mono ?_); (case side1 => repeat (first | (with_reducible first | exact HI0.out | apply IsS_l1Cur.alloc | apply IsS_l1Cur.drewN | apply IsS_l1Cur.drew | apply IsS_l1Cur.set_1 | apply IsS_l1Cur.set_2 | refine IsS_l1Cur.far ?_ NB0_1301.out _) | exact HI0.out)); (case side2 => repeat (first | (with_reducible first | exact HB.out | apply below_alloc | apply pw_below_drewN | apply below_drew1 | refine below_set ?_ (IsS_l1Cur.ge HI0.out) | refine below_set ?_ GE1301.out) | exact HB.out)); rintro e w62 ⟨v1307, rfl, ho0, hi, hb, hk⟩; refine ⟨_, rfl, ?_⟩; have n0_ := Aside0.mk (KeepBut.blk hk (g' := gb1301) (o := .cells #[.int .i64 0, .int .i64 0, .int .i64 0, .int .i64 0, .slice none 0 0] 54 (0, 0)) (bq_ BK1301.out) NB1301_0.out (by simp)); have n1_ := Aside0.mk (Kd.R_lower ho0 (keep_size (w := w) (g := g) (row := none) (hk_ HK.out))); have n2_ := Aside0.mk (KeepBut.trans (hk_ HK.out) hk (.inl rfl)); have n3_ := Aside0.mk (hb); have n4_ := Aside0.mk (hi); clear BK1301; clear HK; clear HB; clear HI0; have BK1301 := n0_; have HO1308 := n1_; have HK := n2_; have HB := n3_; have HI0 := n4_; clear n0_ n1_ n2_ n3_ n4_; (try clear hb); (try clear hb2); (try clear hk); (try clear hi); (try clear ho0)) | ((with_reducible refine gate_dst (N := 3) rfl ?_); refine box_event ?hg (N := 3) ?hd (cs := #[.int .i64 0, .int .i64 0, .int .i64 0, .int .i64 0, .slice none 0 0]) (t := 54) ?hr ?_; (case hd => rfl); (case hg => rfl); (case hr => first | (go_simp; done) | (go_simp; rfl)); intro gb1311 hg w63 hbox hb; have n0_ := Aside0.mk (Kd.R_below (rq_ HO1308.out) hb); have n1_ := Aside0.mk (IsS_l1Cur.below (is_l1Cur_ HI0.out) hb); have n2_ := Aside0.mk (bb_ BK1301.out hb); have n3_ := Aside0.mk (KeepBut.trans (hk_ HK.out) (KeepBut.of_below hb g none) (.inl rfl)); have n4_ := Aside0.mk (below_step (hi_ HB.out) hb); have n5_ := Aside0.mk (hbox); have n6_ := Aside0.mk ((by rw [hg]; exact (keep_size (w := w) (g := g) (row := none) (hk_ HK.out)) : w.heap.size ≤ gb1311)); have n7_ := Aside0.mk ((Nat.le_trans HW0.out (by rw [hg]; exact (keep_size (w := w) (g := g) (row := none) (hk_ HK.out)) : w.heap.size ≤ gb1311) : w0.heap.size ≤ gb1311)); have n8_ := Aside0.mk ((nl_ BK1301.out hg : gb1301 ≠ gb1311)); have n9_ := Aside0.mk ((ng_ BK1301.out hg : gb1311 ≠ gb1301)); have n10_ := Aside0.mk ((by rw [hg]; exact Nat.ne_of_lt (IsS_l1Cur.lt (show IsS_l1Cur w0 _ g s0_0 t1309 t1310 from is_l1Cur_ HI0.out)) : g ≠ gb1311)); have n11_ := Aside0.mk ((by rw [hg]; exact Nat.ne_of_gt (IsS_l1Cur.lt (show IsS_l1Cur w0 _ g s0_0 t1309 t1310 from is_l1Cur_ HI0.out)) : gb1311 ≠ g)); clear HO1308; clear HI0; clear BK1301; clear HK; clear HB; have HO1308 := n0_; have HI0 := n1_; have BK1301 := n2_; have HK := n3_; have HB := n4_; have BK1311 := n5_; have GW1311 := n6_; have GE1311 := n7_; have NB1301_1311 := n8_; have NB1311_1301 := n9_; have NB0_1311 := n10_; have NB1311_0 := n11_; clear n0_ n1_ n2_ n3_ n4_ n5_ n6_ n7_ n8_ n9_ n10_ n11_; clear hb hbox hg; have hnb64 := NB1311_1301.out; have hnc64 := NB1301_1311.out; have hnb65 := NB1311_0.out; have hnc65 := NB0_1311.out; have hcz66_0 : w63.cell? ⟨gb1311, 0, none⟩ = some (.int .i64 0) := (blk_cell BK1311.out 0).trans rfl; have hcz66_1 : w63.cell? ⟨gb1311, 1, none⟩ = some (.int .i64 0) := (blk_cell BK1311.out 1).trans rfl; have hcz66_2 : w63.cell? ⟨gb1311, 2, none⟩ = some (.int .i64 0) := (blk_cell BK1311.out 2).trans rfl; have hcz66_3 : w63.cell? ⟨gb1311, 3, none⟩ = some (.int .i64 0) := (blk_cell BK1311.out 3).trans rfl; have hcz66_4 : w63.cell? ⟨gb1311, 4, none⟩ = some (.slice none 0 0) := (blk_cell BK1311.out 4).trans rfl; have hfz66_0 := blk_frozen BK1311.out 0; have hfz66_1 := blk_frozen BK1311.out 1; have hfz66_2 := blk_frozen BK1311.out 2; have hfz66_3 := blk_frozen BK1311.out 3; have hfz66_4 := blk_frozen BK1311.out 4; obtain ⟨Ao67, co67, eo67⟩ := Kd.R_slice HO1308.out; subst eo67) | ((with_reducible refine gate_callee (f := 94) rfl ?_); refine goesL_ (some 7) rfl rfl Try.func94 (by kernel_rfl) rfl #[.pointer (some ⟨g, 0, none⟩), .int .i64 12] rfl sm_ ?_; (with_reducible refine (spec_l1Below.calls g s0_0 t1309 t1310 12 t1312 t1313 t1314 w0 _ ?side1 ?side2 A3.out).mono ?_); (case side1 => repeat (first | (with_reducible first | exact HI0.out | apply IsS_l1Cur.alloc | apply IsS_l1Cur.drewN | apply IsS_l1Cur.drew | apply IsS_l1Cur.set_1 | apply IsS_l1Cur.set_2 | refine IsS_l1Cur.far ?_ NB0_1301.out _ | refine IsS_l1Cur.far ?_ NB0_1311.out _) | exact HI0.out)); (case side2 => repeat (first | (with_reducible first | exact HB.out | apply below_alloc | apply pw_below_drewN | apply below_drew1 | refine below_set ?_ (IsS_l1Cur.ge HI0.out) | refine below_set ?_ GE1301.out | refine below_set ?_ GE1311.out) | exact HB.out)); rintro e w68 ⟨rfl, hi, hb, hk⟩; refine ⟨_, rfl, ?_⟩; have n0_ := Aside0.mk (KeepBut.blk hk (g' := gb1301) (o := .cells #[.int .i64 0, .int .i64 0, .int .i64 0, .int .i64 0, .slice none 0 0] 54 (0, 0)) (bf_ NB1301_1311.out BK1301.out) NB1301_0.out (by simp)); have n1_ := Aside0.mk (Kd.R_mono (Kd.R_keep (IsS_l1Cur.apart (show IsS_l1Cur w0 _ g s0_0 t1309 t1310 from is_l1Cur_ HI0.out) (rk_ HO1308.out BK1311.out) (by decide)) hk (fun _ h => h.2)) (fun _ h => h.1)); have n2_ := Aside0.mk (KeepBut.blk hk (g' := gb1311) (o := .cells #[.int .i64 t1302, .int .i64 t1303, .int .i64 t1304, .int .i64 t1305, .slice Ao67 t1306.length co67] 54 (0, 0)) (bp_ BK1311.out) NB1311_0.out (by simp)); have n3_ := Aside0.mk (KeepBut.trans (hk_ HK.out) hk (.inl rfl)); have n4_ := Aside0.mk (hb); have n5_ := Aside0.mk (hi); clear BK1301; clear HO1308; clear BK1311; clear HK; clear HB; clear HI0; have BK1301 := n0_; have HO1308 := n1_; have BK1311 := n2_; have HK := n3_; have HB := n4_; have HI0 := n5_; clear n0_ n1_ n2_ n3_ n4_ n5_; (try clear hb); (try clear hb2); (try clear hk); (try clear hi)) | ((with_reducible refine gate_dst (N := 35) rfl ?_); refine Kd.R_lit (Kd.int .i64) _ 3 ?hg (N := 35) ?hd (xs := ([(-1), 3, 4] : List Int)) (inner := [.int .i64 (-1), .int .i64 3, .int .i64 4]) (ok := fun _ => True) (okp := fun _ => True) ?hr ?hp (fun _ hk => hk) trivial (Below.refl _ _) (Nat.le_refl _) (by simp) ?_; (case hd => rfl); (case hg => rfl); (case hr => first | (go_simp; done) | (go_simp; rfl)); (case hp => exact (Reps.one (show Kd.M (Kd.int .i64) _ _ _ (-1) [.int .i64 (-1)] from rfl) (Reps.one (show Kd.M (Kd.int .i64) _ _ _ 3 [.int .i64 3] from rfl) (Reps.one (show Kd.M (Kd.int .i64) _ _ _ 4 [.int .i64 4] from rfl) (Reps.none _ _))))); intro v1337 w69 ho70 hb hg_ hnew_; clear hg_ hnew_; (first | rw [← Ny1336.out] at ho70 | (simp only [Int.reduceToNat] at ho70; rw [← Ny1336.out] at ho70)); have n0_ := Aside0.mk (Kd.R_below (rq_ HO1308.out) hb); have n1_ := Aside0.mk (Kd.R_lower ho70 (keep_size (w := w) (g := g) (row := none) (hk_ HK.out))); have n2_ := Aside0.mk (IsS_l1Cur.below (is_l1Cur_ HI0.out) hb); have n3_ := Aside0.mk (bb_ BK1301.out hb); have n4_ := Aside0.mk (bb_ BK1311.out hb); have n5_ := Aside0.mk (KeepBut.trans (hk_ HK.out) (KeepBut.of_below hb g none) (.inl rfl)); have n6_ := Aside0.mk (below_step (hi_ HB.out) hb); clear HO1308; clear HI0; clear BK1301; clear BK1311; clear HK; clear HB; have HO1308 := n0_; have HO1338 := n1_; have HI0 := n2_; have BK1301 := n3_; have BK1311 := n4_; have HK := n5_; have HB := n6_; clear n0_ n1_ n2_ n3_ n4_ n5_ n6_; clear hb ho70; obtain ⟨Ao71, co71, eo71⟩ := Kd.R_slice HO1338.out; subst eo71) | ((with_reducible refine gate_callee (f := 89) rfl ?_); refine goesL_ (some 36) rfl rfl Try.func89 (by kernel_rfl) rfl #[.pointer (some ⟨g, 0, none⟩), .slice Ao71 y1336.length co71] rfl sm_ ?_; (with_reducible refine (spec_l1PickInt.calls g s0_0 t1313 t1314 _ _ y1336 t1339 t1340 t1341 w0 _ ?side1 ?side2 ?side3 ?side4 ?side5 A60.out).mono ?_); (case side1 => repeat (first | (with_reducible first | exact HI0.out | apply IsS_l1Cur.alloc | apply IsS_l1Cur.drewN | apply IsS_l1Cur.drew | apply IsS_l1Cur.set_1 | apply IsS_l1Cur.set_2 | refine IsS_l1Cur.far ?_ NB0_1301.out _ | refine IsS_l1Cur.far ?_ NB0_1311.out _) | exact HI0.out)); (case side2 => repeat (first | (with_reducible first | exact HB.out | apply below_alloc | apply pw_below_drewN | apply below_drew1 | refine below_set ?_ (IsS_l1Cur.ge HI0.out) | refine below_set ?_ GE1301.out | refine below_set ?_ GE1311.out) | exact HB.out)); (case side3 => repeat (first | exact (Kd.R_reads' HO1338.out).2.2 | (with_reducible refine Kd.C_alloc ?_ _) | (with_reducible refine Kd.C_drewN ?_ _) | (with_reducible refine Kd.C_drew ?_))); (case side4 => exact (Kd.R_reads' HO1338.out).2.1); (case side5 => exact far_slice (IsS_l1Cur.own_ne HI0.out HO1338.out (by decide))); rintro e w72 ⟨rfl, hi, hb, hk⟩; refine ⟨_, rfl, ?_⟩; have n0_ := Aside0.mk (KeepBut.blk hk (g' := gb1301) (o := .cells #[.int .i64 0, .int .i64 0, .int .i64 0, .int .i64 0, .slice none 0 0] 54 (0, 0)) (bq_ BK1301.out) NB1301_0.out (by simp)); have n1_ := Aside0.mk (Kd.R_mono (Kd.R_keep (IsS_l1Cur.apart (show IsS_l1Cur w0 _ g s0_0 t1313 t1314 from is_l1Cur_ HI0.out) (rq_ HO1308.out) (by decide)) hk (fun _ h => h.2)) (fun _ h => h.1)); have n2_ := Aside0.mk (KeepBut.blk hk (g' := gb1311) (o := .cells #[.int .i64 t1302, .int .i64 t1303, .int .i64 t1304, .int .i64 t1305, .slice Ao67 t1306.length co67] 54 (0, 0)) (bq_ BK1311.out) NB1311_0.out (by simp)); have n3_ := Aside0.mk (Kd.R_mono (Kd.R_keep (IsS_l1Cur.apart (show IsS_l1Cur w0 _ g s0_0 t1313 t1314 from is_l1Cur_ HI0.out) (rq_ HO1338.out) (by decide)) hk (fun _ h => h.2)) (fun _ h => h.1)); have n4_ := Aside0.mk (KeepBut.trans (hk_ HK.out) hk (.inl rfl)); have n5_ := Aside0.mk (hb); have n6_ := Aside0.mk (hi); clear BK1301; clear HO1308; clear BK1311; clear HO1338; clear HK; clear HB; clear HI0; have BK1301 := n0_; have HO1308 := n1_; have BK1311 := n2_; have HO1338 := n3_; have HK := n4_; have HB := n5_; have HI0 := n6_; clear n0_ n1_ n2_ n3_ n4_ n5_ n6_; (try clear hb); (try clear hb2); (try clear hk); (try clear hi); have hcz73_0 : w72.cell? ⟨gb1311, 0, none⟩ = some (.int .i64 t1302) := (blk_cell BK1311.out 0).trans rfl; have hcz73_1 : w72.cell? ⟨gb1311, 1, none⟩ = some (.int .i64 t1303) := (blk_cell BK1311.out 1).trans rfl; have hcz73_2 : w72.cell? ⟨gb1311, 2, none⟩ = some (.int .i64 t1304) := (blk_cell BK1311.out 2).trans rfl; have hcz73_3 : w72.cell? ⟨gb1311, 3, none⟩ = some (.int .i64 t1305) := (blk_cell BK1311.out 3).trans rfl; have hcz73_4 : w72.cell? ⟨gb1311, 4, none⟩ = some (.slice Ao67 t1306.length co67) := (blk_cell BK1311.out 4).trans rfl; have hfz73_0 := blk_frozen BK1311.out 0; have hfz73_1 := blk_frozen BK1311.out 1; have hfz73_2 := blk_frozen BK1311.out 2; have hfz73_3 := blk_frozen BK1311.out 3; have hfz73_4 := blk_frozen BK1311.out 4; have hnb74 := NB1301_0.out; have hnc74 := NB0_1301.out; have hcz75_0 : w72.cell? ⟨gb1301, 0, none⟩ = some (.int .i64 0) := (blk_cell BK1301.out 0).trans rfl; have hcz75_1 : w72.cell? ⟨gb1301, 1, none⟩ = some (.int .i64 0) := (blk_cell BK1301.out 1).trans rfl; have hcz75_2 : w72.cell? ⟨gb1301, 2, none⟩ = some (.int .i64 0) := (blk_cell BK1301.out 2).trans rfl; have hcz75_3 : w72.cell? ⟨gb1301, 3, none⟩ = some (.int .i64 0) := (blk_cell BK1301.out 3).trans rfl; have hcz75_4 : w72.cell? ⟨gb1301, 4, none⟩ = some (.slice none 0 0) := (blk_cell BK1301.out 4).trans rfl; have hfz75_0 := blk_frozen BK1301.out 0; have hfz75_1 := blk_frozen BK1301.out 1; have hfz75_2 := blk_frozen BK1301.out 2; have hfz75_3 := blk_frozen BK1301.out 3; have hfz75_4 := blk_frozen BK1301.out 4))
     refine bodyPost_ret (results_cell_row rfl _ _ gb1301 54 #[.int .i64 t1339, .int .i64 t1303, .int .i64 t1304, .int .i64 t1305, .slice Ao67 t1306.length co67] (0, 0) _ rfl (by (with_reducible repeat (first | refine blk_drewN ?_ _ | refine blk_drew ?_ | refine blk_alloc ?_ _)); refine blk_put (cs := #[.int .i64 t1339, .int .i64 t1303, .int .i64 t1304, .int .i64 t1305, .slice none 0 0]) ?_ 4 _ rfl; (with_reducible repeat (first | refine blk_drewN ?_ _ | refine blk_drew ?_ | refine blk_alloc ?_ _)); refine blk_put (cs := #[.int .i64 t1339, .int .i64 t1303, .int .i64 t1304, .int .i64 0, .slice none 0 0]) ?_ 3 _ rfl; (with_reducible repeat (first | refine blk_drewN ?_ _ | refine blk_drew ?_ | refine blk_alloc ?_ _)); refine blk_put (cs := #[.int .i64 t1339, .int .i64 t1303, .int .i64 0, .int .i64 0, .slice none 0 0]) ?_ 2 _ rfl; (with_reducible repeat (first | refine blk_drewN ?_ _ | refine blk_drew ?_ | refine blk_alloc ?_ _)); refine blk_put (cs := #[.int .i64 t1339, .int .i64 0, .int .i64 0, .int .i64 0, .slice none 0 0]) ?_ 1 _ rfl; (with_reducible repeat (first | refine blk_drewN ?_ _ | refine blk_drew ?_ | refine blk_alloc ?_ _)); refine blk_put (cs := #[.int .i64 0, .int .i64 0, .int .i64 0, .int .i64 0, .slice none 0 0]) ?_ 0 _ rfl; (with_reducible repeat (first | refine blk_drewN ?_ _ | refine blk_drew ?_ | refine blk_alloc ?_ _)); refine blk_far ?_ NB1301_1311.out _; (with_reducible repeat (first | refine blk_drewN ?_ _ | refine blk_drew ?_ | refine blk_alloc ?_ _)); exact BK1301.out) Try.underlying54 rfl (by kernel_rfl)) rfl ?_
     exact ⟨_, er_, by (with_reducible repeat (first | apply Kd.R_alloc | apply Kd.R_drewN | apply Kd.R_drew)); exact Kd.R_mono (Kd.R_far (p := ⟨gb1301, 4, none⟩) (Kd.R_far (p := ⟨gb1301, 3, none⟩) (Kd.R_far (p := ⟨gb1301, 2, none⟩) (Kd.R_far (p := ⟨gb1301, 1, none⟩) (Kd.R_far (p := ⟨gb1301, 0, none⟩) (Kd.R_far (p := ⟨gb1311, 0, none⟩) (Kd.R_types (Kd.R_types HO1308.out BK1311.out (by decide)) BK1301.out (by decide)) (fun _ hk => hk.1.2) (.int .i64 t1339)) (fun _ hk => hk.2) (.int .i64 t1339)) (fun _ hk => hk.2) (.int .i64 t1303)) (fun _ hk => hk.2) (.int .i64 t1304)) (fun _ hk => hk.2) (.int .i64 t1305)) (fun _ hk => hk.2) (.slice Ao67 t1306.length co67)) (fun _ hk => trivial), is_l1Cur_ HI0.out, by repeat (first | (with_reducible first | exact HB.out | apply below_alloc | apply pw_below_drewN | apply below_drew1 | refine below_set ?_ (IsS_l1Cur.ge HI0.out) | refine below_set ?_ GE1301.out | refine below_set ?_ GE1311.out) | exact HB.out), by repeat (first | (with_reducible first | exact HK.out | apply KeepBut.set_ | apply keep_drewN | apply keep_drew | apply keep_alloc | refine keep_far ?_ GW1301.out _ | refine keep_far ?_ GW1311.out _) | exact HK.out)⟩
    ·
     rw [if_neg c59] at H
     have c59b0 : (t1312 == 3) = false := beq_eq_false_iff_ne.mpr c59
     have c59b1 : (t1312 != 3) = true := bne_iff_ne.mpr c59
     simp only [Option.some.injEq, Prod.mk.injEq] at H
     obtain ⟨rfl, rfl, rfl, rfl, rfl, rfl, rfl⟩ := H
     go_enter Try.func108, Try.ntmps108
     go_wp2_with (first | ((with_reducible refine gate_dst (N := 2) rfl ?_); refine box_event ?hg (N := 2) ?hd (cs := #[.int .i64 0, .int .i64 0, .int .i64 0, .int .i64 0, .slice none 0 0]) (t := 54) ?hr ?_; (case hd => rfl); (case hg => rfl); (case hr => first | (go_simp; done) | (go_simp; rfl)); intro gb1301 hg w76 hbox hb; have n0_ := Aside0.mk (IsS_l1Cur.below (is_l1Cur_ HI0.out) hb); have n1_ := Aside0.mk (KeepBut.trans (hk_ HK.out) (KeepBut.of_below hb g none) (.inl rfl)); have n2_ := Aside0.mk (below_step (hi_ HB.out) hb); have n3_ := Aside0.mk (hbox); have n4_ := Aside0.mk ((by rw [hg]; exact (keep_size (w := w) (g := g) (row := none) (hk_ HK.out)) : w.heap.size ≤ gb1301)); have n5_ := Aside0.mk ((Nat.le_trans HW0.out (by rw [hg]; exact (keep_size (w := w) (g := g) (row := none) (hk_ HK.out)) : w.heap.size ≤ gb1301) : w0.heap.size ≤ gb1301)); have n6_ := Aside0.mk ((by rw [hg]; exact Nat.ne_of_lt (IsS_l1Cur.lt (show IsS_l1Cur w0 _ g s0_0 s0_1 s0_2 from is_l1Cur_ HI0.out)) : g ≠ gb1301)); have n7_ := Aside0.mk ((by rw [hg]; exact Nat.ne_of_gt (IsS_l1Cur.lt (show IsS_l1Cur w0 _ g s0_0 s0_1 s0_2 from is_l1Cur_ HI0.out)) : gb1301 ≠ g)); clear HI0; clear HK; clear HB; have HI0 := n0_; have HK := n1_; have HB := n2_; have BK1301 := n3_; have GW1301 := n4_; have GE1301 := n5_; have NB0_1301 := n6_; have NB1301_0 := n7_; clear n0_ n1_ n2_ n3_ n4_ n5_ n6_ n7_; clear hb hbox hg) | ((with_reducible refine gate_callee (f := 126) rfl ?_); refine goesL_ (some 5) rfl rfl Try.func126 (by kernel_rfl) rfl #[.pointer (some ⟨g, 0, none⟩)] rfl sm_ ?_; (with_reducible refine (spec_l4DrawRight.calls k g s0_0 s0_1 s0_2 t1302 t1303 t1304 t1305 t1306 t1309 t1310 w0 _ ?side1 ?side2 A2.out).mono ?_); (case side1 => repeat (first | (with_reducible first | exact HI0.out | apply IsS_l1Cur.alloc | apply IsS_l1Cur.drewN | apply IsS_l1Cur.drew | apply IsS_l1Cur.set_1 | apply IsS_l1Cur.set_2 | refine IsS_l1Cur.far ?_ NB0_1301.out _) | exact HI0.out)); (case side2 => repeat (first | (with_reducible first | exact HB.out | apply below_alloc | apply pw_below_drewN | apply below_drew1 | refine below_set ?_ (IsS_l1Cur.ge HI0.out) | refine below_set ?_ GE1301.out) | exact HB.out)); rintro e w77 ⟨v1307, rfl, ho0, hi, hb, hk⟩; refine ⟨_, rfl, ?_⟩; have n0_ := Aside0.mk (KeepBut.blk hk (g' := gb1301) (o := .cells #[.int .i64 0, .int .i64 0, .int .i64 0, .int .i64 0, .slice none 0 0] 54 (0, 0)) (bq_ BK1301.out) NB1301_0.out (by simp)); have n1_ := Aside0.mk (Kd.R_lower ho0 (keep_size (w := w) (g := g) (row := none) (hk_ HK.out))); have n2_ := Aside0.mk (KeepBut.trans (hk_ HK.out) hk (.inl rfl)); have n3_ := Aside0.mk (hb); have n4_ := Aside0.mk (hi); clear BK1301; clear HK; clear HB; clear HI0; have BK1301 := n0_; have HO1308 := n1_; have HK := n2_; have HB := n3_; have HI0 := n4_; clear n0_ n1_ n2_ n3_ n4_; (try clear hb); (try clear hb2); (try clear hk); (try clear hi); (try clear ho0)) | ((with_reducible refine gate_dst (N := 3) rfl ?_); refine box_event ?hg (N := 3) ?hd (cs := #[.int .i64 0, .int .i64 0, .int .i64 0, .int .i64 0, .slice none 0 0]) (t := 54) ?hr ?_; (case hd => rfl); (case hg => rfl); (case hr => first | (go_simp; done) | (go_simp; rfl)); intro gb1311 hg w78 hbox hb; have n0_ := Aside0.mk (Kd.R_below (rq_ HO1308.out) hb); have n1_ := Aside0.mk (IsS_l1Cur.below (is_l1Cur_ HI0.out) hb); have n2_ := Aside0.mk (bb_ BK1301.out hb); have n3_ := Aside0.mk (KeepBut.trans (hk_ HK.out) (KeepBut.of_below hb g none) (.inl rfl)); have n4_ := Aside0.mk (below_step (hi_ HB.out) hb); have n5_ := Aside0.mk (hbox); have n6_ := Aside0.mk ((by rw [hg]; exact (keep_size (w := w) (g := g) (row := none) (hk_ HK.out)) : w.heap.size ≤ gb1311)); have n7_ := Aside0.mk ((Nat.le_trans HW0.out (by rw [hg]; exact (keep_size (w := w) (g := g) (row := none) (hk_ HK.out)) : w.heap.size ≤ gb1311) : w0.heap.size ≤ gb1311)); have n8_ := Aside0.mk ((nl_ BK1301.out hg : gb1301 ≠ gb1311)); have n9_ := Aside0.mk ((ng_ BK1301.out hg : gb1311 ≠ gb1301)); have n10_ := Aside0.mk ((by rw [hg]; exact Nat.ne_of_lt (IsS_l1Cur.lt (show IsS_l1Cur w0 _ g s0_0 t1309 t1310 from is_l1Cur_ HI0.out)) : g ≠ gb1311)); have n11_ := Aside0.mk ((by rw [hg]; exact Nat.ne_of_gt (IsS_l1Cur.lt (show IsS_l1Cur w0 _ g s0_0 t1309 t1310 from is_l1Cur_ HI0.out)) : gb1311 ≠ g)); clear HO1308; clear HI0; clear BK1301; clear HK; clear HB; have HO1308 := n0_; have HI0 := n1_; have BK1301 := n2_; have HK := n3_; have HB := n4_; have BK1311 := n5_; have GW1311 := n6_; have GE1311 := n7_; have NB1301_1311 := n8_; have NB1311_1301 := n9_; have NB0_1311 := n10_; have NB1311_0 := n11_; clear n0_ n1_ n2_ n3_ n4_ n5_ n6_ n7_ n8_ n9_ n10_ n11_; clear hb hbox hg; have hnb79 := NB1311_1301.out; have hnc79 := NB1301_1311.out; have hnb80 := NB1311_0.out; have hnc80 := NB0_1311.out; have hcz81_0 : w78.cell? ⟨gb1311, 0, none⟩ = some (.int .i64 0) := (blk_cell BK1311.out 0).trans rfl; have hcz81_1 : w78.cell? ⟨gb1311, 1, none⟩ = some (.int .i64 0) := (blk_cell BK1311.out 1).trans rfl; have hcz81_2 : w78.cell? ⟨gb1311, 2, none⟩ = some (.int .i64 0) := (blk_cell BK1311.out 2).trans rfl; have hcz81_3 : w78.cell? ⟨gb1311, 3, none⟩ = some (.int .i64 0) := (blk_cell BK1311.out 3).trans rfl; have hcz81_4 : w78.cell? ⟨gb1311, 4, none⟩ = some (.slice none 0 0) := (blk_cell BK1311.out 4).trans rfl; have hfz81_0 := blk_frozen BK1311.out 0; have hfz81_1 := blk_frozen BK1311.out 1; have hfz81_2 := blk_frozen BK1311.out 2; have hfz81_3 := blk_frozen BK1311.out 3; have hfz81_4 := blk_frozen BK1311.out 4; obtain ⟨Ao82, co82, eo82⟩ := Kd.R_slice HO1308.out; subst eo82) | ((with_reducible refine gate_callee (f := 94) rfl ?_); refine goesL_ (some 7) rfl rfl Try.func94 (by kernel_rfl) rfl #[.pointer (some ⟨g, 0, none⟩), .int .i64 12] rfl sm_ ?_; (with_reducible refine (spec_l1Below.calls g s0_0 t1309 t1310 12 t1312 t1313 t1314 w0 _ ?side1 ?side2 A3.out).mono ?_); (case side1 => repeat (first | (with_reducible first | exact HI0.out | apply IsS_l1Cur.alloc | apply IsS_l1Cur.drewN | apply IsS_l1Cur.drew | apply IsS_l1Cur.set_1 | apply IsS_l1Cur.set_2 | refine IsS_l1Cur.far ?_ NB0_1301.out _ | refine IsS_l1Cur.far ?_ NB0_1311.out _) | exact HI0.out)); (case side2 => repeat (first | (with_reducible first | exact HB.out | apply below_alloc | apply pw_below_drewN | apply below_drew1 | refine below_set ?_ (IsS_l1Cur.ge HI0.out) | refine below_set ?_ GE1301.out | refine below_set ?_ GE1311.out) | exact HB.out)); rintro e w83 ⟨rfl, hi, hb, hk⟩; refine ⟨_, rfl, ?_⟩; have n0_ := Aside0.mk (KeepBut.blk hk (g' := gb1301) (o := .cells #[.int .i64 0, .int .i64 0, .int .i64 0, .int .i64 0, .slice none 0 0] 54 (0, 0)) (bf_ NB1301_1311.out BK1301.out) NB1301_0.out (by simp)); have n1_ := Aside0.mk (Kd.R_mono (Kd.R_keep (IsS_l1Cur.apart (show IsS_l1Cur w0 _ g s0_0 t1309 t1310 from is_l1Cur_ HI0.out) (rk_ HO1308.out BK1311.out) (by decide)) hk (fun _ h => h.2)) (fun _ h => h.1)); have n2_ := Aside0.mk (KeepBut.blk hk (g' := gb1311) (o := .cells #[.int .i64 t1302, .int .i64 t1303, .int .i64 t1304, .int .i64 t1305, .slice Ao82 t1306.length co82] 54 (0, 0)) (bp_ BK1311.out) NB1311_0.out (by simp)); have n3_ := Aside0.mk (KeepBut.trans (hk_ HK.out) hk (.inl rfl)); have n4_ := Aside0.mk (hb); have n5_ := Aside0.mk (hi); clear BK1301; clear HO1308; clear BK1311; clear HK; clear HB; clear HI0; have BK1301 := n0_; have HO1308 := n1_; have BK1311 := n2_; have HK := n3_; have HB := n4_; have HI0 := n5_; clear n0_ n1_ n2_ n3_ n4_ n5_; (try clear hb); (try clear hb2); (try clear hk); (try clear hi); have hcz84_0 : w83.cell? ⟨gb1311, 0, none⟩ = some (.int .i64 t1302) := (blk_cell BK1311.out 0).trans rfl; have hcz84_1 : w83.cell? ⟨gb1311, 1, none⟩ = some (.int .i64 t1303) := (blk_cell BK1311.out 1).trans rfl; have hcz84_2 : w83.cell? ⟨gb1311, 2, none⟩ = some (.int .i64 t1304) := (blk_cell BK1311.out 2).trans rfl; have hcz84_3 : w83.cell? ⟨gb1311, 3, none⟩ = some (.int .i64 t1305) := (blk_cell BK1311.out 3).trans rfl; have hcz84_4 : w83.cell? ⟨gb1311, 4, none⟩ = some (.slice Ao82 t1306.length co82) := (blk_cell BK1311.out 4).trans rfl; have hfz84_0 := blk_frozen BK1311.out 0; have hfz84_1 := blk_frozen BK1311.out 1; have hfz84_2 := blk_frozen BK1311.out 2; have hfz84_3 := blk_frozen BK1311.out 3; have hfz84_4 := blk_frozen BK1311.out 4; have hnb85 := NB1301_0.out; have hnc85 := NB0_1301.out; have hcz86_0 : w83.cell? ⟨gb1301, 0, none⟩ = some (.int .i64 0) := (blk_cell BK1301.out 0).trans rfl; have hcz86_1 : w83.cell? ⟨gb1301, 1, none⟩ = some (.int .i64 0) := (blk_cell BK1301.out 1).trans rfl; have hcz86_2 : w83.cell? ⟨gb1301, 2, none⟩ = some (.int .i64 0) := (blk_cell BK1301.out 2).trans rfl; have hcz86_3 : w83.cell? ⟨gb1301, 3, none⟩ = some (.int .i64 0) := (blk_cell BK1301.out 3).trans rfl; have hcz86_4 : w83.cell? ⟨gb1301, 4, none⟩ = some (.slice none 0 0) := (blk_cell BK1301.out 4).trans rfl; have hfz86_0 := blk_frozen BK1301.out 0; have hfz86_1 := blk_frozen BK1301.out 1; have hfz86_2 := blk_frozen BK1301.out 2; have hfz86_3 := blk_frozen BK1301.out 3; have hfz86_4 := blk_frozen BK1301.out 4))
     refine bodyPost_ret (results_cell_row rfl _ _ gb1301 54 #[.int .i64 t1302, .int .i64 t1303, .int .i64 t1304, .int .i64 t1305, .slice Ao82 t1306.length co82] (0, 0) _ rfl (bp_ BK1301.out) Try.underlying54 rfl (by kernel_rfl)) rfl ?_
     exact ⟨_, er_, by (with_reducible repeat (first | apply Kd.R_alloc | apply Kd.R_drewN | apply Kd.R_drew)); exact Kd.R_mono (Kd.R_far (p := ⟨gb1301, 4, none⟩) (Kd.R_far (p := ⟨gb1301, 3, none⟩) (Kd.R_far (p := ⟨gb1301, 2, none⟩) (Kd.R_far (p := ⟨gb1301, 1, none⟩) (Kd.R_far (p := ⟨gb1301, 0, none⟩) (Kd.R_types HO1308.out BK1301.out (by decide)) (fun _ hk => hk.2) (.int .i64 t1302)) (fun _ hk => hk.2) (.int .i64 t1303)) (fun _ hk => hk.2) (.int .i64 t1304)) (fun _ hk => hk.2) (.int .i64 t1305)) (fun _ hk => hk.2) (.slice Ao82 t1306.length co82)) (fun _ hk => trivial), is_l1Cur_ HI0.out, by repeat (first | (with_reducible first | exact HB.out | apply below_alloc | apply pw_below_drewN | apply below_drew1 | refine below_set ?_ (IsS_l1Cur.ge HI0.out) | refine below_set ?_ GE1301.out | refine below_set ?_ GE1311.out) | exact HB.out), by repeat (first | (with_reducible first | exact HK.out | apply KeepBut.set_ | apply keep_drewN | apply keep_drew | apply keep_alloc | refine keep_far ?_ GW1301.out _ | refine keep_far ?_ GW1311.out _) | exact HK.out)⟩
/-! ### spec_DrawMakerAsk: function 59 -/
def spec_DrawMakerAsk.f (k : Nat) (l0 : List Int) : Option (Int × Int × Int × Int × (List (S_Mark)) × Int × Int) := (spec_l1New.f k l0).bind fun bt1343 => ((spec_l4Draw.f k bt1343.1 bt1343.2.1 bt1343.2.2).bind fun bt1347 => ((spec_l1PickInt.f bt1343.1 bt1347.2.2.2.2.2.1 bt1347.2.2.2.2.2.2 (([0, 0, 1, 2, (-1)] : List Int))).bind fun bt1360 => ((spec_l1PickInt.f bt1343.1 bt1360.2.1 bt1360.2.2 (([0, 1, 2, 3, 4, 7, (-1), 9223372036854775807, (-9223372036854775808)] : List Int))).bind fun bt1366 => (some (bt1347.1, bt1347.2.1, bt1347.2.2.1, bt1347.2.2.2.1, bt1347.2.2.2.2.1, bt1360.1, bt1366.1)))))
theorem spec_DrawMakerAsk.mono : ∀ a0 k, LeO (spec_DrawMakerAsk.f k a0) (spec_DrawMakerAsk.f (k + 1) a0) := by
  intro a0 k
  unfold spec_DrawMakerAsk.f
  repeat' first
      | (with_reducible exact spec_l1New.mono _ _)
      | (with_reducible exact spec_l4Draw.mono _ _ _ _)
      | (with_reducible exact LeO.refl _)
      | (with_reducible exact LeO.none _)
      | (with_reducible refine LeO.ite ?_ ?_)
      | (with_reducible refine LeO.bind ?_ (fun _ => ?_))
      | exact spec_l1New.mono _ _
      | exact spec_l4Draw.mono _ _ _ _
      | exact LeO.none _
      | refine LeO.ite ?_ ?_
      | refine LeO.bind ?_ (fun _ => ?_)
def spec_DrawMakerAsk.T4 : Bool × List (List Nat × List Nat) := (true, [([], []), ([], []), ([], []), ([], []), ([2, 3], [2, 3]), ([0, 4, 0], [0]), ([1, 5, 0, 1, 5], [1]), ([4, 6, 0, 1, 2, 3, 4, 5, 6], [4])])
def spec_DrawMakerAsk.B4 : List Nat := [0, 0, 0, 0, 12, 29, 63, 127]
theorem spec_DrawMakerAsk.tab4 : rtab .any (opsOf Try.f59 4) = spec_DrawMakerAsk.T4 := by kernel_rfl
theorem spec_DrawMakerAsk.bits4 : waitsOk spec_DrawMakerAsk.T4.2 spec_DrawMakerAsk.B4 = true := by kernel_rfl
set_option maxHeartbeats 8000000 in
set_option maxRecDepth 100000 in
theorem spec_DrawMakerAsk.calls (k : Nat) (A0 : Option Addr) (c0 : Nat) (l0 : List Int) (r1 : Int) (r2 : Int) (r3 : Int) (r4 : Int) (r5 : List (S_Mark)) (r6 : Int) (r7 : Int) (w : World) (hr0 : Kd.C (Kd.int .u8) w A0 l0.length l0) (hc0 : l0.length ≤ c0) (h : spec_DrawMakerAsk.f k l0 = some (r1, r2, r3, r4, r5, r6, r7)) :
    Calls Try.prog 59 #[.slice A0 l0.length c0] w fun e w' => ∃ v4_ : Value, e = .returned (.tuple #[.agg #[.int .i64 r1, .int .i64 r2, .int .i64 r3, .int .i64 r4, v4_], .int .i64 r6, .int .i64 r7]) ∧ Kd.R k_Mark 118 w' w.heap.size (fun _ => True) v4_ r5 ∧ Below w.heap.size w w' := by
  have hu54 := Try.underlying54
  have HR0 := Aside0.mk hr0
  have HC0 := Aside0.mk hc0
  clear hr0 hc0
  have HB := Aside0.mk (Below.refl w.heap.size w)
  have H : ((spec_l1New.f k l0).bind fun bt1343 => ((spec_l4Draw.f k bt1343.1 bt1343.2.1 bt1343.2.2).bind fun bt1347 => ((spec_l1PickInt.f bt1343.1 bt1347.2.2.2.2.2.1 bt1347.2.2.2.2.2.2 (([0, 0, 1, 2, (-1)] : List Int))).bind fun bt1360 => ((spec_l1PickInt.f bt1343.1 bt1360.2.1 bt1360.2.2 (([0, 1, 2, 3, 4, 7, (-1), 9223372036854775807, (-9223372036854775808)] : List Int))).bind fun bt1366 => (some (bt1347.1, bt1347.2.1, bt1347.2.2.1, bt1347.2.2.2.1, bt1347.2.2.2.2.1, bt1360.1, bt1366.1)))))) = some (r1, r2, r3, r4, r5, r6, r7) := h
  clear h
  replace H := Option.bind_eq_some_iff.mp H
  obtain ⟨⟨t1343, t1344, t1345⟩, A20, H⟩ := H
  replace H : ((spec_l4Draw.f k t1343 t1344 t1345).bind fun bt1347 => ((spec_l1PickInt.f t1343 bt1347.2.2.2.2.2.1 bt1347.2.2.2.2.2.2 (([0, 0, 1, 2, (-1)] : List Int))).bind fun bt1360 => ((spec_l1PickInt.f t1343 bt1360.2.1 bt1360.2.2 (([0, 1, 2, 3, 4, 7, (-1), 9223372036854775807, (-9223372036854775808)] : List Int))).bind fun bt1366 => (some (bt1347.1, bt1347.2.1, bt1347.2.2.1, bt1347.2.2.2.1, bt1347.2.2.2.2.1, bt1360.1, bt1366.1))))) = some (r1, r2, r3, r4, r5, r6, r7) := H
  have A2 := Aside0.mk A20
  clear A20
  replace H := Option.bind_eq_some_iff.mp H
  obtain ⟨⟨t1347, t1348, t1349, t1350, t1351, t1354, t1355⟩, A30, H⟩ := H
  replace H : ((spec_l1PickInt.f t1343 t1354 t1355 (([0, 0, 1, 2, (-1)] : List Int))).bind fun bt1360 => ((spec_l1PickInt.f t1343 bt1360.2.1 bt1360.2.2 (([0, 1, 2, 3, 4, 7, (-1), 9223372036854775807, (-9223372036854775808)] : List Int))).bind fun bt1366 => (some (t1347, t1348, t1349, t1350, t1351, bt1360.1, bt1366.1)))) = some (r1, r2, r3, r4, r5, r6, r7) := H
  have A3 := Aside0.mk A30
  clear A30
  obtain ⟨y1357, hy1357⟩ : ∃ y_ : List Int, y_ = (([0, 0, 1, 2, (-1)] : List Int)) := ⟨_, rfl⟩
  replace H : ((spec_l1PickInt.f t1343 t1354 t1355 y1357).bind fun bt1360 => ((spec_l1PickInt.f t1343 bt1360.2.1 bt1360.2.2 (([0, 1, 2, 3, 4, 7, (-1), 9223372036854775807, (-9223372036854775808)] : List Int))).bind fun bt1366 => (some (t1347, t1348, t1349, t1350, t1351, bt1360.1, bt1366.1)))) = some (r1, r2, r3, r4, r5, r6, r7) := by first | (rw [hy1357]; with_reducible exact H) | (have H2_ := (Option.bind_some _ _).symm.trans H; rw [hy1357]; with_reducible exact H2_) | (have H2_ := (Option.bind_some _ _).symm.trans H; with_reducible exact H2_) | with_reducible exact H | (rw [hy1357]; exact H) | exact H
  have Ny1357 := Aside0.mk hy1357
  clear hy1357
  replace H := Option.bind_eq_some_iff.mp H
  obtain ⟨⟨t1360, t1361, t1362⟩, A40, H⟩ := H
  replace H : ((spec_l1PickInt.f t1343 t1361 t1362 (([0, 1, 2, 3, 4, 7, (-1), 9223372036854775807, (-9223372036854775808)] : List Int))).bind fun bt1366 => (some (t1347, t1348, t1349, t1350, t1351, t1360, bt1366.1))) = some (r1, r2, r3, r4, r5, r6, r7) := H
  have A4 := Aside0.mk A40
  clear A40
  obtain ⟨y1363, hy1363⟩ : ∃ y_ : List Int, y_ = (([0, 1, 2, 3, 4, 7, (-1), 9223372036854775807, (-9223372036854775808)] : List Int)) := ⟨_, rfl⟩
  replace H : ((spec_l1PickInt.f t1343 t1361 t1362 y1363).bind fun bt1366 => (some (t1347, t1348, t1349, t1350, t1351, t1360, bt1366.1))) = some (r1, r2, r3, r4, r5, r6, r7) := by first | (rw [hy1363]; with_reducible exact H) | (have H2_ := (Option.bind_some _ _).symm.trans H; rw [hy1363]; with_reducible exact H2_) | (have H2_ := (Option.bind_some _ _).symm.trans H; with_reducible exact H2_) | with_reducible exact H | (rw [hy1363]; exact H) | exact H
  have Ny1363 := Aside0.mk hy1363
  clear hy1363
  replace H := Option.bind_eq_some_iff.mp H
  obtain ⟨⟨t1366, t1367, t1368⟩, A50, H⟩ := H
  replace H : (some (t1347, t1348, t1349, t1350, t1351, t1360, t1366)) = some (r1, r2, r3, r4, r5, r6, r7) := H
  have A5 := Aside0.mk A50
  clear A50
  simp only [Option.some.injEq, Prod.mk.injEq] at H
  obtain ⟨rfl, rfl, rfl, rfl, rfl, rfl, rfl⟩ := H
  go_enter Try.func59, Try.ntmps59
  try go_wp2_with (first | ((with_reducible refine gate_dst (N := 2) rfl ?_); refine box_event ?hg (N := 2) ?hd (cs := #[.int .i64 0, .int .i64 0, .int .i64 0, .int .i64 0, .slice none 0 0]) (t := 54) ?hr ?_; (case hd => rfl); (case hg => rfl); (case hr => first | (go_simp; done) | (go_simp; rfl)); intro gb1342 hg w6 hbox hb; have n0_ := Aside0.mk (below_step (by repeat (first | (with_reducible first | exact HB.out | apply below_alloc | apply pw_below_drewN | apply below_drew1) | exact HB.out)) hb); have n1_ := Aside0.mk (hbox); have n2_ := Aside0.mk ((by rw [hg]; exact (below_size (by repeat (first | (with_reducible first | exact HB.out | apply below_alloc | apply pw_below_drewN | apply below_drew1) | exact HB.out))) : w.heap.size ≤ gb1342)); have n3_ := Aside0.mk ((by rw [hg]; exact (below_size (by repeat (first | (with_reducible first | exact HB.out | apply below_alloc | apply pw_below_drewN | apply below_drew1) | exact HB.out))) : w.heap.size ≤ gb1342)); clear HB; have HB := n0_; have BK1342 := n1_; have GW1342 := n2_; have GE1342 := n3_; clear n0_ n1_ n2_ n3_; clear hb hbox hg) | ((with_reducible refine gate_callee (f := 90) rfl ?_); refine goesL_ (some 9) rfl rfl Try.func90 (by kernel_rfl) rfl #[.slice A0 l0.length c0] rfl (by (try simp only [List.map_toArray, List.map_cons, List.map_nil]); first | done | rfl | (simp only [List.length_drop, List.length_take]; rfl)) ?_; (with_reducible refine (spec_l1New.calls k _ _ l0 t1343 t1344 t1345 w _ ?side1 ?side2 ?side3 A2.out).mono ?_); (case side1 => repeat (first | (with_reducible first | exact HB.out | apply below_alloc | apply pw_below_drewN | apply below_drew1 | refine below_set ?_ GE1342.out) | exact HB.out)); (case side2 => exact HR0.out); (case side3 => exact HC0.out); rintro e w7 ⟨g1346, rfl, hi, hb, hb2⟩; refine ⟨_, rfl, ?_⟩; have n0_ := Aside0.mk (blk_below (g := gb1342) (o := .cells #[.int .i64 0, .int .i64 0, .int .i64 0, .int .i64 0, .slice none 0 0] 54 (0, 0)) (by (with_reducible repeat (first | refine blk_drewN ?_ _ | refine blk_drew ?_ | refine blk_alloc ?_ _)); exact BK1342.out) hb2); have n1_ := Aside0.mk (hb); have n2_ := Aside0.mk (hi); have n3_ := Aside0.mk (IsS_l1Cur.ne_blk hi (blk_below (g := gb1342) (o := .cells #[.int .i64 0, .int .i64 0, .int .i64 0, .int .i64 0, .slice none 0 0] 54 (0, 0)) (by (with_reducible repeat (first | refine blk_drewN ?_ _ | refine blk_drew ?_ | refine blk_alloc ?_ _)); exact BK1342.out) hb2) (by decide)); have n4_ := Aside0.mk (Ne.symm (IsS_l1Cur.ne_blk hi (blk_below (g := gb1342) (o := .cells #[.int .i64 0, .int .i64 0, .int .i64 0, .int .i64 0, .slice none 0 0] 54 (0, 0)) (by (with_reducible repeat (first | refine blk_drewN ?_ _ | refine blk_drew ?_ | refine blk_alloc ?_ _)); exact BK1342.out) hb2) (by decide))); clear BK1342; clear HB; have BK1342 := n0_; have HB := n1_; have HI1346 := n2_; have NB1346_1342 := n3_; have NB1342_1346 := n4_; clear n0_ n1_ n2_ n3_ n4_; (try clear hb); (try clear hb2); (try clear hk); (try clear hi)) | ((with_reducible refine gate_callee (f := 108) rfl ?_); refine goesL_ (some 11) rfl rfl Try.func108 (by kernel_rfl) rfl #[.pointer (some ⟨g1346, 0, none⟩)] rfl (by (try simp only [List.map_toArray, List.map_cons, List.map_nil]); first | done | rfl | (simp only [List.length_drop, List.length_take]; rfl)) ?_; (with_reducible refine (spec_l4Draw.calls k g1346 t1343 t1344 t1345 t1347 t1348 t1349 t1350 t1351 t1354 t1355 w _ ?side1 ?side2 A3.out).mono ?_); (case side1 => repeat (first | (with_reducible first | exact HI1346.out | apply IsS_l1Cur.alloc | apply IsS_l1Cur.drewN | apply IsS_l1Cur.drew | apply IsS_l1Cur.set_1 | apply IsS_l1Cur.set_2 | refine IsS_l1Cur.far ?_ NB1346_1342.out _) | exact HI1346.out)); (case side2 => repeat (first | (with_reducible first | exact HB.out | apply below_alloc | apply pw_below_drewN | apply below_drew1 | refine below_set ?_ (IsS_l1Cur.ge HI1346.out) | refine below_set ?_ GE1342.out) | exact HB.out)); rintro e w8 ⟨v1352, rfl, ho0, hi, hb, hk⟩; refine ⟨_, rfl, ?_⟩; have n0_ := Aside0.mk (KeepBut.blk hk (g' := gb1342) (o := .cells #[.int .i64 0, .int .i64 0, .int .i64 0, .int .i64 0, .slice none 0 0] 54 (0, 0)) (by (with_reducible repeat (first | refine blk_drewN ?_ _ | refine blk_drew ?_ | refine blk_alloc ?_ _)); exact BK1342.out) NB1342_1346.out (by simp)); have n1_ := Aside0.mk (Kd.R_lower ho0 (below_size (by repeat (first | (with_reducible first | exact HB.out | apply below_alloc | apply pw_below_drewN | apply below_drew1 | refine below_set ?_ (IsS_l1Cur.ge HI1346.out) | refine below_set ?_ GE1342.out) | exact HB.out)))); have n2_ := Aside0.mk (hb); have n3_ := Aside0.mk (hi); clear BK1342; clear HB; clear HI1346; have BK1342 := n0_; have HO1353 := n1_; have HB := n2_; have HI1346 := n3_; clear n0_ n1_ n2_ n3_; (try clear hb); (try clear hb2); (try clear hk); (try clear hi); (try clear ho0)) | ((with_reducible refine gate_dst (N := 6) rfl ?_); refine box_event ?hg (N := 6) ?hd (cs := #[.int .i64 0, .int .i64 0, .int .i64 0, .int .i64 0, .slice none 0 0]) (t := 54) ?hr ?_; (case hd => rfl); (case hg => rfl); (case hr => first | (go_simp; done) | (go_simp; rfl)); intro gb1356 hg w9 hbox hb; have n0_ := Aside0.mk (Kd.R_below (by (with_reducible repeat (first | apply Kd.R_alloc | apply Kd.R_drewN | apply Kd.R_drew)); exact HO1353.out) hb); have n1_ := Aside0.mk (blk_below (g := gb1342) (o := .cells #[.int .i64 0, .int .i64 0, .int .i64 0, .int .i64 0, .slice none 0 0] 54 (0, 0)) (by (with_reducible repeat (first | refine blk_drewN ?_ _ | refine blk_drew ?_ | refine blk_alloc ?_ _)); exact BK1342.out) hb); have n2_ := Aside0.mk (IsS_l1Cur.below (by repeat (first | (with_reducible first | exact HI1346.out | apply IsS_l1Cur.alloc | apply IsS_l1Cur.drewN | apply IsS_l1Cur.drew | apply IsS_l1Cur.set_1 | apply IsS_l1Cur.set_2 | refine IsS_l1Cur.far ?_ NB1346_1342.out _) | exact HI1346.out)) hb); have n3_ := Aside0.mk (below_step (by repeat (first | (with_reducible first | exact HB.out | apply below_alloc | apply pw_below_drewN | apply below_drew1 | refine below_set ?_ (IsS_l1Cur.ge HI1346.out) | refine below_set ?_ GE1342.out) | exact HB.out)) hb); have n4_ := Aside0.mk (hbox); have n5_ := Aside0.mk ((by rw [hg]; exact (below_size (by repeat (first | (with_reducible first | exact HB.out | apply below_alloc | apply pw_below_drewN | apply below_drew1 | refine below_set ?_ (IsS_l1Cur.ge HI1346.out) | refine below_set ?_ GE1342.out) | exact HB.out))) : w.heap.size ≤ gb1356)); have n6_ := Aside0.mk ((by rw [hg]; exact (below_size (by repeat (first | (with_reducible first | exact HB.out | apply below_alloc | apply pw_below_drewN | apply below_drew1 | refine below_set ?_ (IsS_l1Cur.ge HI1346.out) | refine below_set ?_ GE1342.out) | exact HB.out))) : w.heap.size ≤ gb1356)); have n7_ := Aside0.mk ((by rw [hg]; exact Nat.ne_of_lt (blk_lt (g := gb1342) (o := .cells #[.int .i64 0, .int .i64 0, .int .i64 0, .int .i64 0, .slice none 0 0] 54 (0, 0)) (by (with_reducible repeat (first | refine blk_drewN ?_ _ | refine blk_drew ?_ | refine blk_alloc ?_ _)); exact BK1342.out)) : gb1342 ≠ gb1356)); have n8_ := Aside0.mk ((by rw [hg]; exact Nat.ne_of_gt (blk_lt (g := gb1342) (o := .cells #[.int .i64 0, .int .i64 0, .int .i64 0, .int .i64 0, .slice none 0 0] 54 (0, 0)) (by (with_reducible repeat (first | refine blk_drewN ?_ _ | refine blk_drew ?_ | refine blk_alloc ?_ _)); exact BK1342.out)) : gb1356 ≠ gb1342)); have n9_ := Aside0.mk ((by rw [hg]; exact Nat.ne_of_lt (IsS_l1Cur.lt (show IsS_l1Cur w _ g1346 t1343 t1354 t1355 from by repeat (first | (with_reducible first | exact HI1346.out | apply IsS_l1Cur.alloc | apply IsS_l1Cur.drewN | apply IsS_l1Cur.drew | apply IsS_l1Cur.set_1 | apply IsS_l1Cur.set_2 | refine IsS_l1Cur.far ?_ NB1346_1342.out _) | exact HI1346.out))) : g1346 ≠ gb1356)); have n10_ := Aside0.mk ((by rw [hg]; exact Nat.ne_of_gt (IsS_l1Cur.lt (show IsS_l1Cur w _ g1346 t1343 t1354 t1355 from by repeat (first | (with_reducible first | exact HI1346.out | apply IsS_l1Cur.alloc | apply IsS_l1Cur.drewN | apply IsS_l1Cur.drew | apply IsS_l1Cur.set_1 | apply IsS_l1Cur.set_2 | refine IsS_l1Cur.far ?_ NB1346_1342.out _) | exact HI1346.out))) : gb1356 ≠ g1346)); clear HO1353; clear BK1342; clear HI1346; clear HB; have HO1353 := n0_; have BK1342 := n1_; have HI1346 := n2_; have HB := n3_; have BK1356 := n4_; have GW1356 := n5_; have GE1356 := n6_; have NB1342_1356 := n7_; have NB1356_1342 := n8_; have NB1346_1356 := n9_; have NB1356_1346 := n10_; clear n0_ n1_ n2_ n3_ n4_ n5_ n6_ n7_ n8_ n9_ n10_; clear hb hbox hg; have hnb10 := NB1356_1342.out; have hnc10 := NB1342_1356.out; have hnb11 := NB1356_1346.out; have hnc11 := NB1346_1356.out; have hcz12_0 : w9.cell? ⟨gb1356, 0, none⟩ = some (.int .i64 0) := (blk_cell BK1356.out 0).trans rfl; have hcz12_1 : w9.cell? ⟨gb1356, 1, none⟩ = some (.int .i64 0) := (blk_cell BK1356.out 1).trans rfl; have hcz12_2 : w9.cell? ⟨gb1356, 2, none⟩ = some (.int .i64 0) := (blk_cell BK1356.out 2).trans rfl; have hcz12_3 : w9.cell? ⟨gb1356, 3, none⟩ = some (.int .i64 0) := (blk_cell BK1356.out 3).trans rfl; have hcz12_4 : w9.cell? ⟨gb1356, 4, none⟩ = some (.slice none 0 0) := (blk_cell BK1356.out 4).trans rfl; have hfz12_0 := blk_frozen BK1356.out 0; have hfz12_1 := blk_frozen BK1356.out 1; have hfz12_2 := blk_frozen BK1356.out 2; have hfz12_3 := blk_frozen BK1356.out 3; have hfz12_4 := blk_frozen BK1356.out 4; obtain ⟨Ao13, co13, eo13⟩ := Kd.R_slice HO1353.out; subst eo13) | ((with_reducible refine gate_dst (N := 13) rfl ?_); refine Kd.R_lit (Kd.int .i64) _ 3 ?hg (N := 13) ?hd (xs := ([0, 0, 1, 2, (-1)] : List Int)) (inner := [.int .i64 0, .int .i64 0, .int .i64 1, .int .i64 2, .int .i64 (-1)]) (ok := fun _ => True) (okp := fun _ => True) ?hr ?hp (fun _ hk => hk) trivial (Below.refl _ _) (Nat.le_refl _) (by simp) ?_; (case hd => rfl); (case hg => rfl); (case hr => first | (go_simp; done) | (go_simp; rfl)); (case hp => exact (Reps.one (show Kd.M (Kd.int .i64) _ _ _ 0 [.int .i64 0] from rfl) (Reps.one (show Kd.M (Kd.int .i64) _ _ _ 0 [.int .i64 0] from rfl) (Reps.one (show Kd.M (Kd.int .i64) _ _ _ 1 [.int .i64 1] from rfl) (Reps.one (show Kd.M (Kd.int .i64) _ _ _ 2 [.int .i64 2] from rfl) (Reps.one (show Kd.M (Kd.int .i64) _ _ _ (-1) [.int .i64 (-1)] from rfl) (Reps.none _ _))))))); intro v1358 w14 ho15 hb hg_ hnew_; clear hg_ hnew_; (first | rw [← Ny1357.out] at ho15 | (simp only [Int.reduceToNat] at ho15; rw [← Ny1357.out] at ho15)); have n0_ := Aside0.mk (Kd.R_below (by (with_reducible repeat (first | apply Kd.R_alloc | apply Kd.R_drewN | apply Kd.R_drew)); exact (Kd.R_mono (Kd.R_far (p := ⟨gb1356, 4, none⟩) (Kd.R_far (p := ⟨gb1356, 3, none⟩) (Kd.R_far (p := ⟨gb1356, 2, none⟩) (Kd.R_far (p := ⟨gb1356, 1, none⟩) (Kd.R_far (p := ⟨gb1356, 0, none⟩) (Kd.R_types HO1353.out BK1356.out (by decide)) (fun _ hk => hk.2) (.int .i64 t1347)) (fun _ hk => hk.2) (.int .i64 t1348)) (fun _ hk => hk.2) (.int .i64 t1349)) (fun _ hk => hk.2) (.int .i64 t1350)) (fun _ hk => hk.2) (.slice Ao13 t1351.length co13)) (fun _ h_ => h_.1))) hb); have n1_ := Aside0.mk (Kd.R_lower ho15 (below_size (by repeat (first | (with_reducible first | exact HB.out | apply below_alloc | apply pw_below_drewN | apply below_drew1 | refine below_set ?_ (IsS_l1Cur.ge HI1346.out) | refine below_set ?_ GE1342.out | refine below_set ?_ GE1356.out) | exact HB.out)))); have n2_ := Aside0.mk (blk_below (g := gb1342) (o := .cells #[.int .i64 0, .int .i64 0, .int .i64 0, .int .i64 0, .slice none 0 0] 54 (0, 0)) (by (with_reducible repeat (first | refine blk_drewN ?_ _ | refine blk_drew ?_ | refine blk_alloc ?_ _)); refine blk_far ?_ NB1342_1356.out _; (with_reducible repeat (first | refine blk_drewN ?_ _ | refine blk_drew ?_ | refine blk_alloc ?_ _)); refine blk_far ?_ NB1342_1356.out _; (with_reducible repeat (first | refine blk_drewN ?_ _ | refine blk_drew ?_ | refine blk_alloc ?_ _)); refine blk_far ?_ NB1342_1356.out _; (with_reducible repeat (first | refine blk_drewN ?_ _ | refine blk_drew ?_ | refine blk_alloc ?_ _)); refine blk_far ?_ NB1342_1356.out _; (with_reducible repeat (first | refine blk_drewN ?_ _ | refine blk_drew ?_ | refine blk_alloc ?_ _)); refine blk_far ?_ NB1342_1356.out _; (with_reducible repeat (first | refine blk_drewN ?_ _ | refine blk_drew ?_ | refine blk_alloc ?_ _)); exact BK1342.out) hb); have n3_ := Aside0.mk (IsS_l1Cur.below (show IsS_l1Cur w (((((w9.setCell ⟨gb1356, 0, none⟩ (.int .i64 t1347)).setCell ⟨gb1356, 1, none⟩ (.int .i64 t1348)).setCell ⟨gb1356, 2, none⟩ (.int .i64 t1349)).setCell ⟨gb1356, 3, none⟩ (.int .i64 t1350)).setCell ⟨gb1356, 4, none⟩ (.slice Ao13 t1351.length co13)) g1346 t1343 t1354 t1355 from by repeat (first | (with_reducible first | exact HI1346.out | apply IsS_l1Cur.alloc | apply IsS_l1Cur.drewN | apply IsS_l1Cur.drew | apply IsS_l1Cur.set_1 | apply IsS_l1Cur.set_2 | refine IsS_l1Cur.far ?_ NB1346_1342.out _ | refine IsS_l1Cur.far ?_ NB1346_1356.out _) | exact HI1346.out)) hb); have n4_ := Aside0.mk (blk_below (g := gb1356) (o := .cells #[.int .i64 t1347, .int .i64 t1348, .int .i64 t1349, .int .i64 t1350, .slice Ao13 t1351.length co13] 54 (0, 0)) (by (with_reducible repeat (first | refine blk_drewN ?_ _ | refine blk_drew ?_ | refine blk_alloc ?_ _)); refine blk_put (cs := #[.int .i64 t1347, .int .i64 t1348, .int .i64 t1349, .int .i64 t1350, .slice none 0 0]) ?_ 4 _ rfl; (with_reducible repeat (first | refine blk_drewN ?_ _ | refine blk_drew ?_ | refine blk_alloc ?_ _)); refine blk_put (cs := #[.int .i64 t1347, .int .i64 t1348, .int .i64 t1349, .int .i64 0, .slice none 0 0]) ?_ 3 _ rfl; (with_reducible repeat (first | refine blk_drewN ?_ _ | refine blk_drew ?_ | refine blk_alloc ?_ _)); refine blk_put (cs := #[.int .i64 t1347, .int .i64 t1348, .int .i64 0, .int .i64 0, .slice none 0 0]) ?_ 2 _ rfl; (with_reducible repeat (first | refine blk_drewN ?_ _ | refine blk_drew ?_ | refine blk_alloc ?_ _)); refine blk_put (cs := #[.int .i64 t1347, .int .i64 0, .int .i64 0, .int .i64 0, .slice none 0 0]) ?_ 1 _ rfl; (with_reducible repeat (first | refine blk_drewN ?_ _ | refine blk_drew ?_ | refine blk_alloc ?_ _)); refine blk_put (cs := #[.int .i64 0, .int .i64 0, .int .i64 0, .int .i64 0, .slice none 0 0]) ?_ 0 _ rfl; (with_reducible repeat (first | refine blk_drewN ?_ _ | refine blk_drew ?_ | refine blk_alloc ?_ _)); exact BK1356.out) hb); have n5_ := Aside0.mk (below_step (by repeat (first | (with_reducible first | exact HB.out | apply below_alloc | apply pw_below_drewN | apply below_drew1 | refine below_set ?_ (IsS_l1Cur.ge HI1346.out) | refine below_set ?_ GE1342.out | refine below_set ?_ GE1356.out) | exact HB.out)) hb); clear HO1353; clear BK1342; clear HI1346; clear BK1356; clear HB; have HO1353 := n0_; have HO1359 := n1_; have BK1342 := n2_; have HI1346 := n3_; have BK1356 := n4_; have HB := n5_; clear n0_ n1_ n2_ n3_ n4_ n5_; clear hb ho15; obtain ⟨Ao16, co16, eo16⟩ := Kd.R_slice HO1359.out; subst eo16) | ((with_reducible refine gate_callee (f := 89) rfl ?_); refine goesL_ (some 14) rfl rfl Try.func89 (by kernel_rfl) rfl #[.pointer (some ⟨g1346, 0, none⟩), .slice Ao16 y1357.length co16] rfl (by (try simp only [List.map_toArray, List.map_cons, List.map_nil]); first | done | rfl | (simp only [List.length_drop, List.length_take]; rfl)) ?_; (with_reducible refine (spec_l1PickInt.calls g1346 t1343 t1354 t1355 _ _ y1357 t1360 t1361 t1362 w _ ?side1 ?side2 ?side3 ?side4 ?side5 A4.out).mono ?_); (case side1 => repeat (first | (with_reducible first | exact HI1346.out | apply IsS_l1Cur.alloc | apply IsS_l1Cur.drewN | apply IsS_l1Cur.drew | apply IsS_l1Cur.set_1 | apply IsS_l1Cur.set_2 | refine IsS_l1Cur.far ?_ NB1346_1342.out _ | refine IsS_l1Cur.far ?_ NB1346_1356.out _) | exact HI1346.out)); (case side2 => repeat (first | (with_reducible first | exact HB.out | apply below_alloc | apply pw_below_drewN | apply below_drew1 | refine below_set ?_ (IsS_l1Cur.ge HI1346.out) | refine below_set ?_ GE1342.out | refine below_set ?_ GE1356.out) | exact HB.out)); (case side3 => repeat (first | exact (Kd.R_reads' HO1359.out).2.2 | (with_reducible refine Kd.C_alloc ?_ _) | (with_reducible refine Kd.C_drewN ?_ _) | (with_reducible refine Kd.C_drew ?_))); (case side4 => exact (Kd.R_reads' HO1359.out).2.1); (case side5 => exact far_slice (IsS_l1Cur.own_ne HI1346.out HO1359.out (by decide))); rintro e w17 ⟨rfl, hi, hb, hk⟩; refine ⟨_, rfl, ?_⟩; have n0_ := Aside0.mk (KeepBut.blk hk (g' := gb1342) (o := .cells #[.int .i64 0, .int .i64 0, .int .i64 0, .int .i64 0, .slice none 0 0] 54 (0, 0)) (by (with_reducible repeat (first | refine blk_drewN ?_ _ | refine blk_drew ?_ | refine blk_alloc ?_ _)); exact BK1342.out) NB1342_1346.out (by simp)); have n1_ := Aside0.mk (Kd.R_mono (Kd.R_keep (IsS_l1Cur.apart (show IsS_l1Cur w _ g1346 t1343 t1354 t1355 from by repeat (first | (with_reducible first | exact HI1346.out | apply IsS_l1Cur.alloc | apply IsS_l1Cur.drewN | apply IsS_l1Cur.drew | apply IsS_l1Cur.set_1 | apply IsS_l1Cur.set_2 | refine IsS_l1Cur.far ?_ NB1346_1342.out _ | refine IsS_l1Cur.far ?_ NB1346_1356.out _) | exact HI1346.out)) (by (with_reducible repeat (first | apply Kd.R_alloc | apply Kd.R_drewN | apply Kd.R_drew)); exact HO1353.out) (by decide)) hk (fun _ h => h.2)) (fun _ h => h.1)); have n2_ := Aside0.mk (KeepBut.blk hk (g' := gb1356) (o := .cells #[.int .i64 t1347, .int .i64 t1348, .int .i64 t1349, .int .i64 t1350, .slice Ao13 t1351.length co13] 54 (0, 0)) (by (with_reducible repeat (first | refine blk_drewN ?_ _ | refine blk_drew ?_ | refine blk_alloc ?_ _)); exact BK1356.out) NB1356_1346.out (by simp)); have n3_ := Aside0.mk (Kd.R_mono (Kd.R_keep (IsS_l1Cur.apart (show IsS_l1Cur w _ g1346 t1343 t1354 t1355 from by repeat (first | (with_reducible first | exact HI1346.out | apply IsS_l1Cur.alloc | apply IsS_l1Cur.drewN | apply IsS_l1Cur.drew | apply IsS_l1Cur.set_1 | apply IsS_l1Cur.set_2 | refine IsS_l1Cur.far ?_ NB1346_1342.out _ | refine IsS_l1Cur.far ?_ NB1346_1356.out _) | exact HI1346.out)) (by (with_reducible repeat (first | apply Kd.R_alloc | apply Kd.R_drewN | apply Kd.R_drew)); exact HO1359.out) (by decide)) hk (fun _ h => h.2)) (fun _ h => h.1)); have n4_ := Aside0.mk (hb); have n5_ := Aside0.mk (hi); clear BK1342; clear HO1353; clear BK1356; clear HO1359; clear HB; clear HI1346; have BK1342 := n0_; have HO1353 := n1_; have BK1356 := n2_; have HO1359 := n3_; have HB := n4_; have HI1346 := n5_; clear n0_ n1_ n2_ n3_ n4_ n5_; (try clear hb); (try clear hb2); (try clear hk); (try clear hi)))
  have n0_ := Aside0.mk (Kd.R_drew HO1353.out)
  have n1_ := Aside0.mk (Kd.R_drew HO1359.out)
  have n2_ := Aside0.mk (blk_drew BK1342.out)
  have n3_ := Aside0.mk (blk_drew BK1356.out)
  have n4_ := Aside0.mk (IsS_l1Cur.drew HI1346.out)
  have n5_ := Aside0.mk (below_drew1 HB.out)
  clear HO1353
  clear HO1359
  clear BK1342
  clear BK1356
  clear HI1346
  clear HB
  have HO1353 := n0_
  have HO1359 := n1_
  have BK1342 := n2_
  have BK1356 := n3_
  have HI1346 := n4_
  have HB := n5_
  clear n0_ n1_ n2_ n3_ n4_ n5_
  refine start_ (n := 8) (S := fun w' => w'.cell? ⟨gb1356, 0, none⟩ = some (.int .i64 t1347) ∧ w'.cell? ⟨gb1356, 1, none⟩ = some (.int .i64 t1348) ∧ w'.cell? ⟨gb1356, 2, none⟩ = some (.int .i64 t1349) ∧ w'.cell? ⟨gb1356, 3, none⟩ = some (.int .i64 t1350) ∧ w'.cell? ⟨gb1356, 4, none⟩ = some (.slice Ao13 t1351.length co13)) (ds := []) #[false, false, false, false, false, false, false, false] (by kernel_rfl) rfl rfl ⟨(blk_cell BK1356.out 0).trans rfl, (blk_cell BK1356.out 1).trans rfl, (blk_cell BK1356.out 2).trans rfl, (blk_cell BK1356.out 3).trans rfl, (blk_cell BK1356.out 4).trans rfl⟩ (fun hHeld => ?_); refine with_tabW spec_DrawMakerAsk.tab4 spec_DrawMakerAsk.bits4 (fun HT_ HW_ => ?_)
  generalize w17.drew = w18 at HO1353 HO1359 BK1342 BK1356 HI1346 HB hHeld ⊢
  refine pure_ (i := 1) (N := some 16) (v := ?_) (a' := ?_) #[false, true, false, false, false, false, false, false] rfl rfl (any_of HT_.out (by kernel_rfl)) (fun _ _ _ h => h) (Or.inl ⟨by rfl, ?_⟩) ?_ ?_
  rotate_left
  · intro w'
    go_simp
    with_reducible rfl
  rotate_left
  · simp only [Act.put, List.setIfInBounds_toArray, List.set_cons_zero, List.set_cons_succ, i64_w, i32_w]
    rfl
  refine pure_ (i := 2) (N := some 17) (v := ?_) (a' := ?_) #[false, true, true, false, false, false, false, false] rfl rfl (any_of HT_.out (by kernel_rfl)) (fun _ _ _ h => h) (Or.inl ⟨by rfl, ?_⟩) ?_ ?_
  rotate_left
  · intro w'
    go_simp
    with_reducible rfl
  rotate_left
  · simp only [Act.put, List.setIfInBounds_toArray, List.set_cons_zero, List.set_cons_succ, i64_w, i32_w]
    rfl
  refine take_ (i := 0) (N := some 15) (v := ?_) (a' := ?_) #[true, true, true, false, false, false, false, false] rfl rfl (take_ofW HT_.out HW_.out (by kernel_rfl)) (fun _ _ _ h => h) (Or.inl ⟨by rfl, ?_⟩) hHeld ?_ ?_
  rotate_left
  · rintro w' ⟨s0, s1, s2, s3, s4⟩
    go_simp
    with_reducible rfl
  rotate_left
  · simp only [Act.put, List.setIfInBounds_toArray, List.set_cons_zero, List.set_cons_succ, i64_w, i32_w]
    rfl
  refine one_ (i := 3) (N := some 18) #[true, true, true, true, false, false, false, false] rfl rfl (one_of HT_.out (by kernel_rfl)) (by decide) (fun K hK => ?_)
  refine Kd.R_lit_step (Kd.int .i64) _ 3 ?hg (N := 18) ?hd (xs := ([0, 1, 2, 3, 4, 7, (-1), 9223372036854775807, (-9223372036854775808)] : List Int)) (inner := [.int .i64 0, .int .i64 1, .int .i64 2, .int .i64 3, .int .i64 4, .int .i64 7, .int .i64 (-1), .int .i64 9223372036854775807, .int .i64 (-9223372036854775808)]) (ok := fun _ => True) (okp := fun _ => True) ?hr ?hp (fun _ hk => hk) trivial (Below.refl _ _) (Nat.le_refl _) (by simp) ?_; (case hd => rfl); (case hg => rfl); (case hr => first | (go_simp; done) | (go_simp; rfl)); (case hp => exact (Reps.one (show Kd.M (Kd.int .i64) _ _ _ 0 [.int .i64 0] from rfl) (Reps.one (show Kd.M (Kd.int .i64) _ _ _ 1 [.int .i64 1] from rfl) (Reps.one (show Kd.M (Kd.int .i64) _ _ _ 2 [.int .i64 2] from rfl) (Reps.one (show Kd.M (Kd.int .i64) _ _ _ 3 [.int .i64 3] from rfl) (Reps.one (show Kd.M (Kd.int .i64) _ _ _ 4 [.int .i64 4] from rfl) (Reps.one (show Kd.M (Kd.int .i64) _ _ _ 7 [.int .i64 7] from rfl) (Reps.one (show Kd.M (Kd.int .i64) _ _ _ (-1) [.int .i64 (-1)] from rfl) (Reps.one (show Kd.M (Kd.int .i64) _ _ _ 9223372036854775807 [.int .i64 9223372036854775807] from rfl) (Reps.one (show Kd.M (Kd.int .i64) _ _ _ (-9223372036854775808) [.int .i64 (-9223372036854775808)] from rfl) (Reps.none _ _)))))))))))
  intro v1364 w19 ho20 hb hg_ hnew_
  clear hg_ hnew_
  (first | rw [← Ny1363.out] at ho20 | (simp only [Int.reduceToNat] at ho20; rw [← Ny1363.out] at ho20))
  have n0_ := Aside0.mk (Kd.R_below (by (with_reducible repeat (first | apply Kd.R_alloc | apply Kd.R_drewN | apply Kd.R_drew)); exact HO1353.out) hb)
  have n1_ := Aside0.mk (Kd.R_elder' (by (with_reducible repeat (first | apply Kd.R_alloc | apply Kd.R_drewN | apply Kd.R_drew)); exact HO1359.out) (Kd.R_base ho20) hb)
  have n2_ := Aside0.mk (Kd.R_lower (Kd.R_new' ho20 (Kd.R_lt (by (with_reducible repeat (first | apply Kd.R_alloc | apply Kd.R_drewN | apply Kd.R_drew)); exact HO1359.out))) (below_size (by repeat (first | (with_reducible first | exact HB.out | apply below_alloc | apply pw_below_drewN | apply below_drew1 | refine below_set ?_ (IsS_l1Cur.ge HI1346.out) | refine below_set ?_ GE1342.out | refine below_set ?_ GE1356.out) | exact HB.out))))
  have n3_ := Aside0.mk (blk_below (g := gb1342) (o := .cells #[.int .i64 0, .int .i64 0, .int .i64 0, .int .i64 0, .slice none 0 0] 54 (0, 0)) (by (with_reducible repeat (first | refine blk_drewN ?_ _ | refine blk_drew ?_ | refine blk_alloc ?_ _)); exact BK1342.out) hb)
  have n4_ := Aside0.mk (IsS_l1Cur.below (by repeat (first | (with_reducible first | exact HI1346.out | apply IsS_l1Cur.alloc | apply IsS_l1Cur.drewN | apply IsS_l1Cur.drew | apply IsS_l1Cur.set_1 | apply IsS_l1Cur.set_2 | refine IsS_l1Cur.far ?_ NB1346_1342.out _ | refine IsS_l1Cur.far ?_ NB1346_1356.out _) | exact HI1346.out)) hb)
  have n5_ := Aside0.mk (blk_below (g := gb1356) (o := .cells #[.int .i64 t1347, .int .i64 t1348, .int .i64 t1349, .int .i64 t1350, .slice Ao13 t1351.length co13] 54 (0, 0)) (by (with_reducible repeat (first | refine blk_drewN ?_ _ | refine blk_drew ?_ | refine blk_alloc ?_ _)); exact BK1356.out) hb)
  have n6_ := Aside0.mk (below_step (by repeat (first | (with_reducible first | exact HB.out | apply below_alloc | apply pw_below_drewN | apply below_drew1 | refine below_set ?_ (IsS_l1Cur.ge HI1346.out) | refine below_set ?_ GE1342.out | refine below_set ?_ GE1356.out) | exact HB.out)) hb)
  clear HO1353
  clear HO1359
  clear BK1342
  clear HI1346
  clear BK1356
  clear HB
  have HO1353 := n0_
  have HO1359 := n1_
  have HO1365 := n2_
  have BK1342 := n3_
  have HI1346 := n4_
  have BK1356 := n5_
  have HB := n6_
  clear n0_ n1_ n2_ n3_ n4_ n5_ n6_
  clear hb ho20
  obtain ⟨Ao21, co21, eo21⟩ := Kd.R_slice HO1365.out
  (first | subst eo21 | (injection eo21 with f1_ f2_ f3_; have f4_ := f1_.symm; have f5_ := f3_.symm; clear f1_ f2_ f3_; subst f4_; subst f5_))
  refine hK.out _ _ ⟨(blk_cell BK1356.out 0).trans rfl, (blk_cell BK1356.out 1).trans rfl, (blk_cell BK1356.out 2).trans rfl, (blk_cell BK1356.out 3).trans rfl, (blk_cell BK1356.out 4).trans rfl⟩ (fun hHeld => ?_)
  clear hK K
  refine norm_ (a' := ?_) ?_ ?_
  rotate_left
  · show Act.put _ (some 18) _ = _
    simp only [Act.put, List.setIfInBounds_toArray, List.set_cons_zero, List.set_cons_succ, i64_w, i32_w]
    rfl
  refine one_ (i := 4) (N := some 19) #[true, true, true, true, true, false, false, false] rfl rfl (one_of HT_.out (by kernel_rfl)) (by decide) (fun K hK => ?_)
  refine goes_ Try.func89 (by kernel_rfl) rfl #[.pointer (some ⟨g1346, 0, none⟩), .slice Ao21 y1363.length co21] (by rfl) rfl rfl (by (try simp only [List.map_toArray, List.map_cons, List.map_nil]); first | done | rfl | (simp only [List.length_drop, List.length_take]; rfl)) ?_
  with_reducible refine (spec_l1PickInt.calls g1346 t1343 t1361 t1362 _ _ y1363 t1366 t1367 t1368 w _ ?side1 ?side2 ?side3 ?side4 ?side5 A5.out).mono ?_
  (case side1 => repeat (first | (with_reducible first | exact HI1346.out | apply IsS_l1Cur.alloc | apply IsS_l1Cur.drewN | apply IsS_l1Cur.drew | apply IsS_l1Cur.set_1 | apply IsS_l1Cur.set_2 | refine IsS_l1Cur.far ?_ NB1346_1342.out _ | refine IsS_l1Cur.far ?_ NB1346_1356.out _) | exact HI1346.out))
  (case side2 => repeat (first | (with_reducible first | exact HB.out | apply below_alloc | apply pw_below_drewN | apply below_drew1 | refine below_set ?_ (IsS_l1Cur.ge HI1346.out) | refine below_set ?_ GE1342.out | refine below_set ?_ GE1356.out) | exact HB.out))
  (case side3 => repeat (first | exact (Kd.R_reads' HO1365.out).2.2 | (with_reducible refine Kd.C_alloc ?_ _) | (with_reducible refine Kd.C_drewN ?_ _) | (with_reducible refine Kd.C_drew ?_)))
  (case side4 => exact (Kd.R_reads' HO1365.out).2.1)
  (case side5 => exact far_slice (IsS_l1Cur.own_ne HI1346.out HO1365.out (by decide)))
  rintro e w22 ⟨rfl, hi, hb, hk⟩
  refine ⟨_, rfl, ?_⟩
  have n0_ := Aside0.mk (KeepBut.blk hk (g' := gb1342) (o := .cells #[.int .i64 0, .int .i64 0, .int .i64 0, .int .i64 0, .slice none 0 0] 54 (0, 0)) (by (with_reducible repeat (first | refine blk_drewN ?_ _ | refine blk_drew ?_ | refine blk_alloc ?_ _)); exact BK1342.out) NB1342_1346.out (by simp))
  have n1_ := Aside0.mk (Kd.R_mono (Kd.R_keep (IsS_l1Cur.apart (show IsS_l1Cur w _ g1346 t1343 t1361 t1362 from by repeat (first | (with_reducible first | exact HI1346.out | apply IsS_l1Cur.alloc | apply IsS_l1Cur.drewN | apply IsS_l1Cur.drew | apply IsS_l1Cur.set_1 | apply IsS_l1Cur.set_2 | refine IsS_l1Cur.far ?_ NB1346_1342.out _ | refine IsS_l1Cur.far ?_ NB1346_1356.out _) | exact HI1346.out)) (by (with_reducible repeat (first | apply Kd.R_alloc | apply Kd.R_drewN | apply Kd.R_drew)); exact HO1353.out) (by decide)) hk (fun _ h => h.2)) (fun _ h => h.1))
  have n2_ := Aside0.mk (KeepBut.blk hk (g' := gb1356) (o := .cells #[.int .i64 t1347, .int .i64 t1348, .int .i64 t1349, .int .i64 t1350, .slice Ao13 t1351.length co13] 54 (0, 0)) (by (with_reducible repeat (first | refine blk_drewN ?_ _ | refine blk_drew ?_ | refine blk_alloc ?_ _)); exact BK1356.out) NB1356_1346.out (by simp))
  have n3_ := Aside0.mk (Kd.R_mono (Kd.R_keep (IsS_l1Cur.apart (show IsS_l1Cur w _ g1346 t1343 t1361 t1362 from by repeat (first | (with_reducible first | exact HI1346.out | apply IsS_l1Cur.alloc | apply IsS_l1Cur.drewN | apply IsS_l1Cur.drew | apply IsS_l1Cur.set_1 | apply IsS_l1Cur.set_2 | refine IsS_l1Cur.far ?_ NB1346_1342.out _ | refine IsS_l1Cur.far ?_ NB1346_1356.out _) | exact HI1346.out)) (by (with_reducible repeat (first | apply Kd.R_alloc | apply Kd.R_drewN | apply Kd.R_drew)); exact HO1359.out) (by decide)) hk (fun _ h => h.2)) (fun _ h => h.1))
  have n4_ := Aside0.mk (Kd.R_mono (Kd.R_keep (IsS_l1Cur.apart (show IsS_l1Cur w _ g1346 t1343 t1361 t1362 from by repeat (first | (with_reducible first | exact HI1346.out | apply IsS_l1Cur.alloc | apply IsS_l1Cur.drewN | apply IsS_l1Cur.drew | apply IsS_l1Cur.set_1 | apply IsS_l1Cur.set_2 | refine IsS_l1Cur.far ?_ NB1346_1342.out _ | refine IsS_l1Cur.far ?_ NB1346_1356.out _) | exact HI1346.out)) (by (with_reducible repeat (first | apply Kd.R_alloc | apply Kd.R_drewN | apply Kd.R_drew)); exact HO1365.out) (by decide)) hk (fun _ h => h.2)) (fun _ h => h.1))
  have n5_ := Aside0.mk (hb)
  have n6_ := Aside0.mk (hi)
  clear BK1342
  clear HO1353
  clear BK1356
  clear HO1359
  clear HO1365
  clear HB
  clear HI1346
  have BK1342 := n0_
  have HO1353 := n1_
  have BK1356 := n2_
  have HO1359 := n3_
  have HO1365 := n4_
  have HB := n5_
  have HI1346 := n6_
  clear n0_ n1_ n2_ n3_ n4_ n5_ n6_
  (try clear hb)
  (try clear hb2)
  (try clear hk)
  (try clear hi)
  refine hK.out _ _ ⟨(blk_cell BK1356.out 0).trans rfl, (blk_cell BK1356.out 1).trans rfl, (blk_cell BK1356.out 2).trans rfl, (blk_cell BK1356.out 3).trans rfl, (blk_cell BK1356.out 4).trans rfl⟩ (fun hHeld => ?_)
  clear hK K
  refine norm_ (a' := ?_) ?_ ?_
  rotate_left
  · show Act.put _ (some 19) _ = _
    simp only [Act.put, List.setIfInBounds_toArray, List.set_cons_zero, List.set_cons_succ, i64_w, i32_w]
    rfl
  refine one_ (i := 5) (N := none) #[true, true, true, true, true, true, false, false] rfl rfl (one_of HT_.out (by kernel_rfl)) (by decide) (fun K hK => ?_)
  have hs23 : w22.cell? ⟨gb1342, 0, none⟩ = some (.int .i64 0) := (blk_cell BK1342.out 0).trans rfl
  have hfs23 := blk_frozen BK1342.out 0
  have hns23_1 := NB1356_1342.out
  have hms23_1 := NB1342_1356.out
  have hs24 : w22.cell? ⟨gb1342, 1, none⟩ = some (.int .i64 0) := (blk_cell BK1342.out 1).trans rfl
  have hfs24 := blk_frozen BK1342.out 1
  have hns24_1 := NB1356_1342.out
  have hms24_1 := NB1342_1356.out
  have hs25 : w22.cell? ⟨gb1342, 2, none⟩ = some (.int .i64 0) := (blk_cell BK1342.out 2).trans rfl
  have hfs25 := blk_frozen BK1342.out 2
  have hns25_1 := NB1356_1342.out
  have hms25_1 := NB1342_1356.out
  have hs26 : w22.cell? ⟨gb1342, 3, none⟩ = some (.int .i64 0) := (blk_cell BK1342.out 3).trans rfl
  have hfs26 := blk_frozen BK1342.out 3
  have hns26_1 := NB1356_1342.out
  have hms26_1 := NB1342_1356.out
  have hs27 : w22.cell? ⟨gb1342, 4, none⟩ = some (.slice none 0 0) := (blk_cell BK1342.out 4).trans rfl
  have hfs27 := blk_frozen BK1342.out 4
  have hns27_1 := NB1356_1342.out
  have hms27_1 := NB1342_1356.out
  refine skip_ (w1 := ?_) (by rfl) rfl ?_ ?_
  rotate_left
  · go_simp
    rfl
  refine hK.out _ _ ⟨((cell_far (p := ⟨gb1342, _, none⟩) NB1356_1342.out _).trans (((cell_far (p := ⟨gb1342, _, none⟩) NB1356_1342.out _).trans (((cell_far (p := ⟨gb1342, _, none⟩) NB1356_1342.out _).trans (((cell_far (p := ⟨gb1342, _, none⟩) NB1356_1342.out _).trans (((cell_far (p := ⟨gb1342, _, none⟩) NB1356_1342.out _).trans (hHeld.1)))))))))), ((cell_far (p := ⟨gb1342, _, none⟩) NB1356_1342.out _).trans (((cell_far (p := ⟨gb1342, _, none⟩) NB1356_1342.out _).trans (((cell_far (p := ⟨gb1342, _, none⟩) NB1356_1342.out _).trans (((cell_far (p := ⟨gb1342, _, none⟩) NB1356_1342.out _).trans (((cell_far (p := ⟨gb1342, _, none⟩) NB1356_1342.out _).trans (hHeld.2.1)))))))))), ((cell_far (p := ⟨gb1342, _, none⟩) NB1356_1342.out _).trans (((cell_far (p := ⟨gb1342, _, none⟩) NB1356_1342.out _).trans (((cell_far (p := ⟨gb1342, _, none⟩) NB1356_1342.out _).trans (((cell_far (p := ⟨gb1342, _, none⟩) NB1356_1342.out _).trans (((cell_far (p := ⟨gb1342, _, none⟩) NB1356_1342.out _).trans (hHeld.2.2.1)))))))))), ((cell_far (p := ⟨gb1342, _, none⟩) NB1356_1342.out _).trans (((cell_far (p := ⟨gb1342, _, none⟩) NB1356_1342.out _).trans (((cell_far (p := ⟨gb1342, _, none⟩) NB1356_1342.out _).trans (((cell_far (p := ⟨gb1342, _, none⟩) NB1356_1342.out _).trans (((cell_far (p := ⟨gb1342, _, none⟩) NB1356_1342.out _).trans (hHeld.2.2.2.1)))))))))), ((cell_far (p := ⟨gb1342, _, none⟩) NB1356_1342.out _).trans (((cell_far (p := ⟨gb1342, _, none⟩) NB1356_1342.out _).trans (((cell_far (p := ⟨gb1342, _, none⟩) NB1356_1342.out _).trans (((cell_far (p := ⟨gb1342, _, none⟩) NB1356_1342.out _).trans (((cell_far (p := ⟨gb1342, _, none⟩) NB1356_1342.out _).trans (hHeld.2.2.2.2))))))))))⟩ (fun hHeld => ?_)
  clear hK K
  refine pure_ (i := 6) (N := some 3) (v := ?_) (a' := ?_) #[true, true, true, true, true, true, true, false] rfl rfl (any_of HT_.out (by kernel_rfl)) (fun _ _ _ h => h) (Or.inl ⟨by rfl, ?_⟩) ?_ ?_
  rotate_left
  · intro w'
    go_simp
    with_reducible rfl
  rotate_left
  · simp only [Act.put, List.setIfInBounds_toArray, List.set_cons_zero, List.set_cons_succ, i64_w, i32_w]
    rfl
  refine pure_ (i := 7) (N := some 4) (v := ?_) (a' := ?_) #[true, true, true, true, true, true, true, true] rfl rfl (any_of HT_.out (by kernel_rfl)) (fun _ _ _ h => h) (Or.inl ⟨by rfl, ?_⟩) ?_ ?_
  rotate_left
  · intro w'
    go_simp
    with_reducible rfl
  rotate_left
  · simp only [Act.put, List.setIfInBounds_toArray, List.set_cons_zero, List.set_cons_succ, i64_w, i32_w]
    rfl
  refine done_ (done_of HT_.out (by kernel_rfl)) ?_
  try go_wp2
  refine bodyPost_ret (results_ctt rfl _ _ gb1342 54 #[.int .i64 t1347, .int .i64 t1348, .int .i64 t1349, .int .i64 t1350, .slice Ao13 t1351.length co13] (0, 0) _ rfl (by (with_reducible repeat (first | refine blk_drewN ?_ _ | refine blk_drew ?_ | refine blk_alloc ?_ _)); refine blk_put (cs := #[.int .i64 t1347, .int .i64 t1348, .int .i64 t1349, .int .i64 t1350, .slice none 0 0]) ?_ 4 _ rfl; (with_reducible repeat (first | refine blk_drewN ?_ _ | refine blk_drew ?_ | refine blk_alloc ?_ _)); refine blk_put (cs := #[.int .i64 t1347, .int .i64 t1348, .int .i64 t1349, .int .i64 0, .slice none 0 0]) ?_ 3 _ rfl; (with_reducible repeat (first | refine blk_drewN ?_ _ | refine blk_drew ?_ | refine blk_alloc ?_ _)); refine blk_put (cs := #[.int .i64 t1347, .int .i64 t1348, .int .i64 0, .int .i64 0, .slice none 0 0]) ?_ 2 _ rfl; (with_reducible repeat (first | refine blk_drewN ?_ _ | refine blk_drew ?_ | refine blk_alloc ?_ _)); refine blk_put (cs := #[.int .i64 t1347, .int .i64 0, .int .i64 0, .int .i64 0, .slice none 0 0]) ?_ 1 _ rfl; (with_reducible repeat (first | refine blk_drewN ?_ _ | refine blk_drew ?_ | refine blk_alloc ?_ _)); refine blk_put (cs := #[.int .i64 0, .int .i64 0, .int .i64 0, .int .i64 0, .slice none 0 0]) ?_ 0 _ rfl; (with_reducible repeat (first | refine blk_drewN ?_ _ | refine blk_drew ?_ | refine blk_alloc ?_ _)); exact BK1342.out) Try.underlying54 rfl (by kernel_rfl)) rfl ?_
  exact ⟨_, by first | rfl | (simp [errW_none, errW_some] <;> rfl) | (simp [*, errW_none, errW_some] <;> rfl), by (with_reducible repeat (first | apply Kd.R_alloc | apply Kd.R_drewN | apply Kd.R_drew)); exact Kd.R_mono (Kd.R_far (p := ⟨gb1342, 4, none⟩) (Kd.R_far (p := ⟨gb1342, 3, none⟩) (Kd.R_far (p := ⟨gb1342, 2, none⟩) (Kd.R_far (p := ⟨gb1342, 1, none⟩) (Kd.R_far (p := ⟨gb1342, 0, none⟩) (Kd.R_types HO1353.out BK1342.out (by decide)) (fun _ hk => hk.2) (.int .i64 t1347)) (fun _ hk => hk.2) (.int .i64 t1348)) (fun _ hk => hk.2) (.int .i64 t1349)) (fun _ hk => hk.2) (.int .i64 t1350)) (fun _ hk => hk.2) (.slice Ao13 t1351.length co13)) (fun _ hk => trivial), by repeat (first | (with_reducible first | exact HB.out | apply below_alloc | apply pw_below_drewN | apply below_drew1 | refine below_set ?_ (IsS_l1Cur.ge HI1346.out) | refine below_set ?_ GE1342.out | refine below_set ?_ GE1356.out) | exact HB.out)⟩
/-! ### laws_FnFenced: function 11 -/
mutual
def laws_FnFenced.j0 : Nat → List Int → Option (Bool)
 | 0, _ => none
 | k + 1, x0 => (spec_DrawMakerAsk.f k x0).bind fun bt1383 => ((impl_MakerAsk.f k bt1383.1 bt1383.2.1 bt1383.2.2.1 bt1383.2.2.2.1 bt1383.2.2.2.2.1 bt1383.2.2.2.2.2.1 bt1383.2.2.2.2.2.2).bind fun bt1393 => ((spec_MakerAsk.f k bt1383.1 bt1383.2.1 bt1383.2.2.1 bt1383.2.2.2.1 bt1383.2.2.2.2.1 bt1383.2.2.2.2.2.1 bt1383.2.2.2.2.2.2).bind fun bt1395 => (if bt1393.1 = bt1395.1 then (laws_FnFenced.j1 k bt1383.2.2.2.2.2.1 bt1383.2.2.2.2.2.2 bt1393.1 (bt1393.2 != bt1395.2) bt1383.1 bt1383.2.1 bt1383.2.2.1 bt1383.2.2.2.1 bt1383.2.2.2.2.1) else (laws_FnFenced.j1 k bt1383.2.2.2.2.2.1 bt1383.2.2.2.2.2.2 bt1393.1 true bt1383.1 bt1383.2.1 bt1383.2.2.1 bt1383.2.2.2.1 bt1383.2.2.2.2.1))))
def laws_FnFenced.j1 : Nat → Int → Int → Int → Bool → Int → Int → Int → Int → List (S_Mark) → Option (Bool)
 | 0, _, _, _, _, _, _, _, _, _ => none
 | k + 1, x4, x5, x6, x42, x1393000, x1393001, x1393002, x1393003, x1393004 => if x42 = true then (some false) else (laws_FnFenced.j2 k x4 x5 x6 x1393000 x1393001 x1393002 x1393003 x1393004)
def laws_FnFenced.j2 : Nat → Int → Int → Int → Int → Int → Int → Int → List (S_Mark) → Option (Bool)
 | 0, _, _, _, _, _, _, _, _ => none
 | k + 1, x4, x5, x6, x1393000, x1393001, x1393002, x1393003, x1393004 => if x4 < x1393002 then (if x6 = 4 then (if x4 > x1393002 then (if x5 = 0 then (laws_FnFenced.j3 k x4 x5 x6 false x1393000 x1393001 x1393002 x1393003 x1393004) else (laws_FnFenced.j3 k x4 x5 x6 (x6 != 3) x1393000 x1393001 x1393002 x1393003 x1393004)) else (laws_FnFenced.j3 k x4 x5 x6 false x1393000 x1393001 x1393002 x1393003 x1393004)) else (laws_FnFenced.j3 k x4 x5 x6 true x1393000 x1393001 x1393002 x1393003 x1393004)) else (if x4 > x1393002 then (if x5 = 0 then (laws_FnFenced.j3 k x4 x5 x6 false x1393000 x1393001 x1393002 x1393003 x1393004) else (laws_FnFenced.j3 k x4 x5 x6 (x6 != 3) x1393000 x1393001 x1393002 x1393003 x1393004)) else (laws_FnFenced.j3 k x4 x5 x6 false x1393000 x1393001 x1393002 x1393003 x1393004))
def laws_FnFenced.j3 : Nat → Int → Int → Int → Bool → Int → Int → Int → Int → List (S_Mark) → Option (Bool)
 | 0, _, _, _, _, _, _, _, _, _ => none
 | k + 1, x4, x5, x6, x64, x1393000, x1393001, x1393002, x1393003, x1393004 => if x64 = true then (some false) else (laws_FnFenced.j4 k x4 x5 x6 x1393000 x1393001 x1393002 x1393003 x1393004)
def laws_FnFenced.j4 : Nat → Int → Int → Int → Int → Int → Int → Int → List (S_Mark) → Option (Bool)
 | 0, _, _, _, _, _, _, _, _ => none
 | k + 1, x4, x5, x6, x1393000, x1393001, x1393002, x1393003, x1393004 => (impl_MakerOk.f k x1393000 x1393001 x1393002 x1393003 x1393004 5).bind fun t1397 => (if t1397 = true then (laws_FnFenced.j5 k x4 x5 x6 x1393000 x1393001 x1393002 x1393003 x1393004) else (some true))
def laws_FnFenced.j5 : Nat → Int → Int → Int → Int → Int → Int → Int → List (S_Mark) → Option (Bool)
 | 0, _, _, _, _, _, _, _, _ => none
 | k + 1, x4, x5, x6, x1393000, x1393001, x1393002, x1393003, x1393004 => (impl_MakerPut.f k x1393000 x1393001 x1393002 x1393003 x1393004 3 x4 x5 50).bind fun bt1398 => (if x6 = 0 then (laws_FnFenced.j6 k x4 x5 bt1398.1 bt1398.2.1 bt1398.2.2.1 bt1398.2.2.2.1 bt1398.2.2.2.2) else ((laws_sameMaker.f k bt1398.1 bt1398.2.1 bt1398.2.2.1 bt1398.2.2.2.1 bt1398.2.2.2.2 x1393000 x1393001 x1393002 x1393003 x1393004).bind fun t1406 => (some t1406)))
def laws_FnFenced.j6 : Nat → Int → Int → Int → Int → Int → Int → List (S_Mark) → Option (Bool)
 | 0, _, _, _, _, _, _, _ => none
 | k + 1, x4, x5, x1406000, x1406001, x1406002, x1406003, x1406004 => (impl_MakerAsk.f k x1406000 x1406001 x1406002 x1406003 x1406004 x4 x5).bind fun bt1407 => (if bt1407.1 = 1 then (if bt1407.2 = 50 then (if x1406003 = x5 then (some (x1406002 == x4)) else (some false)) else (some false)) else (some false))
end
def laws_FnFenced.f (k : Nat) (l0 : List Int) : Option (Bool) := (laws_big.f l0).bind fun t1382 => (if t1382 = true then (some true) else (laws_FnFenced.j0 k l0))
theorem laws_FnFenced.mono_l : ∀ k, (∀ y0, LeO (laws_FnFenced.j0 k y0) (laws_FnFenced.j0 (k + 1) y0)) ∧ (∀ y0 y1 y2 y3 y4 y5 y6 y7 y8, LeO (laws_FnFenced.j1 k y0 y1 y2 y3 y4 y5 y6 y7 y8) (laws_FnFenced.j1 (k + 1) y0 y1 y2 y3 y4 y5 y6 y7 y8)) ∧ (∀ y0 y1 y2 y3 y4 y5 y6 y7, LeO (laws_FnFenced.j2 k y0 y1 y2 y3 y4 y5 y6 y7) (laws_FnFenced.j2 (k + 1) y0 y1 y2 y3 y4 y5 y6 y7)) ∧ (∀ y0 y1 y2 y3 y4 y5 y6 y7 y8, LeO (laws_FnFenced.j3 k y0 y1 y2 y3 y4 y5 y6 y7 y8) (laws_FnFenced.j3 (k + 1) y0 y1 y2 y3 y4 y5 y6 y7 y8)) ∧ (∀ y0 y1 y2 y3 y4 y5 y6 y7, LeO (laws_FnFenced.j4 k y0 y1 y2 y3 y4 y5 y6 y7) (laws_FnFenced.j4 (k + 1) y0 y1 y2 y3 y4 y5 y6 y7)) ∧ (∀ y0 y1 y2 y3 y4 y5 y6 y7, LeO (laws_FnFenced.j5 k y0 y1 y2 y3 y4 y5 y6 y7) (laws_FnFenced.j5 (k + 1) y0 y1 y2 y3 y4 y5 y6 y7)) ∧ (∀ y0 y1 y2 y3 y4 y5 y6, LeO (laws_FnFenced.j6 k y0 y1 y2 y3 y4 y5 y6) (laws_FnFenced.j6 (k + 1) y0 y1 y2 y3 y4 y5 y6))
 | 0 => ⟨fun _ r h => by simp [laws_FnFenced.j0] at h, fun _ _ _ _ _ _ _ _ _ r h => by simp [laws_FnFenced.j1] at h, fun _ _ _ _ _ _ _ _ r h => by simp [laws_FnFenced.j2] at h, fun _ _ _ _ _ _ _ _ _ r h => by simp [laws_FnFenced.j3] at h, fun _ _ _ _ _ _ _ _ r h => by simp [laws_FnFenced.j4] at h, fun _ _ _ _ _ _ _ _ r h => by simp [laws_FnFenced.j5] at h, fun _ _ _ _ _ _ _ r h => by simp [laws_FnFenced.j6] at h⟩
 | k + 1 => by
  obtain ⟨ih0, ih1, ih2, ih3, ih4, ih5, ih6⟩ := laws_FnFenced.mono_l k
  refine ⟨?_, ?_, ?_, ?_, ?_, ?_, ?_⟩
  ·
   intro y0
   unfold laws_FnFenced.j0
   repeat' first
   | (with_reducible exact ih0 _)
   | (with_reducible exact ih1 _ _ _ _ _ _ _ _ _)
   | (with_reducible exact ih2 _ _ _ _ _ _ _ _)
   | (with_reducible exact ih3 _ _ _ _ _ _ _ _ _)
   | (with_reducible exact ih4 _ _ _ _ _ _ _ _)
   | (with_reducible exact ih5 _ _ _ _ _ _ _ _)
   | (with_reducible exact ih6 _ _ _ _ _ _ _)
   | (with_reducible exact impl_MakerAsk.mono _ _ _ _ _ _ _ _)
   | (with_reducible exact impl_MakerOk.mono _ _ _ _ _ _ _)
   | (with_reducible exact impl_MakerPut.mono _ _ _ _ _ _ _ _ _ _)
   | (with_reducible exact laws_sameMaker.mono _ _ _ _ _ _ _ _ _ _ _)
   | (with_reducible exact spec_DrawMakerAsk.mono _ _)
   | (with_reducible exact spec_MakerAsk.mono _ _ _ _ _ _ _ _)
   | (with_reducible exact LeO.refl _)
   | (with_reducible exact LeO.none _)
   | (with_reducible refine LeO.ite ?_ ?_)
   | (with_reducible refine LeO.bind ?_ (fun _ => ?_))
   | exact ih0 _
   | exact ih1 _ _ _ _ _ _ _ _ _
   | exact ih2 _ _ _ _ _ _ _ _
   | exact ih3 _ _ _ _ _ _ _ _ _
   | exact ih4 _ _ _ _ _ _ _ _
   | exact ih5 _ _ _ _ _ _ _ _
   | exact ih6 _ _ _ _ _ _ _
   | exact impl_MakerAsk.mono _ _ _ _ _ _ _ _
   | exact impl_MakerOk.mono _ _ _ _ _ _ _
   | exact impl_MakerPut.mono _ _ _ _ _ _ _ _ _ _
   | exact laws_sameMaker.mono _ _ _ _ _ _ _ _ _ _ _
   | exact spec_DrawMakerAsk.mono _ _
   | exact spec_MakerAsk.mono _ _ _ _ _ _ _ _
   | exact LeO.none _
   | refine LeO.ite ?_ ?_
   | refine LeO.bind ?_ (fun _ => ?_)
  ·
   intro y0 y1 y2 y3 y4 y5 y6 y7 y8
   unfold laws_FnFenced.j1
   repeat' first
   | (with_reducible exact ih0 _)
   | (with_reducible exact ih1 _ _ _ _ _ _ _ _ _)
   | (with_reducible exact ih2 _ _ _ _ _ _ _ _)
   | (with_reducible exact ih3 _ _ _ _ _ _ _ _ _)
   | (with_reducible exact ih4 _ _ _ _ _ _ _ _)
   | (with_reducible exact ih5 _ _ _ _ _ _ _ _)
   | (with_reducible exact ih6 _ _ _ _ _ _ _)
   | (with_reducible exact impl_MakerAsk.mono _ _ _ _ _ _ _ _)
   | (with_reducible exact impl_MakerOk.mono _ _ _ _ _ _ _)
   | (with_reducible exact impl_MakerPut.mono _ _ _ _ _ _ _ _ _ _)
   | (with_reducible exact laws_sameMaker.mono _ _ _ _ _ _ _ _ _ _ _)
   | (with_reducible exact spec_DrawMakerAsk.mono _ _)
   | (with_reducible exact spec_MakerAsk.mono _ _ _ _ _ _ _ _)
   | (with_reducible exact LeO.refl _)
   | (with_reducible exact LeO.none _)
   | (with_reducible refine LeO.ite ?_ ?_)
   | (with_reducible refine LeO.bind ?_ (fun _ => ?_))
   | exact ih0 _
   | exact ih1 _ _ _ _ _ _ _ _ _
   | exact ih2 _ _ _ _ _ _ _ _
   | exact ih3 _ _ _ _ _ _ _ _ _
   | exact ih4 _ _ _ _ _ _ _ _
   | exact ih5 _ _ _ _ _ _ _ _
   | exact ih6 _ _ _ _ _ _ _
   | exact impl_MakerAsk.mono _ _ _ _ _ _ _ _
   | exact impl_MakerOk.mono _ _ _ _ _ _ _
   | exact impl_MakerPut.mono _ _ _ _ _ _ _ _ _ _
   | exact laws_sameMaker.mono _ _ _ _ _ _ _ _ _ _ _
   | exact spec_DrawMakerAsk.mono _ _
   | exact spec_MakerAsk.mono _ _ _ _ _ _ _ _
   | exact LeO.none _
   | refine LeO.ite ?_ ?_
   | refine LeO.bind ?_ (fun _ => ?_)
  ·
   intro y0 y1 y2 y3 y4 y5 y6 y7
   unfold laws_FnFenced.j2
   repeat' first
   | (with_reducible exact ih0 _)
   | (with_reducible exact ih1 _ _ _ _ _ _ _ _ _)
   | (with_reducible exact ih2 _ _ _ _ _ _ _ _)
   | (with_reducible exact ih3 _ _ _ _ _ _ _ _ _)
   | (with_reducible exact ih4 _ _ _ _ _ _ _ _)
   | (with_reducible exact ih5 _ _ _ _ _ _ _ _)
   | (with_reducible exact ih6 _ _ _ _ _ _ _)
   | (with_reducible exact impl_MakerAsk.mono _ _ _ _ _ _ _ _)
   | (with_reducible exact impl_MakerOk.mono _ _ _ _ _ _ _)
   | (with_reducible exact impl_MakerPut.mono _ _ _ _ _ _ _ _ _ _)
   | (with_reducible exact laws_sameMaker.mono _ _ _ _ _ _ _ _ _ _ _)
   | (with_reducible exact spec_DrawMakerAsk.mono _ _)
   | (with_reducible exact spec_MakerAsk.mono _ _ _ _ _ _ _ _)
   | (with_reducible exact LeO.refl _)
   | (with_reducible exact LeO.none _)
   | (with_reducible refine LeO.ite ?_ ?_)
   | (with_reducible refine LeO.bind ?_ (fun _ => ?_))
   | exact ih0 _
   | exact ih1 _ _ _ _ _ _ _ _ _
   | exact ih2 _ _ _ _ _ _ _ _
   | exact ih3 _ _ _ _ _ _ _ _ _
   | exact ih4 _ _ _ _ _ _ _ _
   | exact ih5 _ _ _ _ _ _ _ _
   | exact ih6 _ _ _ _ _ _ _
   | exact impl_MakerAsk.mono _ _ _ _ _ _ _ _
   | exact impl_MakerOk.mono _ _ _ _ _ _ _
   | exact impl_MakerPut.mono _ _ _ _ _ _ _ _ _ _
   | exact laws_sameMaker.mono _ _ _ _ _ _ _ _ _ _ _
   | exact spec_DrawMakerAsk.mono _ _
   | exact spec_MakerAsk.mono _ _ _ _ _ _ _ _
   | exact LeO.none _
   | refine LeO.ite ?_ ?_
   | refine LeO.bind ?_ (fun _ => ?_)
  ·
   intro y0 y1 y2 y3 y4 y5 y6 y7 y8
   unfold laws_FnFenced.j3
   repeat' first
   | (with_reducible exact ih0 _)
   | (with_reducible exact ih1 _ _ _ _ _ _ _ _ _)
   | (with_reducible exact ih2 _ _ _ _ _ _ _ _)
   | (with_reducible exact ih3 _ _ _ _ _ _ _ _ _)
   | (with_reducible exact ih4 _ _ _ _ _ _ _ _)
   | (with_reducible exact ih5 _ _ _ _ _ _ _ _)
   | (with_reducible exact ih6 _ _ _ _ _ _ _)
   | (with_reducible exact impl_MakerAsk.mono _ _ _ _ _ _ _ _)
   | (with_reducible exact impl_MakerOk.mono _ _ _ _ _ _ _)
   | (with_reducible exact impl_MakerPut.mono _ _ _ _ _ _ _ _ _ _)
   | (with_reducible exact laws_sameMaker.mono _ _ _ _ _ _ _ _ _ _ _)
   | (with_reducible exact spec_DrawMakerAsk.mono _ _)
   | (with_reducible exact spec_MakerAsk.mono _ _ _ _ _ _ _ _)
   | (with_reducible exact LeO.refl _)
   | (with_reducible exact LeO.none _)
   | (with_reducible refine LeO.ite ?_ ?_)
   | (with_reducible refine LeO.bind ?_ (fun _ => ?_))
   | exact ih0 _
   | exact ih1 _ _ _ _ _ _ _ _ _
   | exact ih2 _ _ _ _ _ _ _ _
   | exact ih3 _ _ _ _ _ _ _ _ _
   | exact ih4 _ _ _ _ _ _ _ _
   | exact ih5 _ _ _ _ _ _ _ _
   | exact ih6 _ _ _ _ _ _ _
   | exact impl_MakerAsk.mono _ _ _ _ _ _ _ _
   | exact impl_MakerOk.mono _ _ _ _ _ _ _
   | exact impl_MakerPut.mono _ _ _ _ _ _ _ _ _ _
   | exact laws_sameMaker.mono _ _ _ _ _ _ _ _ _ _ _
   | exact spec_DrawMakerAsk.mono _ _
   | exact spec_MakerAsk.mono _ _ _ _ _ _ _ _
   | exact LeO.none _
   | refine LeO.ite ?_ ?_
   | refine LeO.bind ?_ (fun _ => ?_)
  ·
   intro y0 y1 y2 y3 y4 y5 y6 y7
   unfold laws_FnFenced.j4
   repeat' first
   | (with_reducible exact ih0 _)
   | (with_reducible exact ih1 _ _ _ _ _ _ _ _ _)
   | (with_reducible exact ih2 _ _ _ _ _ _ _ _)
   | (with_reducible exact ih3 _ _ _ _ _ _ _ _ _)
   | (with_reducible exact ih4 _ _ _ _ _ _ _ _)
   | (with_reducible exact ih5 _ _ _ _ _ _ _ _)
   | (with_reducible exact ih6 _ _ _ _ _ _ _)
   | (with_reducible exact impl_MakerAsk.mono _ _ _ _ _ _ _ _)
   | (with_reducible exact impl_MakerOk.mono _ _ _ _ _ _ _)
   | (with_reducible exact impl_MakerPut.mono _ _ _ _ _ _ _ _ _ _)
   | (with_reducible exact laws_sameMaker.mono _ _ _ _ _ _ _ _ _ _ _)
   | (with_reducible exact spec_DrawMakerAsk.mono _ _)
   | (with_reducible exact spec_MakerAsk.mono _ _ _ _ _ _ _ _)
   | (with_reducible exact LeO.refl _)
   | (with_reducible exact LeO.none _)
   | (with_reducible refine LeO.ite ?_ ?_)
   | (with_reducible refine LeO.bind ?_ (fun _ => ?_))
   | exact ih0 _
   | exact ih1 _ _ _ _ _ _ _ _ _
   | exact ih2 _ _ _ _ _ _ _ _
   | exact ih3 _ _ _ _ _ _ _ _ _
   | exact ih4 _ _ _ _ _ _ _ _
   | exact ih5 _ _ _ _ _ _ _ _
   | exact ih6 _ _ _ _ _ _ _
   | exact impl_MakerAsk.mono _ _ _ _ _ _ _ _
   | exact impl_MakerOk.mono _ _ _ _ _ _ _
   | exact impl_MakerPut.mono _ _ _ _ _ _ _ _ _ _
   | exact laws_sameMaker.mono _ _ _ _ _ _ _ _ _ _ _
   | exact spec_DrawMakerAsk.mono _ _
   | exact spec_MakerAsk.mono _ _ _ _ _ _ _ _
   | exact LeO.none _
   | refine LeO.ite ?_ ?_
   | refine LeO.bind ?_ (fun _ => ?_)
  ·
   intro y0 y1 y2 y3 y4 y5 y6 y7
   unfold laws_FnFenced.j5
   repeat' first
   | (with_reducible exact ih0 _)
   | (with_reducible exact ih1 _ _ _ _ _ _ _ _ _)
   | (with_reducible exact ih2 _ _ _ _ _ _ _ _)
   | (with_reducible exact ih3 _ _ _ _ _ _ _ _ _)
   | (with_reducible exact ih4 _ _ _ _ _ _ _ _)
   | (with_reducible exact ih5 _ _ _ _ _ _ _ _)
   | (with_reducible exact ih6 _ _ _ _ _ _ _)
   | (with_reducible exact impl_MakerAsk.mono _ _ _ _ _ _ _ _)
   | (with_reducible exact impl_MakerOk.mono _ _ _ _ _ _ _)
   | (with_reducible exact impl_MakerPut.mono _ _ _ _ _ _ _ _ _ _)
   | (with_reducible exact laws_sameMaker.mono _ _ _ _ _ _ _ _ _ _ _)
   | (with_reducible exact spec_DrawMakerAsk.mono _ _)
   | (with_reducible exact spec_MakerAsk.mono _ _ _ _ _ _ _ _)
   | (with_reducible exact LeO.refl _)
   | (with_reducible exact LeO.none _)
   | (with_reducible refine LeO.ite ?_ ?_)
   | (with_reducible refine LeO.bind ?_ (fun _ => ?_))
   | exact ih0 _
   | exact ih1 _ _ _ _ _ _ _ _ _
   | exact ih2 _ _ _ _ _ _ _ _
   | exact ih3 _ _ _ _ _ _ _ _ _
   | exact ih4 _ _ _ _ _ _ _ _
   | exact ih5 _ _ _ _ _ _ _ _
   | exact ih6 _ _ _ _ _ _ _
   | exact impl_MakerAsk.mono _ _ _ _ _ _ _ _
   | exact impl_MakerOk.mono _ _ _ _ _ _ _
   | exact impl_MakerPut.mono _ _ _ _ _ _ _ _ _ _
   | exact laws_sameMaker.mono _ _ _ _ _ _ _ _ _ _ _
   | exact spec_DrawMakerAsk.mono _ _
   | exact spec_MakerAsk.mono _ _ _ _ _ _ _ _
   | exact LeO.none _
   | refine LeO.ite ?_ ?_
   | refine LeO.bind ?_ (fun _ => ?_)
  ·
   intro y0 y1 y2 y3 y4 y5 y6
   unfold laws_FnFenced.j6
   repeat' first
   | (with_reducible exact ih0 _)
   | (with_reducible exact ih1 _ _ _ _ _ _ _ _ _)
   | (with_reducible exact ih2 _ _ _ _ _ _ _ _)
   | (with_reducible exact ih3 _ _ _ _ _ _ _ _ _)
   | (with_reducible exact ih4 _ _ _ _ _ _ _ _)
   | (with_reducible exact ih5 _ _ _ _ _ _ _ _)
   | (with_reducible exact ih6 _ _ _ _ _ _ _)
   | (with_reducible exact impl_MakerAsk.mono _ _ _ _ _ _ _ _)
   | (with_reducible exact impl_MakerOk.mono _ _ _ _ _ _ _)
   | (with_reducible exact impl_MakerPut.mono _ _ _ _ _ _ _ _ _ _)
   | (with_reducible exact laws_sameMaker.mono _ _ _ _ _ _ _ _ _ _ _)
   | (with_reducible exact spec_DrawMakerAsk.mono _ _)
   | (with_reducible exact spec_MakerAsk.mono _ _ _ _ _ _ _ _)
   | (with_reducible exact LeO.refl _)
   | (with_reducible exact LeO.none _)
   | (with_reducible refine LeO.ite ?_ ?_)
   | (with_reducible refine LeO.bind ?_ (fun _ => ?_))
   | exact ih0 _
   | exact ih1 _ _ _ _ _ _ _ _ _
   | exact ih2 _ _ _ _ _ _ _ _
   | exact ih3 _ _ _ _ _ _ _ _ _
   | exact ih4 _ _ _ _ _ _ _ _
   | exact ih5 _ _ _ _ _ _ _ _
   | exact ih6 _ _ _ _ _ _ _
   | exact impl_MakerAsk.mono _ _ _ _ _ _ _ _
   | exact impl_MakerOk.mono _ _ _ _ _ _ _
   | exact impl_MakerPut.mono _ _ _ _ _ _ _ _ _ _
   | exact laws_sameMaker.mono _ _ _ _ _ _ _ _ _ _ _
   | exact spec_DrawMakerAsk.mono _ _
   | exact spec_MakerAsk.mono _ _ _ _ _ _ _ _
   | exact LeO.none _
   | refine LeO.ite ?_ ?_
   | refine LeO.bind ?_ (fun _ => ?_)
theorem laws_FnFenced.mono : ∀ a0 k, LeO (laws_FnFenced.f k a0) (laws_FnFenced.f (k + 1) a0) := by
 intro a0 k
 obtain ⟨ih0, ih1, ih2, ih3, ih4, ih5, ih6⟩ := laws_FnFenced.mono_l k
 unfold laws_FnFenced.f
 repeat' first
  | (with_reducible exact ih0 _)
  | (with_reducible exact ih1 _ _ _ _ _ _ _ _ _)
  | (with_reducible exact ih2 _ _ _ _ _ _ _ _)
  | (with_reducible exact ih3 _ _ _ _ _ _ _ _ _)
  | (with_reducible exact ih4 _ _ _ _ _ _ _ _)
  | (with_reducible exact ih5 _ _ _ _ _ _ _ _)
  | (with_reducible exact ih6 _ _ _ _ _ _ _)
  | (with_reducible exact impl_MakerAsk.mono _ _ _ _ _ _ _ _)
  | (with_reducible exact impl_MakerOk.mono _ _ _ _ _ _ _)
  | (with_reducible exact impl_MakerPut.mono _ _ _ _ _ _ _ _ _ _)
  | (with_reducible exact laws_sameMaker.mono _ _ _ _ _ _ _ _ _ _ _)
  | (with_reducible exact spec_DrawMakerAsk.mono _ _)
  | (with_reducible exact spec_MakerAsk.mono _ _ _ _ _ _ _ _)
  | (with_reducible exact LeO.refl _)
  | (with_reducible exact LeO.none _)
  | (with_reducible refine LeO.ite ?_ ?_)
  | (with_reducible refine LeO.bind ?_ (fun _ => ?_))
  | exact ih0 _
  | exact ih1 _ _ _ _ _ _ _ _ _
  | exact ih2 _ _ _ _ _ _ _ _
  | exact ih3 _ _ _ _ _ _ _ _ _
  | exact ih4 _ _ _ _ _ _ _ _
  | exact ih5 _ _ _ _ _ _ _ _
  | exact ih6 _ _ _ _ _ _ _
  | exact impl_MakerAsk.mono _ _ _ _ _ _ _ _
  | exact impl_MakerOk.mono _ _ _ _ _ _ _
  | exact impl_MakerPut.mono _ _ _ _ _ _ _ _ _ _
  | exact laws_sameMaker.mono _ _ _ _ _ _ _ _ _ _ _
  | exact spec_DrawMakerAsk.mono _ _
  | exact spec_MakerAsk.mono _ _ _ _ _ _ _ _
  | exact LeO.none _
  | refine LeO.ite ?_ ?_
  | refine LeO.bind ?_ (fun _ => ?_)
set_option maxHeartbeats 8000000 in
set_option maxRecDepth 100000 in
theorem laws_FnFenced.calls (k : Nat) (A0 : Option Addr) (c0 : Nat) (l0 : List Int) (r : Bool) (w : World) (hr0 : Kd.C (Kd.int .u8) w A0 l0.length l0) (hc0 : l0.length ≤ c0) (h : laws_FnFenced.f k l0 = some r) :
 Calls Try.prog 11 #[.slice A0 l0.length c0] w fun e w' => e = .returned (.bool r) ∧ Below w.heap.size w w' := by
 have hu54 := Try.underlying54
 have HR0 := Aside0.mk hr0
 have HC0 := Aside0.mk hc0
 clear hr0 hc0
 have HB := Aside0.mk (Below.refl w.heap.size w)
 have H : ((laws_big.f l0).bind fun t1382 => (if t1382 = true then (some true) else (laws_FnFenced.j0 k l0))) = some r := h
 clear h
 replace H := Option.bind_eq_some_iff.mp H
 obtain ⟨t1382, A20, H⟩ := H
 replace H : (if t1382 = true then (some true) else (laws_FnFenced.j0 k l0)) = some r := H
 have A2 := Aside0.mk A20
 clear A20
 have HC3 := Aside0.mk H
 clear H
 go_enter Try.func11, Try.ntmps11
 go_upto_if 14 with (first | ((with_reducible refine gate_callee (f := 33) rfl ?_); refine goesL_ (some 14) rfl rfl Try.func33 (by kernel_rfl) rfl #[.slice A0 l0.length c0] rfl sm_ ?_; (with_reducible refine (laws_big.calls _ _ l0 t1382 _ ?side1 ?side2 A2.out).mono ?_); (case side1 => repeat (first | exact HR0.out | (with_reducible refine Kd.C_alloc ?_ _) | (with_reducible refine Kd.C_drewN ?_ _) | (with_reducible refine Kd.C_drew ?_))); (case side2 => exact HC0.out); rintro e w' ⟨rfl, ⟨nd, rfl⟩⟩; refine ⟨_, rfl, ?_⟩))
 (try simp only [Act.put, List.setIfInBounds_toArray, List.set_cons_zero, List.set_cons_succ])
 go_cut [] (fun wc => ∃ (kq : Nat), Aside0 (laws_FnFenced.j0 kq l0 = some r) ∧ Aside0 (kq ≤ k) ∧ Aside0 (Below w.heap.size w wc))
 case first =>
  have H := HC3.out
  clear HC3
  by_cases c4 : t1382 = true
  ·
   subst c4
   have H1 : (some true) = some r := by rw [if_pos rfl] at H; exact H
   clear H
   have H := H1
   clear H1
   obtain rfl := Option.some.inj H
   go_wp2
   go_ret
   exact ⟨er_, hb_ HB.out⟩
  ·
   replace c4 := Bool.eq_false_iff.mpr c4
   subst c4
   have H1 : (laws_FnFenced.j0 k l0) = some r := by rw [if_neg (show ¬ (false = true) by decide)] at H; exact H
   clear H
   have H := H1
   clear H1
   have H' := Aside0.mk H
   clear H
   go_wp2
   go_meet
   case rel => exact ⟨_, H', ⟨by first | omega | exact Nat.le_refl _⟩, ⟨hb_ HB.out⟩⟩
 case rest =>
  clear HC3
  (try clear c1); (try clear p2); (try clear c3); (try clear c4)
  obtain ⟨kq, HA, HJ2, HB⟩ := hcut
  cases kq with
  | zero => exact absurd HA.out (by simp [laws_FnFenced.j0])
  | succ kj2 =>
   have H := HA.out
   clear HA
   simp only [laws_FnFenced.j0] at H
   replace H := Option.bind_eq_some_iff.mp H
   obtain ⟨⟨t1383, t1384, t1385, t1386, t1387, t1390, t1391⟩, A50, H⟩ := H
   replace H : ((impl_MakerAsk.f kj2 t1383 t1384 t1385 t1386 t1387 t1390 t1391).bind fun bt1393 => ((spec_MakerAsk.f kj2 t1383 t1384 t1385 t1386 t1387 t1390 t1391).bind fun bt1395 => (if bt1393.1 = bt1395.1 then (laws_FnFenced.j1 kj2 t1390 t1391 bt1393.1 (bt1393.2 != bt1395.2) t1383 t1384 t1385 t1386 t1387) else (laws_FnFenced.j1 kj2 t1390 t1391 bt1393.1 true t1383 t1384 t1385 t1386 t1387)))) = some r := H
   have A5 := Aside0.mk A50
   clear A50
   replace H := Option.bind_eq_some_iff.mp H
   obtain ⟨⟨t1393, t1394⟩, A60, H⟩ := H
   replace H : ((spec_MakerAsk.f kj2 t1383 t1384 t1385 t1386 t1387 t1390 t1391).bind fun bt1395 => (if t1393 = bt1395.1 then (laws_FnFenced.j1 kj2 t1390 t1391 t1393 (t1394 != bt1395.2) t1383 t1384 t1385 t1386 t1387) else (laws_FnFenced.j1 kj2 t1390 t1391 t1393 true t1383 t1384 t1385 t1386 t1387))) = some r := H
   have A6 := Aside0.mk A60
   clear A60
   replace H := Option.bind_eq_some_iff.mp H
   obtain ⟨⟨t1395, t1396⟩, A70, H⟩ := H
   replace H : (if t1393 = t1395 then (laws_FnFenced.j1 kj2 t1390 t1391 t1393 (t1394 != t1396) t1383 t1384 t1385 t1386 t1387) else (laws_FnFenced.j1 kj2 t1390 t1391 t1393 true t1383 t1384 t1385 t1386 t1387)) = some r := H
   have A7 := Aside0.mk A70
   clear A70
   have HC8 := Aside0.mk H
   clear H
   go_upto_region 6 with (first | ((with_reducible refine gate_callee (f := 59) rfl ?_); refine goesL_ (some 17) rfl rfl Try.func59 (by kernel_rfl) rfl #[.slice A0 l0.length c0] rfl sm_ ?_; (with_reducible refine (spec_DrawMakerAsk.calls kj2 _ _ l0 t1383 t1384 t1385 t1386 t1387 t1390 t1391 _ ?side1 ?side2 A5.out).mono ?_); (case side1 => repeat (first | exact (Kd.C_below HR0.out HB.out) | (with_reducible refine Kd.C_alloc ?_ _) | (with_reducible refine Kd.C_drewN ?_ _) | (with_reducible refine Kd.C_drew ?_))); (case side2 => exact HC0.out); rintro e w9 ⟨v1388, rfl, ho0, hb⟩; refine ⟨_, rfl, ?_⟩; have n0_ := Aside0.mk (Kd.R_lower ho0 (below_size (hb_ HB.out))); have n1_ := Aside0.mk (below_step (hb_ HB.out) hb); clear HB; have HO1389 := n0_; have HB := n1_; clear n0_ n1_; (try clear hb); (try clear hb2); (try clear hk); (try clear hi); (try clear ho0)) | ((with_reducible refine gate_dst (N := 3) rfl ?_); refine box_event ?hg (N := 3) ?hd (cs := #[.int .i64 0, .int .i64 0, .int .i64 0, .int .i64 0, .slice none 0 0]) (t := 54) ?hr ?_; (case hd => rfl); (case hg => rfl); (case hr => first | (go_simp; done) | (go_simp; rfl)); intro gb1392 hg w10 hbox hb; have n0_ := Aside0.mk (Kd.R_below (rq_ HO1389.out) hb); have n1_ := Aside0.mk (below_step (hb_ HB.out) hb); have n2_ := Aside0.mk (hbox); have n3_ := Aside0.mk ((by rw [hg]; exact (below_size (hb_ HB.out)) : w.heap.size ≤ gb1392)); have n4_ := Aside0.mk ((by rw [hg]; exact (below_size (hb_ HB.out)) : w.heap.size ≤ gb1392)); clear HO1389; clear HB; have HO1389 := n0_; have HB := n1_; have BK1392 := n2_; have GW1392 := n3_; have GE1392 := n4_; clear n0_ n1_ n2_ n3_ n4_; clear hb hbox hg; have hcz11_0 : w10.cell? ⟨gb1392, 0, none⟩ = some (.int .i64 0) := (blk_cell BK1392.out 0).trans rfl; have hcz11_1 : w10.cell? ⟨gb1392, 1, none⟩ = some (.int .i64 0) := (blk_cell BK1392.out 1).trans rfl; have hcz11_2 : w10.cell? ⟨gb1392, 2, none⟩ = some (.int .i64 0) := (blk_cell BK1392.out 2).trans rfl; have hcz11_3 : w10.cell? ⟨gb1392, 3, none⟩ = some (.int .i64 0) := (blk_cell BK1392.out 3).trans rfl; have hcz11_4 : w10.cell? ⟨gb1392, 4, none⟩ = some (.slice none 0 0) := (blk_cell BK1392.out 4).trans rfl; have hfz11_0 := blk_frozen BK1392.out 0; have hfz11_1 := blk_frozen BK1392.out 1; have hfz11_2 := blk_frozen BK1392.out 2; have hfz11_3 := blk_frozen BK1392.out 3; have hfz11_4 := blk_frozen BK1392.out 4; obtain ⟨Ao12, co12, eo12⟩ := Kd.R_slice HO1389.out; subst eo12) | ((with_reducible refine gate_callee (f := 29) rfl ?_); refine goesL_ (some 25) rfl rfl Try.func29 (by kernel_rfl) rfl #[.agg #[.int .i64 t1383, .int .i64 t1384, .int .i64 t1385, .int .i64 t1386, .slice Ao12 t1387.length co12], .int .i64 t1390, .int .i64 t1391] rfl sm_ ?_; (with_reducible refine (impl_MakerAsk.calls kj2 t1383 t1384 t1385 t1386 _ _ t1387 t1390 t1391 t1393 t1394 _ ?side1 ?side2 A6.out).mono ?_); (case side1 => refine (Kd.R_reads' (e := 118) (base := w.heap.size) (ok := fun k_ => True) (n := t1387.length) (c := co12) ?_).2.2; exact (rk_ HO1389.out BK1392.out)); (case side2 => exact (Kd.R_reads' HO1389.out).2.1); rintro e w13 ⟨rfl, hb⟩; refine ⟨_, rfl, ?_⟩; have n0_ := Aside0.mk (Kd.R_below (rk_ HO1389.out BK1392.out) hb); have n1_ := Aside0.mk (blk_below (g := gb1392) (o := .cells #[.int .i64 t1383, .int .i64 t1384, .int .i64 t1385, .int .i64 t1386, .slice Ao12 t1387.length co12] 54 (0, 0)) (bp_ BK1392.out) hb); have n2_ := Aside0.mk (below_step (hb_ HB.out) hb); clear HO1389; clear BK1392; clear HB; have HO1389 := n0_; have BK1392 := n1_; have HB := n2_; clear n0_ n1_ n2_; (try clear hb); (try clear hb2); (try clear hk); (try clear hi); have hcz14_0 : w13.cell? ⟨gb1392, 0, none⟩ = some (.int .i64 t1383) := (blk_cell BK1392.out 0).trans rfl; have hcz14_1 : w13.cell? ⟨gb1392, 1, none⟩ = some (.int .i64 t1384) := (blk_cell BK1392.out 1).trans rfl; have hcz14_2 : w13.cell? ⟨gb1392, 2, none⟩ = some (.int .i64 t1385) := (blk_cell BK1392.out 2).trans rfl; have hcz14_3 : w13.cell? ⟨gb1392, 3, none⟩ = some (.int .i64 t1386) := (blk_cell BK1392.out 3).trans rfl; have hcz14_4 : w13.cell? ⟨gb1392, 4, none⟩ = some (.slice Ao12 t1387.length co12) := (blk_cell BK1392.out 4).trans rfl; have hfz14_0 := blk_frozen BK1392.out 0; have hfz14_1 := blk_frozen BK1392.out 1; have hfz14_2 := blk_frozen BK1392.out 2; have hfz14_3 := blk_frozen BK1392.out 3; have hfz14_4 := blk_frozen BK1392.out 4) | ((with_reducible refine gate_callee (f := 27) rfl ?_); refine goesL_ (some 32) rfl rfl Try.func27 (by kernel_rfl) rfl #[.agg #[.int .i64 t1383, .int .i64 t1384, .int .i64 t1385, .int .i64 t1386, .slice Ao12 t1387.length co12], .int .i64 t1390, .int .i64 t1391] rfl sm_ ?_; (with_reducible refine (spec_MakerAsk.calls kj2 t1383 t1384 t1385 t1386 _ _ t1387 t1390 t1391 t1395 t1396 _ ?side1 ?side2 A7.out).mono ?_); (case side1 => repeat (first | exact (Kd.R_reads' HO1389.out).2.2 | (with_reducible refine Kd.C_alloc ?_ _) | (with_reducible refine Kd.C_drewN ?_ _) | (with_reducible refine Kd.C_drew ?_))); (case side2 => exact (Kd.R_reads' HO1389.out).2.1); rintro e w15 ⟨rfl, hb⟩; refine ⟨_, rfl, ?_⟩; have n0_ := Aside0.mk (Kd.R_below (rq_ HO1389.out) hb); have n1_ := Aside0.mk (bb_ BK1392.out hb); have n2_ := Aside0.mk (below_step (hb_ HB.out) hb); clear HO1389; clear BK1392; clear HB; have HO1389 := n0_; have BK1392 := n1_; have HB := n2_; clear n0_ n1_ n2_; (try clear hb); (try clear hb2); (try clear hk); (try clear hi)))
   (try simp only [Act.put, List.setIfInBounds_toArray, List.set_cons_zero, List.set_cons_succ])
   go_cut [42] (fun v42 wc => ∃ (kq : Nat) (x42_7 : Bool), v42 = .bool x42_7 ∧ Aside0 (laws_FnFenced.j1 kq t1390 t1391 t1393 x42_7 t1383 t1384 t1385 t1386 t1387 = some r) ∧ Aside0 (kq ≤ kj2) ∧ Aside0 (Kd.R k_Mark 118 wc w.heap.size (fun _ => True) (.slice Ao12 t1387.length co12) t1387) ∧ Aside0 (wc.heap[gb1392]? = some (.cells #[.int .i64 t1383, .int .i64 t1384, .int .i64 t1385, .int .i64 t1386, (.slice Ao12 t1387.length co12)] 54 (0, 0))) ∧ Aside0 (Below w.heap.size w wc))
   case first =>
    have H := HC8.out
    clear HC8
    by_cases c16 : t1393 = t1395
    ·
     rw [if_pos c16] at H
     have c16b0 : (t1393 == t1395) = true := beq_iff_eq.mpr c16
     have c16b1 : (t1393 != t1395) = false := bne_eq_false_iff_eq.mpr c16
     clear c16
     (first | rw [c16b0] | (simp only [i64_w, i32_w]; rw [c16b0]) | rw [c16b4] | rw [c16b3] | skip)
     have H' := Aside0.mk H
     clear H
     go_wp2
     go_meet
     case rel => exact ⟨_, ((t1394 != t1396)), (by first | rfl | (simp; done) | (simp [*]; done)), H', ⟨by have := HJ2.out; first | omega | exact Nat.le_refl _⟩, ⟨rq_ HO1389.out⟩, ⟨bq_ BK1392.out⟩, ⟨hb_ HB.out⟩⟩
    ·
     rw [if_neg c16] at H
     have c16b0 : (t1393 == t1395) = false := beq_eq_false_iff_ne.mpr c16
     have c16b1 : (t1393 != t1395) = true := bne_iff_ne.mpr c16
     (first | rw [c16b0] | (simp only [i64_w, i32_w]; rw [c16b0]) | rw [c16b4] | rw [c16b3] | skip)
     have H' := Aside0.mk H
     clear H
     go_wp2
     go_meet
     case rel => exact ⟨_, (true), (by first | rfl | (simp; done) | (simp [*]; done)), H', ⟨by have := HJ2.out; first | omega | exact Nat.le_refl _⟩, ⟨rq_ HO1389.out⟩, ⟨bq_ BK1392.out⟩, ⟨hb_ HB.out⟩⟩
   case rest =>
    clear HC8
    (try clear c1); (try clear c2); (try clear p2); (try clear c3); (try clear c4); (try clear c5); (try clear c11); (try clear c16); (try clear c16b0); (try clear c16b1); (try clear hcz11_0); (try clear hcz11_1); (try clear hcz11_2); (try clear hcz11_3); (try clear hcz11_4); (try clear hcz14_0); (try clear hcz14_1); (try clear hcz14_2); (try clear hcz14_3); (try clear hcz14_4); (try clear hfz11_0); (try clear hfz11_1); (try clear hfz11_2); (try clear hfz11_3); (try clear hfz11_4); (try clear hfz14_0); (try clear hfz14_1); (try clear hfz14_2); (try clear hfz14_3); (try clear hfz14_4); (try clear p2)
    obtain ⟨kq, x42_7, rfl, HA, HJ7, HO_1393004, BK1392, HB⟩ := hcut
    cases kq with
    | zero => exact absurd HA.out (by simp [laws_FnFenced.j1])
    | succ kj7 =>
     have H := HA.out
     clear HA
     simp only [laws_FnFenced.j1] at H
     have HC17 := Aside0.mk H
     clear H
     go_upto_if 42 with (fail)
     go_cut [] (fun wc => ∃ (kq : Nat), Aside0 (laws_FnFenced.j2 kq t1390 t1391 t1393 t1383 t1384 t1385 t1386 t1387 = some r) ∧ Aside0 (kq ≤ kj7) ∧ Aside0 (Kd.R k_Mark 118 wc w.heap.size (fun _ => True) (.slice Ao12 t1387.length co12) t1387) ∧ Aside0 (wc.heap[gb1392]? = some (.cells #[.int .i64 t1383, .int .i64 t1384, .int .i64 t1385, .int .i64 t1386, (.slice Ao12 t1387.length co12)] 54 (0, 0))) ∧ Aside0 (Below w.heap.size w wc))
     case first =>
      have H := HC17.out
      clear HC17
      by_cases c18 : x42_7 = true
      ·
       subst c18
       have H1 : (some false) = some r := by rw [if_pos rfl] at H; exact H
       clear H
       have H := H1
       clear H1
       obtain rfl := Option.some.inj H
       go_wp2
       go_ret
       exact ⟨er_, hb_ HB.out⟩
      ·
       replace c18 := Bool.eq_false_iff.mpr c18
       subst c18
       have H1 : (laws_FnFenced.j2 kj7 t1390 t1391 t1393 t1383 t1384 t1385 t1386 t1387) = some r := by rw [if_neg (show ¬ (false = true) by decide)] at H; exact H
       clear H
       have H := H1
       clear H1
       have H' := Aside0.mk H
       clear H
       go_wp2
       go_meet
       case rel => exact ⟨_, H', ⟨by have := HJ2.out; have := HJ7.out; first | omega | exact Nat.le_refl _⟩, ⟨rq_ HO_1393004.out⟩, ⟨bq_ BK1392.out⟩, ⟨hb_ HB.out⟩⟩
     case rest =>
      clear HC17
      (try clear c1); (try clear c2); (try clear p2); (try clear c3); (try clear c4); (try clear c5); (try clear c11); (try clear c16); (try clear c16b0); (try clear c16b1); (try clear c18); (try clear hcz11_0); (try clear hcz11_1); (try clear hcz11_2); (try clear hcz11_3); (try clear hcz11_4); (try clear hcz14_0); (try clear hcz14_1); (try clear hcz14_2); (try clear hcz14_3); (try clear hcz14_4); (try clear hfz11_0); (try clear hfz11_1); (try clear hfz11_2); (try clear hfz11_3); (try clear hfz11_4); (try clear hfz14_0); (try clear hfz14_1); (try clear hfz14_2); (try clear hfz14_3); (try clear hfz14_4); (try clear p2)
      obtain ⟨kq, HA, HJ16, HO_1393004, BK1392, HB⟩ := hcut
      cases kq with
      | zero => exact absurd HA.out (by simp [laws_FnFenced.j2])
      | succ kj16 =>
       have H := HA.out
       clear HA
       simp only [laws_FnFenced.j2] at H
       have HC19 := Aside0.mk H
       clear H
       go_upto_region 8 with (fail)
       go_cut [64] (fun v64 wc => ∃ (kq : Nat) (x64_18 : Bool), v64 = .bool x64_18 ∧ Aside0 (laws_FnFenced.j3 kq t1390 t1391 t1393 x64_18 t1383 t1384 t1385 t1386 t1387 = some r) ∧ Aside0 (kq ≤ kj16) ∧ Aside0 (Kd.R k_Mark 118 wc w.heap.size (fun _ => True) (.slice Ao12 t1387.length co12) t1387) ∧ Aside0 (wc.heap[gb1392]? = some (.cells #[.int .i64 t1383, .int .i64 t1384, .int .i64 t1385, .int .i64 t1386, (.slice Ao12 t1387.length co12)] 54 (0, 0))) ∧ Aside0 (Below w.heap.size w wc))
       case first =>
        have H := HC19.out
        clear HC19
        by_cases c20 : t1390 < t1385
        ·
         rw [if_pos c20] at H
         have c20b0 : decide (t1390 < t1385) = true := decide_eq_true c20
         clear c20
         (first | rw [c20b0] | (simp only [i64_w, i32_w]; rw [c20b0]) | rw [c20b4] | rw [c20b3] | skip)
         by_cases c21 : t1393 = 4
         ·
          rw [if_pos c21] at H
          have c21b0 : (t1393 == 4) = true := beq_iff_eq.mpr c21
          have c21b1 : (t1393 != 4) = false := bne_eq_false_iff_eq.mpr c21
          clear c21
          by_cases c22 : t1390 > t1385
          ·
           rw [if_pos c22] at H
           have c22b0 : decide (t1385 < t1390) = true := decide_eq_true c22
           clear c22
           by_cases c23 : t1391 = 0
           ·
            rw [if_pos c23] at H
            have c23b0 : (t1391 == 0) = true := beq_iff_eq.mpr c23
            have c23b1 : (t1391 != 0) = false := bne_eq_false_iff_eq.mpr c23
            clear c23
            have H' := Aside0.mk H
            clear H
            have hcz24_0 : wc.cell? ⟨gb1392, 0, none⟩ = some (.int .i64 t1383) := (blk_cell BK1392.out 0).trans rfl
            have hcz24_1 : wc.cell? ⟨gb1392, 1, none⟩ = some (.int .i64 t1384) := (blk_cell BK1392.out 1).trans rfl
            have hcz24_2 : wc.cell? ⟨gb1392, 2, none⟩ = some (.int .i64 t1385) := (blk_cell BK1392.out 2).trans rfl
            have hcz24_3 : wc.cell? ⟨gb1392, 3, none⟩ = some (.int .i64 t1386) := (blk_cell BK1392.out 3).trans rfl
            have hcz24_4 : wc.cell? ⟨gb1392, 4, none⟩ = some (.slice Ao12 t1387.length co12) := (blk_cell BK1392.out 4).trans rfl
            have hfz24_0 := blk_frozen BK1392.out 0
            have hfz24_1 := blk_frozen BK1392.out 1
            have hfz24_2 := blk_frozen BK1392.out 2
            have hfz24_3 := blk_frozen BK1392.out 3
            have hfz24_4 := blk_frozen BK1392.out 4
            go_wp2
            go_meet
            case rel => exact ⟨_, (false), (by first | rfl | (simp; done) | (simp [*]; done)), H', ⟨by have := HJ2.out; have := HJ7.out; have := HJ16.out; first | omega | exact Nat.le_refl _⟩, ⟨rq_ HO_1393004.out⟩, ⟨bq_ BK1392.out⟩, ⟨hb_ HB.out⟩⟩
           ·
            rw [if_neg c23] at H
            have c23b0 : (t1391 == 0) = false := beq_eq_false_iff_ne.mpr c23
            have c23b1 : (t1391 != 0) = true := bne_iff_ne.mpr c23
            have H' := Aside0.mk H
            clear H
            have hcz25_0 : wc.cell? ⟨gb1392, 0, none⟩ = some (.int .i64 t1383) := (blk_cell BK1392.out 0).trans rfl
            have hcz25_1 : wc.cell? ⟨gb1392, 1, none⟩ = some (.int .i64 t1384) := (blk_cell BK1392.out 1).trans rfl
            have hcz25_2 : wc.cell? ⟨gb1392, 2, none⟩ = some (.int .i64 t1385) := (blk_cell BK1392.out 2).trans rfl
            have hcz25_3 : wc.cell? ⟨gb1392, 3, none⟩ = some (.int .i64 t1386) := (blk_cell BK1392.out 3).trans rfl
            have hcz25_4 : wc.cell? ⟨gb1392, 4, none⟩ = some (.slice Ao12 t1387.length co12) := (blk_cell BK1392.out 4).trans rfl
            have hfz25_0 := blk_frozen BK1392.out 0
            have hfz25_1 := blk_frozen BK1392.out 1
            have hfz25_2 := blk_frozen BK1392.out 2
            have hfz25_3 := blk_frozen BK1392.out 3
            have hfz25_4 := blk_frozen BK1392.out 4
            go_wp2
            go_meet
            case rel => exact ⟨_, ((t1393 != 3)), (by first | rfl | (simp; done) | (simp [*]; done)), H', ⟨by have := HJ2.out; have := HJ7.out; have := HJ16.out; first | omega | exact Nat.le_refl _⟩, ⟨rq_ HO_1393004.out⟩, ⟨bq_ BK1392.out⟩, ⟨hb_ HB.out⟩⟩
          ·
           rw [if_neg c22] at H
           have c22b0 : decide (t1385 < t1390) = false := decide_eq_false c22
           clear c22
           have H' := Aside0.mk H
           clear H
           have hcz26_0 : wc.cell? ⟨gb1392, 0, none⟩ = some (.int .i64 t1383) := (blk_cell BK1392.out 0).trans rfl
           have hcz26_1 : wc.cell? ⟨gb1392, 1, none⟩ = some (.int .i64 t1384) := (blk_cell BK1392.out 1).trans rfl
           have hcz26_2 : wc.cell? ⟨gb1392, 2, none⟩ = some (.int .i64 t1385) := (blk_cell BK1392.out 2).trans rfl
           have hcz26_3 : wc.cell? ⟨gb1392, 3, none⟩ = some (.int .i64 t1386) := (blk_cell BK1392.out 3).trans rfl
           have hcz26_4 : wc.cell? ⟨gb1392, 4, none⟩ = some (.slice Ao12 t1387.length co12) := (blk_cell BK1392.out 4).trans rfl
           have hfz26_0 := blk_frozen BK1392.out 0
           have hfz26_1 := blk_frozen BK1392.out 1
           have hfz26_2 := blk_frozen BK1392.out 2
           have hfz26_3 := blk_frozen BK1392.out 3
           have hfz26_4 := blk_frozen BK1392.out 4
           go_wp2
           go_meet
           case rel => exact ⟨_, (false), (by first | rfl | (simp; done) | (simp [*]; done)), H', ⟨by have := HJ2.out; have := HJ7.out; have := HJ16.out; first | omega | exact Nat.le_refl _⟩, ⟨rq_ HO_1393004.out⟩, ⟨bq_ BK1392.out⟩, ⟨hb_ HB.out⟩⟩
         ·
          rw [if_neg c21] at H
          have c21b0 : (t1393 == 4) = false := beq_eq_false_iff_ne.mpr c21
          have c21b1 : (t1393 != 4) = true := bne_iff_ne.mpr c21
          have H' := Aside0.mk H
          clear H
          have hcz27_0 : wc.cell? ⟨gb1392, 0, none⟩ = some (.int .i64 t1383) := (blk_cell BK1392.out 0).trans rfl
          have hcz27_1 : wc.cell? ⟨gb1392, 1, none⟩ = some (.int .i64 t1384) := (blk_cell BK1392.out 1).trans rfl
          have hcz27_2 : wc.cell? ⟨gb1392, 2, none⟩ = some (.int .i64 t1385) := (blk_cell BK1392.out 2).trans rfl
          have hcz27_3 : wc.cell? ⟨gb1392, 3, none⟩ = some (.int .i64 t1386) := (blk_cell BK1392.out 3).trans rfl
          have hcz27_4 : wc.cell? ⟨gb1392, 4, none⟩ = some (.slice Ao12 t1387.length co12) := (blk_cell BK1392.out 4).trans rfl
          have hfz27_0 := blk_frozen BK1392.out 0
          have hfz27_1 := blk_frozen BK1392.out 1
          have hfz27_2 := blk_frozen BK1392.out 2
          have hfz27_3 := blk_frozen BK1392.out 3
          have hfz27_4 := blk_frozen BK1392.out 4
          go_wp2
          go_meet
          case rel => exact ⟨_, (true), (by first | rfl | (simp; done) | (simp [*]; done)), H', ⟨by have := HJ2.out; have := HJ7.out; have := HJ16.out; first | omega | exact Nat.le_refl _⟩, ⟨rq_ HO_1393004.out⟩, ⟨bq_ BK1392.out⟩, ⟨hb_ HB.out⟩⟩
        ·
         rw [if_neg c20] at H
         have c20b0 : decide (t1390 < t1385) = false := decide_eq_false c20
         clear c20
         (first | rw [c20b0] | (simp only [i64_w, i32_w]; rw [c20b0]) | rw [c20b4] | rw [c20b3] | skip)
         by_cases c28 : t1390 > t1385
         ·
          rw [if_pos c28] at H
          have c28b0 : decide (t1385 < t1390) = true := decide_eq_true c28
          clear c28
          by_cases c29 : t1391 = 0
          ·
           rw [if_pos c29] at H
           have c29b0 : (t1391 == 0) = true := beq_iff_eq.mpr c29
           have c29b1 : (t1391 != 0) = false := bne_eq_false_iff_eq.mpr c29
           clear c29
           have H' := Aside0.mk H
           clear H
           have hcz30_0 : wc.cell? ⟨gb1392, 0, none⟩ = some (.int .i64 t1383) := (blk_cell BK1392.out 0).trans rfl
           have hcz30_1 : wc.cell? ⟨gb1392, 1, none⟩ = some (.int .i64 t1384) := (blk_cell BK1392.out 1).trans rfl
           have hcz30_2 : wc.cell? ⟨gb1392, 2, none⟩ = some (.int .i64 t1385) := (blk_cell BK1392.out 2).trans rfl
           have hcz30_3 : wc.cell? ⟨gb1392, 3, none⟩ = some (.int .i64 t1386) := (blk_cell BK1392.out 3).trans rfl
           have hcz30_4 : wc.cell? ⟨gb1392, 4, none⟩ = some (.slice Ao12 t1387.length co12) := (blk_cell BK1392.out 4).trans rfl
           have hfz30_0 := blk_frozen BK1392.out 0
           have hfz30_1 := blk_frozen BK1392.out 1
           have hfz30_2 := blk_frozen BK1392.out 2
           have hfz30_3 := blk_frozen BK1392.out 3
           have hfz30_4 := blk_frozen BK1392.out 4
           go_wp2
           go_meet
           case rel => exact ⟨_, (false), (by first | rfl | (simp; done) | (simp [*]; done)), H', ⟨by have := HJ2.out; have := HJ7.out; have := HJ16.out; first | omega | exact Nat.le_refl _⟩, ⟨rq_ HO_1393004.out⟩, ⟨bq_ BK1392.out⟩, ⟨hb_ HB.out⟩⟩
          ·
           rw [if_neg c29] at H
           have c29b0 : (t1391 == 0) = false := beq_eq_false_iff_ne.mpr c29
           have c29b1 : (t1391 != 0) = true := bne_iff_ne.mpr c29
           have H' := Aside0.mk H
           clear H
           have hcz31_0 : wc.cell? ⟨gb1392, 0, none⟩ = some (.int .i64 t1383) := (blk_cell BK1392.out 0).trans rfl
           have hcz31_1 : wc.cell? ⟨gb1392, 1, none⟩ = some (.int .i64 t1384) := (blk_cell BK1392.out 1).trans rfl
           have hcz31_2 : wc.cell? ⟨gb1392, 2, none⟩ = some (.int .i64 t1385) := (blk_cell BK1392.out 2).trans rfl
           have hcz31_3 : wc.cell? ⟨gb1392, 3, none⟩ = some (.int .i64 t1386) := (blk_cell BK1392.out 3).trans rfl
           have hcz31_4 : wc.cell? ⟨gb1392, 4, none⟩ = some (.slice Ao12 t1387.length co12) := (blk_cell BK1392.out 4).trans rfl
           have hfz31_0 := blk_frozen BK1392.out 0
           have hfz31_1 := blk_frozen BK1392.out 1
           have hfz31_2 := blk_frozen BK1392.out 2
           have hfz31_3 := blk_frozen BK1392.out 3
           have hfz31_4 := blk_frozen BK1392.out 4
           go_wp2
           go_meet
           case rel => exact ⟨_, ((t1393 != 3)), (by first | rfl | (simp; done) | (simp [*]; done)), H', ⟨by have := HJ2.out; have := HJ7.out; have := HJ16.out; first | omega | exact Nat.le_refl _⟩, ⟨rq_ HO_1393004.out⟩, ⟨bq_ BK1392.out⟩, ⟨hb_ HB.out⟩⟩
         ·
          rw [if_neg c28] at H
          have c28b0 : decide (t1385 < t1390) = false := decide_eq_false c28
          clear c28
          have H' := Aside0.mk H
          clear H
          have hcz32_0 : wc.cell? ⟨gb1392, 0, none⟩ = some (.int .i64 t1383) := (blk_cell BK1392.out 0).trans rfl
          have hcz32_1 : wc.cell? ⟨gb1392, 1, none⟩ = some (.int .i64 t1384) := (blk_cell BK1392.out 1).trans rfl
          have hcz32_2 : wc.cell? ⟨gb1392, 2, none⟩ = some (.int .i64 t1385) := (blk_cell BK1392.out 2).trans rfl
          have hcz32_3 : wc.cell? ⟨gb1392, 3, none⟩ = some (.int .i64 t1386) := (blk_cell BK1392.out 3).trans rfl
          have hcz32_4 : wc.cell? ⟨gb1392, 4, none⟩ = some (.slice Ao12 t1387.length co12) := (blk_cell BK1392.out 4).trans rfl
          have hfz32_0 := blk_frozen BK1392.out 0
          have hfz32_1 := blk_frozen BK1392.out 1
          have hfz32_2 := blk_frozen BK1392.out 2
          have hfz32_3 := blk_frozen BK1392.out 3
          have hfz32_4 := blk_frozen BK1392.out 4
          go_wp2
          go_meet
          case rel => exact ⟨_, (false), (by first | rfl | (simp; done) | (simp [*]; done)), H', ⟨by have := HJ2.out; have := HJ7.out; have := HJ16.out; first | omega | exact Nat.le_refl _⟩, ⟨rq_ HO_1393004.out⟩, ⟨bq_ BK1392.out⟩, ⟨hb_ HB.out⟩⟩
       case rest =>
        clear HC19
        (try clear c1); (try clear c2); (try clear p2); (try clear c3); (try clear c4); (try clear c5); (try clear c11); (try clear c16); (try clear c16b0); (try clear c16b1); (try clear c18); (try clear c20); (try clear c20b0); (try clear c21); (try clear c21b0); (try clear c21b1); (try clear c22); (try clear c22b0); (try clear c23); (try clear c23b0); (try clear c23b1); (try clear c27); (try clear c28); (try clear c28b0); (try clear c29); (try clear c29b0); (try clear c29b1); (try clear hcz11_0); (try clear hcz11_1); (try clear hcz11_2); (try clear hcz11_3); (try clear hcz11_4); (try clear hcz14_0); (try clear hcz14_1); (try clear hcz14_2); (try clear hcz14_3); (try clear hcz14_4); (try clear hcz24_0); (try clear hcz24_1); (try clear hcz24_2); (try clear hcz24_3); (try clear hcz24_4); (try clear hcz25_0); (try clear hcz25_1); (try clear hcz25_2); (try clear hcz25_3); (try clear hcz25_4); (try clear hcz26_0); (try clear hcz26_1); (try clear hcz26_2); (try clear hcz26_3); (try clear hcz26_4); (try clear hcz27_0); (try clear hcz27_1); (try clear hcz27_2); (try clear hcz27_3); (try clear hcz27_4); (try clear hcz30_0); (try clear hcz30_1); (try clear hcz30_2); (try clear hcz30_3); (try clear hcz30_4); (try clear hcz31_0); (try clear hcz31_1); (try clear hcz31_2); (try clear hcz31_3); (try clear hcz31_4); (try clear hcz32_0); (try clear hcz32_1); (try clear hcz32_2); (try clear hcz32_3); (try clear hcz32_4); (try clear hfz11_0); (try clear hfz11_1); (try clear hfz11_2); (try clear hfz11_3); (try clear hfz11_4); (try clear hfz14_0); (try clear hfz14_1); (try clear hfz14_2); (try clear hfz14_3); (try clear hfz14_4); (try clear hfz24_0); (try clear hfz24_1); (try clear hfz24_2); (try clear hfz24_3); (try clear hfz24_4); (try clear hfz25_0); (try clear hfz25_1); (try clear hfz25_2); (try clear hfz25_3); (try clear hfz25_4); (try clear hfz26_0); (try clear hfz26_1); (try clear hfz26_2); (try clear hfz26_3); (try clear hfz26_4); (try clear hfz27_0); (try clear hfz27_1); (try clear hfz27_2); (try clear hfz27_3); (try clear hfz27_4); (try clear hfz30_0); (try clear hfz30_1); (try clear hfz30_2); (try clear hfz30_3); (try clear hfz30_4); (try clear hfz31_0); (try clear hfz31_1); (try clear hfz31_2); (try clear hfz31_3); (try clear hfz31_4); (try clear hfz32_0); (try clear hfz32_1); (try clear hfz32_2); (try clear hfz32_3); (try clear hfz32_4); (try clear p2)
        obtain ⟨kq, x64_18, rfl, HA, HJ18, HO_1393004, BK1392, HB⟩ := hcut
        cases kq with
        | zero => exact absurd HA.out (by simp [laws_FnFenced.j3])
        | succ kj18 =>
         have H := HA.out
         clear HA
         simp only [laws_FnFenced.j3] at H
         have HC33 := Aside0.mk H
         clear H
         go_upto_if 64 with (fail)
         go_cut [] (fun wc => ∃ (kq : Nat), Aside0 (laws_FnFenced.j4 kq t1390 t1391 t1393 t1383 t1384 t1385 t1386 t1387 = some r) ∧ Aside0 (kq ≤ kj18) ∧ Aside0 (Kd.R k_Mark 118 wc w.heap.size (fun _ => True) (.slice Ao12 t1387.length co12) t1387) ∧ Aside0 (wc.heap[gb1392]? = some (.cells #[.int .i64 t1383, .int .i64 t1384, .int .i64 t1385, .int .i64 t1386, (.slice Ao12 t1387.length co12)] 54 (0, 0))) ∧ Aside0 (Below w.heap.size w wc))
         case first =>
          have H := HC33.out
          clear HC33
          by_cases c34 : x64_18 = true
          ·
           subst c34
           have H1 : (some false) = some r := by rw [if_pos rfl] at H; exact H
           clear H
           have H := H1
           clear H1
           obtain rfl := Option.some.inj H
           go_wp2
           go_ret
           exact ⟨er_, hb_ HB.out⟩
          ·
           replace c34 := Bool.eq_false_iff.mpr c34
           subst c34
           have H1 : (laws_FnFenced.j4 kj18 t1390 t1391 t1393 t1383 t1384 t1385 t1386 t1387) = some r := by rw [if_neg (show ¬ (false = true) by decide)] at H; exact H
           clear H
           have H := H1
           clear H1
           have H' := Aside0.mk H
           clear H
           go_wp2
           go_meet
           case rel => exact ⟨_, H', ⟨by have := HJ2.out; have := HJ7.out; have := HJ16.out; have := HJ18.out; first | omega | exact Nat.le_refl _⟩, ⟨rq_ HO_1393004.out⟩, ⟨bq_ BK1392.out⟩, ⟨hb_ HB.out⟩⟩
         case rest =>
          clear HC33
          (try clear c1); (try clear c2); (try clear p2); (try clear c3); (try clear c4); (try clear c5); (try clear c11); (try clear c16); (try clear c16b0); (try clear c16b1); (try clear c18); (try clear c20); (try clear c20b0); (try clear c21); (try clear c21b0); (try clear c21b1); (try clear c22); (try clear c22b0); (try clear c23); (try clear c23b0); (try clear c23b1); (try clear c27); (try clear c28); (try clear c28b0); (try clear c29); (try clear c29b0); (try clear c29b1); (try clear c33); (try clear c34); (try clear hcz11_0); (try clear hcz11_1); (try clear hcz11_2); (try clear hcz11_3); (try clear hcz11_4); (try clear hcz14_0); (try clear hcz14_1); (try clear hcz14_2); (try clear hcz14_3); (try clear hcz14_4); (try clear hcz24_0); (try clear hcz24_1); (try clear hcz24_2); (try clear hcz24_3); (try clear hcz24_4); (try clear hcz25_0); (try clear hcz25_1); (try clear hcz25_2); (try clear hcz25_3); (try clear hcz25_4); (try clear hcz26_0); (try clear hcz26_1); (try clear hcz26_2); (try clear hcz26_3); (try clear hcz26_4); (try clear hcz27_0); (try clear hcz27_1); (try clear hcz27_2); (try clear hcz27_3); (try clear hcz27_4); (try clear hcz30_0); (try clear hcz30_1); (try clear hcz30_2); (try clear hcz30_3); (try clear hcz30_4); (try clear hcz31_0); (try clear hcz31_1); (try clear hcz31_2); (try clear hcz31_3); (try clear hcz31_4); (try clear hcz32_0); (try clear hcz32_1); (try clear hcz32_2); (try clear hcz32_3); (try clear hcz32_4); (try clear hfz11_0); (try clear hfz11_1); (try clear hfz11_2); (try clear hfz11_3); (try clear hfz11_4); (try clear hfz14_0); (try clear hfz14_1); (try clear hfz14_2); (try clear hfz14_3); (try clear hfz14_4); (try clear hfz24_0); (try clear hfz24_1); (try clear hfz24_2); (try clear hfz24_3); (try clear hfz24_4); (try clear hfz25_0); (try clear hfz25_1); (try clear hfz25_2); (try clear hfz25_3); (try clear hfz25_4); (try clear hfz26_0); (try clear hfz26_1); (try clear hfz26_2); (try clear hfz26_3); (try clear hfz26_4); (try clear hfz27_0); (try clear hfz27_1); (try clear hfz27_2); (try clear hfz27_3); (try clear hfz27_4); (try clear hfz30_0); (try clear hfz30_1); (try clear hfz30_2); (try clear hfz30_3); (try clear hfz30_4); (try clear hfz31_0); (try clear hfz31_1); (try clear hfz31_2); (try clear hfz31_3); (try clear hfz31_4); (try clear hfz32_0); (try clear hfz32_1); (try clear hfz32_2); (try clear hfz32_3); (try clear hfz32_4); (try clear p2)
          obtain ⟨kq, HA, HJ32, HO_1393004, BK1392, HB⟩ := hcut
          cases kq with
          | zero => exact absurd HA.out (by simp [laws_FnFenced.j4])
          | succ kj32 =>
           have H := HA.out
           clear HA
           simp only [laws_FnFenced.j4] at H
           replace H := Option.bind_eq_some_iff.mp H
           obtain ⟨t1397, A350, H⟩ := H
           replace H : (if t1397 = true then (laws_FnFenced.j5 kj32 t1390 t1391 t1393 t1383 t1384 t1385 t1386 t1387) else (some true)) = some r := H
           have A35 := Aside0.mk A350
           clear A350
           have HC36 := Aside0.mk H
           clear H
           have hcz37_0 : wc.cell? ⟨gb1392, 0, none⟩ = some (.int .i64 t1383) := (blk_cell BK1392.out 0).trans rfl
           have hcz37_1 : wc.cell? ⟨gb1392, 1, none⟩ = some (.int .i64 t1384) := (blk_cell BK1392.out 1).trans rfl
           have hcz37_2 : wc.cell? ⟨gb1392, 2, none⟩ = some (.int .i64 t1385) := (blk_cell BK1392.out 2).trans rfl
           have hcz37_3 : wc.cell? ⟨gb1392, 3, none⟩ = some (.int .i64 t1386) := (blk_cell BK1392.out 3).trans rfl
           have hcz37_4 : wc.cell? ⟨gb1392, 4, none⟩ = some (.slice Ao12 t1387.length co12) := (blk_cell BK1392.out 4).trans rfl
           have hfz37_0 := blk_frozen BK1392.out 0
           have hfz37_1 := blk_frozen BK1392.out 1
           have hfz37_2 := blk_frozen BK1392.out 2
           have hfz37_3 := blk_frozen BK1392.out 3
           have hfz37_4 := blk_frozen BK1392.out 4
           go_upto_if 67 with (first | ((with_reducible refine gate_callee (f := 60) rfl ?_); refine goesL_ (some 66) rfl rfl Try.func60 (by kernel_rfl) rfl #[.agg #[.int .i64 t1383, .int .i64 t1384, .int .i64 t1385, .int .i64 t1386, .slice Ao12 t1387.length co12], .int .i64 5] rfl sm_ ?_; (with_reducible refine (impl_MakerOk.calls kj32 t1383 t1384 t1385 t1386 _ _ t1387 5 t1397 _ ?side1 ?side2 A35.out).mono ?_); (case side1 => repeat (first | exact (Kd.R_reads' HO_1393004.out).2.2 | (with_reducible refine Kd.C_alloc ?_ _) | (with_reducible refine Kd.C_drewN ?_ _) | (with_reducible refine Kd.C_drew ?_))); (case side2 => exact (Kd.R_reads' HO_1393004.out).2.1); rintro e w38 ⟨rfl, hb⟩; refine ⟨_, rfl, ?_⟩; have n0_ := Aside0.mk (Kd.R_below (rq_ HO_1393004.out) hb); have n1_ := Aside0.mk (bb_ BK1392.out hb); have n2_ := Aside0.mk (below_step (hb_ HB.out) hb); clear HO_1393004; clear BK1392; clear HB; have HO_1393004 := n0_; have BK1392 := n1_; have HB := n2_; clear n0_ n1_ n2_; (try clear hb); (try clear hb2); (try clear hk); (try clear hi)))
           (try simp only [Act.put, List.setIfInBounds_toArray, List.set_cons_zero, List.set_cons_succ])
           go_cut [] (fun wc => ∃ (kq : Nat), Aside0 (laws_FnFenced.j5 kq t1390 t1391 t1393 t1383 t1384 t1385 t1386 t1387 = some r) ∧ Aside0 (kq ≤ kj32) ∧ Aside0 (Kd.R k_Mark 118 wc w.heap.size (fun _ => True) (.slice Ao12 t1387.length co12) t1387) ∧ Aside0 (wc.heap[gb1392]? = some (.cells #[.int .i64 t1383, .int .i64 t1384, .int .i64 t1385, .int .i64 t1386, (.slice Ao12 t1387.length co12)] 54 (0, 0))) ∧ Aside0 (Below w.heap.size w wc))
           case first =>
            have H := HC36.out
            clear HC36
            by_cases c39 : t1397 = true
            ·
             subst c39
             have H1 : (laws_FnFenced.j5 kj32 t1390 t1391 t1393 t1383 t1384 t1385 t1386 t1387) = some r := by rw [if_pos rfl] at H; exact H
             clear H
             have H := H1
             clear H1
             have H' := Aside0.mk H
             clear H
             go_wp2
             go_meet
             case rel => exact ⟨_, H', ⟨by have := HJ2.out; have := HJ7.out; have := HJ16.out; have := HJ18.out; have := HJ32.out; first | omega | exact Nat.le_refl _⟩, ⟨rq_ HO_1393004.out⟩, ⟨bq_ BK1392.out⟩, ⟨hb_ HB.out⟩⟩
            ·
             replace c39 := Bool.eq_false_iff.mpr c39
             subst c39
             have H1 : (some true) = some r := by rw [if_neg (show ¬ (false = true) by decide)] at H; exact H
             clear H
             have H := H1
             clear H1
             obtain rfl := Option.some.inj H
             go_wp2
             go_ret
             exact ⟨er_, hb_ HB.out⟩
           case rest =>
            clear HC36
            (try clear c1); (try clear c2); (try clear p2); (try clear c3); (try clear c4); (try clear c5); (try clear c6); (try clear c11); (try clear c16); (try clear c16b0); (try clear c16b1); (try clear c18); (try clear c20); (try clear c20b0); (try clear c21); (try clear c21b0); (try clear c21b1); (try clear c22); (try clear c22b0); (try clear c23); (try clear c23b0); (try clear c23b1); (try clear c27); (try clear c28); (try clear c28b0); (try clear c29); (try clear c29b0); (try clear c29b1); (try clear c33); (try clear c34); (try clear c39); (try clear hcz11_0); (try clear hcz11_1); (try clear hcz11_2); (try clear hcz11_3); (try clear hcz11_4); (try clear hcz14_0); (try clear hcz14_1); (try clear hcz14_2); (try clear hcz14_3); (try clear hcz14_4); (try clear hcz24_0); (try clear hcz24_1); (try clear hcz24_2); (try clear hcz24_3); (try clear hcz24_4); (try clear hcz25_0); (try clear hcz25_1); (try clear hcz25_2); (try clear hcz25_3); (try clear hcz25_4); (try clear hcz26_0); (try clear hcz26_1); (try clear hcz26_2); (try clear hcz26_3); (try clear hcz26_4); (try clear hcz27_0); (try clear hcz27_1); (try clear hcz27_2); (try clear hcz27_3); (try clear hcz27_4); (try clear hcz30_0); (try clear hcz30_1); (try clear hcz30_2); (try clear hcz30_3); (try clear hcz30_4); (try clear hcz31_0); (try clear hcz31_1); (try clear hcz31_2); (try clear hcz31_3); (try clear hcz31_4); (try clear hcz32_0); (try clear hcz32_1); (try clear hcz32_2); (try clear hcz32_3); (try clear hcz32_4); (try clear hcz37_0); (try clear hcz37_1); (try clear hcz37_2); (try clear hcz37_3); (try clear hcz37_4); (try clear hfz11_0); (try clear hfz11_1); (try clear hfz11_2); (try clear hfz11_3); (try clear hfz11_4); (try clear hfz14_0); (try clear hfz14_1); (try clear hfz14_2); (try clear hfz14_3); (try clear hfz14_4); (try clear hfz24_0); (try clear hfz24_1); (try clear hfz24_2); (try clear hfz24_3); (try clear hfz24_4); (try clear hfz25_0); (try clear hfz25_1); (try clear hfz25_2); (try clear hfz25_3); (try clear hfz25_4); (try clear hfz26_0); (try clear hfz26_1); (try clear hfz26_2); (try clear hfz26_3); (try clear hfz26_4); (try clear hfz27_0); (try clear hfz27_1); (try clear hfz27_2); (try clear hfz27_3); (try clear hfz27_4); (try clear hfz30_0); (try clear hfz30_1); (try clear hfz30_2); (try clear hfz30_3); (try clear hfz30_4); (try clear hfz31_0); (try clear hfz31_1); (try clear hfz31_2); (try clear hfz31_3); (try clear hfz31_4); (try clear hfz32_0); (try clear hfz32_1); (try clear hfz32_2); (try clear hfz32_3); (try clear hfz32_4); (try clear hfz37_0); (try clear hfz37_1); (try clear hfz37_2); (try clear hfz37_3); (try clear hfz37_4); (try clear p2)
            obtain ⟨kq, HA, HJ35, HO_1393004, BK1392, HB⟩ := hcut
            cases kq with
            | zero => exact absurd HA.out (by simp [laws_FnFenced.j5])
            | succ kj35 =>
             have H := HA.out
             clear HA
             simp only [laws_FnFenced.j5] at H
             replace H := Option.bind_eq_some_iff.mp H
             obtain ⟨⟨t1398, t1399, t1400, t1401, t1402⟩, A400, H⟩ := H
             replace H : (if t1393 = 0 then (laws_FnFenced.j6 kj35 t1390 t1391 t1398 t1399 t1400 t1401 t1402) else ((laws_sameMaker.f kj35 t1398 t1399 t1400 t1401 t1402 t1383 t1384 t1385 t1386 t1387).bind fun t1406 => (some t1406))) = some r := H
             have A40 := Aside0.mk A400
             clear A400
             have HC41 := Aside0.mk H
             clear H
             have hcz42_0 : wc.cell? ⟨gb1392, 0, none⟩ = some (.int .i64 t1383) := (blk_cell BK1392.out 0).trans rfl
             have hcz42_1 : wc.cell? ⟨gb1392, 1, none⟩ = some (.int .i64 t1384) := (blk_cell BK1392.out 1).trans rfl
             have hcz42_2 : wc.cell? ⟨gb1392, 2, none⟩ = some (.int .i64 t1385) := (blk_cell BK1392.out 2).trans rfl
             have hcz42_3 : wc.cell? ⟨gb1392, 3, none⟩ = some (.int .i64 t1386) := (blk_cell BK1392.out 3).trans rfl
             have hcz42_4 : wc.cell? ⟨gb1392, 4, none⟩ = some (.slice Ao12 t1387.length co12) := (blk_cell BK1392.out 4).trans rfl
             have hfz42_0 := blk_frozen BK1392.out 0
             have hfz42_1 := blk_frozen BK1392.out 1
             have hfz42_2 := blk_frozen BK1392.out 2
             have hfz42_3 := blk_frozen BK1392.out 3
             have hfz42_4 := blk_frozen BK1392.out 4
             go_upto_if 73 with (first | ((with_reducible refine gate_callee (f := 61) rfl ?_); refine goesL_ (some 71) rfl rfl Try.func61 (by kernel_rfl) rfl #[.agg #[.int .i64 t1383, .int .i64 t1384, .int .i64 t1385, .int .i64 t1386, .slice Ao12 t1387.length co12], .int .i64 3, .int .i64 t1390, .int .i64 t1391, .int .i64 50] rfl sm_ ?_; (with_reducible refine (impl_MakerPut.calls kj35 t1383 t1384 t1385 t1386 _ _ t1387 3 t1390 t1391 50 t1398 t1399 t1400 t1401 t1402 _ ?side1 ?side2 A40.out).mono ?_); (case side1 => repeat (first | exact (Kd.R_reads' HO_1393004.out).2.2 | (with_reducible refine Kd.C_alloc ?_ _) | (with_reducible refine Kd.C_drewN ?_ _) | (with_reducible refine Kd.C_drew ?_))); (case side2 => exact (Kd.R_reads' HO_1393004.out).2.1); rintro e w43 ⟨v1403, rfl, ho0, hb⟩; refine ⟨_, rfl, ?_⟩; have n0_ := Aside0.mk (Kd.R_elder' (rq_ HO_1393004.out) (Kd.R_base ho0) hb); have n1_ := Aside0.mk (Kd.R_lower (Kd.R_new' ho0 (Kd.R_lt (rq_ HO_1393004.out))) (below_size (hb_ HB.out))); have n2_ := Aside0.mk (bb_ BK1392.out hb); have n3_ := Aside0.mk (below_step (hb_ HB.out) hb); clear HO_1393004; clear BK1392; clear HB; have HO_1393004 := n0_; have HO1404 := n1_; have BK1392 := n2_; have HB := n3_; clear n0_ n1_ n2_ n3_; (try clear hb); (try clear hb2); (try clear hk); (try clear hi); (try clear ho0)) | ((with_reducible refine gate_dst (N := 10) rfl ?_); refine box_event ?hg (N := 10) ?hd (cs := #[.int .i64 0, .int .i64 0, .int .i64 0, .int .i64 0, .slice none 0 0]) (t := 54) ?hr ?_; (case hd => rfl); (case hg => rfl); (case hr => first | (go_simp; done) | (go_simp; rfl)); intro gb1405 hg w44 hbox hb; have n0_ := Aside0.mk (Kd.R_below (rq_ HO_1393004.out) hb); have n1_ := Aside0.mk (Kd.R_below (rq_ HO1404.out) hb); have n2_ := Aside0.mk (bb_ BK1392.out hb); have n3_ := Aside0.mk (below_step (hb_ HB.out) hb); have n4_ := Aside0.mk (hbox); have n5_ := Aside0.mk ((by rw [hg]; exact (below_size (hb_ HB.out)) : w.heap.size ≤ gb1405)); have n6_ := Aside0.mk ((by rw [hg]; exact (below_size (hb_ HB.out)) : w.heap.size ≤ gb1405)); have n7_ := Aside0.mk ((nl_ BK1392.out hg : gb1392 ≠ gb1405)); have n8_ := Aside0.mk ((ng_ BK1392.out hg : gb1405 ≠ gb1392)); clear HO_1393004; clear HO1404; clear BK1392; clear HB; have HO_1393004 := n0_; have HO1404 := n1_; have BK1392 := n2_; have HB := n3_; have BK1405 := n4_; have GW1405 := n5_; have GE1405 := n6_; have NB1392_1405 := n7_; have NB1405_1392 := n8_; clear n0_ n1_ n2_ n3_ n4_ n5_ n6_ n7_ n8_; clear hb hbox hg; have hnb45 := NB1405_1392.out; have hnc45 := NB1392_1405.out; have hcz46_0 : w44.cell? ⟨gb1405, 0, none⟩ = some (.int .i64 0) := (blk_cell BK1405.out 0).trans rfl; have hcz46_1 : w44.cell? ⟨gb1405, 1, none⟩ = some (.int .i64 0) := (blk_cell BK1405.out 1).trans rfl; have hcz46_2 : w44.cell? ⟨gb1405, 2, none⟩ = some (.int .i64 0) := (blk_cell BK1405.out 2).trans rfl; have hcz46_3 : w44.cell? ⟨gb1405, 3, none⟩ = some (.int .i64 0) := (blk_cell BK1405.out 3).trans rfl; have hcz46_4 : w44.cell? ⟨gb1405, 4, none⟩ = some (.slice none 0 0) := (blk_cell BK1405.out 4).trans rfl; have hfz46_0 := blk_frozen BK1405.out 0; have hfz46_1 := blk_frozen BK1405.out 1; have hfz46_2 := blk_frozen BK1405.out 2; have hfz46_3 := blk_frozen BK1405.out 3; have hfz46_4 := blk_frozen BK1405.out 4; obtain ⟨Ao47, co47, eo47⟩ := Kd.R_slice HO1404.out; subst eo47))
             (try simp only [Act.put, List.setIfInBounds_toArray, List.set_cons_zero, List.set_cons_succ])
             go_cut [] (fun wc => ∃ (kq : Nat), Aside0 (laws_FnFenced.j6 kq t1390 t1391 t1398 t1399 t1400 t1401 t1402 = some r) ∧ Aside0 (kq ≤ kj35) ∧ Aside0 (Kd.R k_Mark 118 wc w.heap.size (fun k_ => some k_ ≠ ((.slice Ao47 t1402.length co47) : Value).ownBlock) (.slice Ao12 t1387.length co12) t1387) ∧ Aside0 (Kd.R k_Mark 118 wc w.heap.size (fun k_ => some k_ ≠ ((.slice Ao12 t1387.length co12) : Value).ownBlock) (.slice Ao47 t1402.length co47) t1402) ∧ Aside0 (wc.heap[gb1392]? = some (.cells #[.int .i64 t1383, .int .i64 t1384, .int .i64 t1385, .int .i64 t1386, (.slice Ao12 t1387.length co12)] 54 (0, 0))) ∧ Aside0 (wc.heap[gb1405]? = some (.cells #[.int .i64 t1398, .int .i64 t1399, .int .i64 t1400, .int .i64 t1401, (.slice Ao47 t1402.length co47)] 54 (0, 0))) ∧ Aside0 (Below w.heap.size w wc))
             case first =>
              have H := HC41.out
              clear HC41
              by_cases c48 : t1393 = 0
              ·
               rw [if_pos c48] at H
               have c48b0 : (t1393 == 0) = true := beq_iff_eq.mpr c48
               have c48b1 : (t1393 != 0) = false := bne_eq_false_iff_eq.mpr c48
               clear c48
               (first | rw [c48b0] | (simp only [i64_w, i32_w]; rw [c48b0]) | rw [c48b4] | rw [c48b3] | skip)
               have H' := Aside0.mk H
               clear H
               go_wp2
               go_meet
               case rel => exact ⟨_, H', ⟨by have := HJ2.out; have := HJ7.out; have := HJ16.out; have := HJ18.out; have := HJ32.out; have := HJ35.out; first | omega | exact Nat.le_refl _⟩, ⟨by (with_reducible repeat (first | apply Kd.R_alloc | apply Kd.R_drewN | apply Kd.R_drew)); exact Kd.R_mono (Kd.R_far (p := ⟨gb1405, 4, none⟩) (Kd.R_far (p := ⟨gb1405, 3, none⟩) (Kd.R_far (p := ⟨gb1405, 2, none⟩) (Kd.R_far (p := ⟨gb1405, 1, none⟩) (Kd.R_far (p := ⟨gb1405, 0, none⟩) (Kd.R_types HO_1393004.out BK1405.out (by decide)) (fun _ hk => hk.2) (.int .i64 t1398)) (fun _ hk => hk.2) (.int .i64 t1399)) (fun _ hk => hk.2) (.int .i64 t1400)) (fun _ hk => hk.2) (.int .i64 t1401)) (fun _ hk => hk.2) (.slice Ao47 t1402.length co47)) (fun _ hk => hk.1.2)⟩, ⟨by (with_reducible repeat (first | apply Kd.R_alloc | apply Kd.R_drewN | apply Kd.R_drew)); exact Kd.R_mono (Kd.R_far (p := ⟨gb1405, 4, none⟩) (Kd.R_far (p := ⟨gb1405, 3, none⟩) (Kd.R_far (p := ⟨gb1405, 2, none⟩) (Kd.R_far (p := ⟨gb1405, 1, none⟩) (Kd.R_far (p := ⟨gb1405, 0, none⟩) (Kd.R_types HO1404.out BK1405.out (by decide)) (fun _ hk => hk.2) (.int .i64 t1398)) (fun _ hk => hk.2) (.int .i64 t1399)) (fun _ hk => hk.2) (.int .i64 t1400)) (fun _ hk => hk.2) (.int .i64 t1401)) (fun _ hk => hk.2) (.slice Ao47 t1402.length co47)) (fun _ hk => hk.1.2)⟩, ⟨by (with_reducible repeat (first | refine blk_drewN ?_ _ | refine blk_drew ?_ | refine blk_alloc ?_ _)); refine blk_far ?_ NB1392_1405.out _; (with_reducible repeat (first | refine blk_drewN ?_ _ | refine blk_drew ?_ | refine blk_alloc ?_ _)); refine blk_far ?_ NB1392_1405.out _; (with_reducible repeat (first | refine blk_drewN ?_ _ | refine blk_drew ?_ | refine blk_alloc ?_ _)); refine blk_far ?_ NB1392_1405.out _; (with_reducible repeat (first | refine blk_drewN ?_ _ | refine blk_drew ?_ | refine blk_alloc ?_ _)); refine blk_far ?_ NB1392_1405.out _; (with_reducible repeat (first | refine blk_drewN ?_ _ | refine blk_drew ?_ | refine blk_alloc ?_ _)); refine blk_far ?_ NB1392_1405.out _; (with_reducible repeat (first | refine blk_drewN ?_ _ | refine blk_drew ?_ | refine blk_alloc ?_ _)); exact BK1392.out⟩, ⟨by (with_reducible repeat (first | refine blk_drewN ?_ _ | refine blk_drew ?_ | refine blk_alloc ?_ _)); refine blk_put (cs := #[.int .i64 t1398, .int .i64 t1399, .int .i64 t1400, .int .i64 t1401, .slice none 0 0]) ?_ 4 _ rfl; (with_reducible repeat (first | refine blk_drewN ?_ _ | refine blk_drew ?_ | refine blk_alloc ?_ _)); refine blk_put (cs := #[.int .i64 t1398, .int .i64 t1399, .int .i64 t1400, .int .i64 0, .slice none 0 0]) ?_ 3 _ rfl; (with_reducible repeat (first | refine blk_drewN ?_ _ | refine blk_drew ?_ | refine blk_alloc ?_ _)); refine blk_put (cs := #[.int .i64 t1398, .int .i64 t1399, .int .i64 0, .int .i64 0, .slice none 0 0]) ?_ 2 _ rfl; (with_reducible repeat (first | refine blk_drewN ?_ _ | refine blk_drew ?_ | refine blk_alloc ?_ _)); refine blk_put (cs := #[.int .i64 t1398, .int .i64 0, .int .i64 0, .int .i64 0, .slice none 0 0]) ?_ 1 _ rfl; (with_reducible repeat (first | refine blk_drewN ?_ _ | refine blk_drew ?_ | refine blk_alloc ?_ _)); refine blk_put (cs := #[.int .i64 0, .int .i64 0, .int .i64 0, .int .i64 0, .slice none 0 0]) ?_ 0 _ rfl; (with_reducible repeat (first | refine blk_drewN ?_ _ | refine blk_drew ?_ | refine blk_alloc ?_ _)); exact BK1405.out⟩, ⟨hb_ HB.out⟩⟩
              ·
               rw [if_neg c48] at H
               have c48b0 : (t1393 == 0) = false := beq_eq_false_iff_ne.mpr c48
               have c48b1 : (t1393 != 0) = true := bne_iff_ne.mpr c48
               (first | rw [c48b0] | (simp only [i64_w, i32_w]; rw [c48b0]) | rw [c48b4] | rw [c48b3] | skip)
               replace H := Option.bind_eq_some_iff.mp H
               obtain ⟨t1406, A490, H⟩ := H
               replace H : (some t1406) = some r := H
               have A49 := Aside0.mk A490
               clear A490
               obtain rfl := Option.some.inj H
               have hnb50 := NB1405_1392.out
               have hnc50 := NB1392_1405.out
               have hcz51_0 : w44.cell? ⟨gb1405, 0, none⟩ = some (.int .i64 0) := (blk_cell BK1405.out 0).trans rfl
               have hcz51_1 : w44.cell? ⟨gb1405, 1, none⟩ = some (.int .i64 0) := (blk_cell BK1405.out 1).trans rfl
               have hcz51_2 : w44.cell? ⟨gb1405, 2, none⟩ = some (.int .i64 0) := (blk_cell BK1405.out 2).trans rfl
               have hcz51_3 : w44.cell? ⟨gb1405, 3, none⟩ = some (.int .i64 0) := (blk_cell BK1405.out 3).trans rfl
               have hcz51_4 : w44.cell? ⟨gb1405, 4, none⟩ = some (.slice none 0 0) := (blk_cell BK1405.out 4).trans rfl
               have hfz51_0 := blk_frozen BK1405.out 0
               have hfz51_1 := blk_frozen BK1405.out 1
               have hfz51_2 := blk_frozen BK1405.out 2
               have hfz51_3 := blk_frozen BK1405.out 3
               have hfz51_4 := blk_frozen BK1405.out 4
               have hcz52_0 : w44.cell? ⟨gb1392, 0, none⟩ = some (.int .i64 t1383) := (blk_cell BK1392.out 0).trans rfl
               have hcz52_1 : w44.cell? ⟨gb1392, 1, none⟩ = some (.int .i64 t1384) := (blk_cell BK1392.out 1).trans rfl
               have hcz52_2 : w44.cell? ⟨gb1392, 2, none⟩ = some (.int .i64 t1385) := (blk_cell BK1392.out 2).trans rfl
               have hcz52_3 : w44.cell? ⟨gb1392, 3, none⟩ = some (.int .i64 t1386) := (blk_cell BK1392.out 3).trans rfl
               have hcz52_4 : w44.cell? ⟨gb1392, 4, none⟩ = some (.slice Ao12 t1387.length co12) := (blk_cell BK1392.out 4).trans rfl
               have hfz52_0 := blk_frozen BK1392.out 0
               have hfz52_1 := blk_frozen BK1392.out 1
               have hfz52_2 := blk_frozen BK1392.out 2
               have hfz52_3 := blk_frozen BK1392.out 3
               have hfz52_4 := blk_frozen BK1392.out 4
               go_wp2_with (first | ((with_reducible refine gate_callee (f := 62) rfl ?_); refine goesL_ (some 76) rfl rfl Try.func62 (by kernel_rfl) rfl #[.agg #[.int .i64 t1398, .int .i64 t1399, .int .i64 t1400, .int .i64 t1401, .slice Ao47 t1402.length co47], .agg #[.int .i64 t1383, .int .i64 t1384, .int .i64 t1385, .int .i64 t1386, .slice Ao12 t1387.length co12]] rfl sm_ ?_; (with_reducible refine (laws_sameMaker.calls kj35 t1398 t1399 t1400 t1401 _ _ t1402 t1383 t1384 t1385 t1386 _ _ t1387 t1406 _ ?side1 ?side2 ?side3 ?side4 A49.out).mono ?_); (case side1 => refine (Kd.R_reads' (e := 118) (base := w.heap.size) (ok := fun k_ => (True ∧ some k_ ≠ (.slice Ao12 t1387.length co12 : Value).ownBlock)) (n := t1402.length) (c := co47) ?_).2.2; exact (rk_ HO1404.out BK1405.out)); (case side2 => exact (Kd.R_reads' HO1404.out).2.1); (case side3 => refine (Kd.R_reads' (e := 118) (base := w.heap.size) (ok := fun k_ => (True ∧ some k_ ≠ (.slice Ao47 t1402.length co47 : Value).ownBlock)) (n := t1387.length) (c := co12) ?_).2.2; exact (rk_ HO_1393004.out BK1405.out)); (case side4 => exact (Kd.R_reads' HO_1393004.out).2.1); rintro e w53 ⟨rfl, hb⟩; refine ⟨_, rfl, ?_⟩; have n0_ := Aside0.mk (Kd.R_below (rk_ HO_1393004.out BK1405.out) hb); have n1_ := Aside0.mk (Kd.R_below (rk_ HO1404.out BK1405.out) hb); have n2_ := Aside0.mk (blk_below (g := gb1392) (o := .cells #[.int .i64 t1383, .int .i64 t1384, .int .i64 t1385, .int .i64 t1386, .slice Ao12 t1387.length co12] 54 (0, 0)) (bf_ NB1392_1405.out BK1392.out) hb); have n3_ := Aside0.mk (blk_below (g := gb1405) (o := .cells #[.int .i64 t1398, .int .i64 t1399, .int .i64 t1400, .int .i64 t1401, .slice Ao47 t1402.length co47] 54 (0, 0)) (bp_ BK1405.out) hb); have n4_ := Aside0.mk (below_step (hb_ HB.out) hb); clear HO_1393004; clear HO1404; clear BK1392; clear BK1405; clear HB; have HO_1393004 := n0_; have HO1404 := n1_; have BK1392 := n2_; have BK1405 := n3_; have HB := n4_; clear n0_ n1_ n2_ n3_ n4_; (try clear hb); (try clear hb2); (try clear hk); (try clear hi)))
               go_ret
               exact ⟨er_, hb_ HB.out⟩
             case rest =>
              clear HC41
              (try clear c1); (try clear c2); (try clear p2); (try clear c3); (try clear c4); (try clear c5); (try clear c6); (try clear c11); (try clear c16); (try clear c16b0); (try clear c16b1); (try clear c18); (try clear c20); (try clear c20b0); (try clear c21); (try clear c21b0); (try clear c21b1); (try clear c22); (try clear c22b0); (try clear c23); (try clear c23b0); (try clear c23b1); (try clear c27); (try clear c28); (try clear c28b0); (try clear c29); (try clear c29b0); (try clear c29b1); (try clear c33); (try clear c34); (try clear c39); (try clear c45); (try clear c48); (try clear c48b0); (try clear c48b1); (try clear c50); (try clear hcz11_0); (try clear hcz11_1); (try clear hcz11_2); (try clear hcz11_3); (try clear hcz11_4); (try clear hcz14_0); (try clear hcz14_1); (try clear hcz14_2); (try clear hcz14_3); (try clear hcz14_4); (try clear hcz24_0); (try clear hcz24_1); (try clear hcz24_2); (try clear hcz24_3); (try clear hcz24_4); (try clear hcz25_0); (try clear hcz25_1); (try clear hcz25_2); (try clear hcz25_3); (try clear hcz25_4); (try clear hcz26_0); (try clear hcz26_1); (try clear hcz26_2); (try clear hcz26_3); (try clear hcz26_4); (try clear hcz27_0); (try clear hcz27_1); (try clear hcz27_2); (try clear hcz27_3); (try clear hcz27_4); (try clear hcz30_0); (try clear hcz30_1); (try clear hcz30_2); (try clear hcz30_3); (try clear hcz30_4); (try clear hcz31_0); (try clear hcz31_1); (try clear hcz31_2); (try clear hcz31_3); (try clear hcz31_4); (try clear hcz32_0); (try clear hcz32_1); (try clear hcz32_2); (try clear hcz32_3); (try clear hcz32_4); (try clear hcz37_0); (try clear hcz37_1); (try clear hcz37_2); (try clear hcz37_3); (try clear hcz37_4); (try clear hcz42_0); (try clear hcz42_1); (try clear hcz42_2); (try clear hcz42_3); (try clear hcz42_4); (try clear hcz46_0); (try clear hcz46_1); (try clear hcz46_2); (try clear hcz46_3); (try clear hcz46_4); (try clear hcz51_0); (try clear hcz51_1); (try clear hcz51_2); (try clear hcz51_3); (try clear hcz51_4); (try clear hcz52_0); (try clear hcz52_1); (try clear hcz52_2); (try clear hcz52_3); (try clear hcz52_4); (try clear hfz11_0); (try clear hfz11_1); (try clear hfz11_2); (try clear hfz11_3); (try clear hfz11_4); (try clear hfz14_0); (try clear hfz14_1); (try clear hfz14_2); (try clear hfz14_3); (try clear hfz14_4); (try clear hfz24_0); (try clear hfz24_1); (try clear hfz24_2); (try clear hfz24_3); (try clear hfz24_4); (try clear hfz25_0); (try clear hfz25_1); (try clear hfz25_2); (try clear hfz25_3); (try clear hfz25_4); (try clear hfz26_0); (try clear hfz26_1); (try clear hfz26_2); (try clear hfz26_3); (try clear hfz26_4); (try clear hfz27_0); (try clear hfz27_1); (try clear hfz27_2); (try clear hfz27_3); (try clear hfz27_4); (try clear hfz30_0); (try clear hfz30_1); (try clear hfz30_2); (try clear hfz30_3); (try clear hfz30_4); (try clear hfz31_0); (try clear hfz31_1); (try clear hfz31_2); (try clear hfz31_3); (try clear hfz31_4); (try clear hfz32_0); (try clear hfz32_1); (try clear hfz32_2); (try clear hfz32_3); (try clear hfz32_4); (try clear hfz37_0); (try clear hfz37_1); (try clear hfz37_2); (try clear hfz37_3); (try clear hfz37_4); (try clear hfz42_0); (try clear hfz42_1); (try clear hfz42_2); (try clear hfz42_3); (try clear hfz42_4); (try clear hfz46_0); (try clear hfz46_1); (try clear hfz46_2); (try clear hfz46_3); (try clear hfz46_4); (try clear hfz51_0); (try clear hfz51_1); (try clear hfz51_2); (try clear hfz51_3); (try clear hfz51_4); (try clear hfz52_0); (try clear hfz52_1); (try clear hfz52_2); (try clear hfz52_3); (try clear hfz52_4); (try clear p2)
              obtain ⟨kq, HA, HJ40, HO_1393004, HO_1406004, BK1392, BK1405, HB⟩ := hcut
              cases kq with
              | zero => exact absurd HA.out (by simp [laws_FnFenced.j6])
              | succ kj40 =>
               have H := HA.out
               clear HA
               simp only [laws_FnFenced.j6] at H
               replace H := Option.bind_eq_some_iff.mp H
               obtain ⟨⟨t1407, t1408⟩, A540, H⟩ := H
               replace H : (if t1407 = 1 then (if t1408 = 50 then (if t1401 = t1391 then (some (t1400 == t1390)) else (some false)) else (some false)) else (some false)) = some r := H
               have A54 := Aside0.mk A540
               clear A540
               by_cases c55 : t1407 = 1
               ·
                rw [if_pos c55] at H
                have c55b0 : (t1407 == 1) = true := beq_iff_eq.mpr c55
                have c55b1 : (t1407 != 1) = false := bne_eq_false_iff_eq.mpr c55
                clear c55
                by_cases c56 : t1408 = 50
                ·
                 rw [if_pos c56] at H
                 have c56b0 : (t1408 == 50) = true := beq_iff_eq.mpr c56
                 have c56b1 : (t1408 != 50) = false := bne_eq_false_iff_eq.mpr c56
                 clear c56
                 by_cases c57 : t1401 = t1391
                 ·
                  rw [if_pos c57] at H
                  have c57b0 : (t1401 == t1391) = true := beq_iff_eq.mpr c57
                  have c57b1 : (t1401 != t1391) = false := bne_eq_false_iff_eq.mpr c57
                  clear c57
                  obtain rfl := Option.some.inj H
                  have hnb58 := NB1405_1392.out
                  have hnc58 := NB1392_1405.out
                  have hcz59_0 : wc.cell? ⟨gb1405, 0, none⟩ = some (.int .i64 t1398) := (blk_cell BK1405.out 0).trans rfl
                  have hcz59_1 : wc.cell? ⟨gb1405, 1, none⟩ = some (.int .i64 t1399) := (blk_cell BK1405.out 1).trans rfl
                  have hcz59_2 : wc.cell? ⟨gb1405, 2, none⟩ = some (.int .i64 t1400) := (blk_cell BK1405.out 2).trans rfl
                  have hcz59_3 : wc.cell? ⟨gb1405, 3, none⟩ = some (.int .i64 t1401) := (blk_cell BK1405.out 3).trans rfl
                  have hcz59_4 : wc.cell? ⟨gb1405, 4, none⟩ = some (.slice Ao47 t1402.length co47) := (blk_cell BK1405.out 4).trans rfl
                  have hfz59_0 := blk_frozen BK1405.out 0
                  have hfz59_1 := blk_frozen BK1405.out 1
                  have hfz59_2 := blk_frozen BK1405.out 2
                  have hfz59_3 := blk_frozen BK1405.out 3
                  have hfz59_4 := blk_frozen BK1405.out 4
                  go_wp2_with (first | ((with_reducible refine gate_callee (f := 29) rfl ?_); refine goesL_ (some 81) rfl rfl Try.func29 (by kernel_rfl) rfl #[.agg #[.int .i64 t1398, .int .i64 t1399, .int .i64 t1400, .int .i64 t1401, .slice Ao47 t1402.length co47], .int .i64 t1390, .int .i64 t1391] rfl sm_ ?_; (with_reducible refine (impl_MakerAsk.calls kj40 t1398 t1399 t1400 t1401 _ _ t1402 t1390 t1391 t1407 t1408 _ ?side1 ?side2 A54.out).mono ?_); (case side1 => repeat (first | exact (Kd.R_reads' HO_1406004.out).2.2 | (with_reducible refine Kd.C_alloc ?_ _) | (with_reducible refine Kd.C_drewN ?_ _) | (with_reducible refine Kd.C_drew ?_))); (case side2 => exact (Kd.R_reads' HO_1406004.out).2.1); rintro e w60 ⟨rfl, hb⟩; refine ⟨_, rfl, ?_⟩; have n0_ := Aside0.mk (Kd.R_below (rq_ HO_1393004.out) hb); have n1_ := Aside0.mk (Kd.R_below (rq_ HO_1406004.out) hb); have n2_ := Aside0.mk (bb_ BK1392.out hb); have n3_ := Aside0.mk (bb_ BK1405.out hb); have n4_ := Aside0.mk (below_step (hb_ HB.out) hb); clear HO_1393004; clear HO_1406004; clear BK1392; clear BK1405; clear HB; have HO_1393004 := n0_; have HO_1406004 := n1_; have BK1392 := n2_; have BK1405 := n3_; have HB := n4_; clear n0_ n1_ n2_ n3_ n4_; (try clear hb); (try clear hb2); (try clear hk); (try clear hi); have hcz61_0 : w60.cell? ⟨gb1405, 0, none⟩ = some (.int .i64 t1398) := (blk_cell BK1405.out 0).trans rfl; have hcz61_1 : w60.cell? ⟨gb1405, 1, none⟩ = some (.int .i64 t1399) := (blk_cell BK1405.out 1).trans rfl; have hcz61_2 : w60.cell? ⟨gb1405, 2, none⟩ = some (.int .i64 t1400) := (blk_cell BK1405.out 2).trans rfl; have hcz61_3 : w60.cell? ⟨gb1405, 3, none⟩ = some (.int .i64 t1401) := (blk_cell BK1405.out 3).trans rfl; have hcz61_4 : w60.cell? ⟨gb1405, 4, none⟩ = some (.slice Ao47 t1402.length co47) := (blk_cell BK1405.out 4).trans rfl; have hfz61_0 := blk_frozen BK1405.out 0; have hfz61_1 := blk_frozen BK1405.out 1; have hfz61_2 := blk_frozen BK1405.out 2; have hfz61_3 := blk_frozen BK1405.out 3; have hfz61_4 := blk_frozen BK1405.out 4))
                  go_ret
                  exact ⟨er_, hb_ HB.out⟩
                 ·
                  rw [if_neg c57] at H
                  have c57b0 : (t1401 == t1391) = false := beq_eq_false_iff_ne.mpr c57
                  have c57b1 : (t1401 != t1391) = true := bne_iff_ne.mpr c57
                  obtain rfl := Option.some.inj H
                  have hnb62 := NB1405_1392.out
                  have hnc62 := NB1392_1405.out
                  have hcz63_0 : wc.cell? ⟨gb1405, 0, none⟩ = some (.int .i64 t1398) := (blk_cell BK1405.out 0).trans rfl
                  have hcz63_1 : wc.cell? ⟨gb1405, 1, none⟩ = some (.int .i64 t1399) := (blk_cell BK1405.out 1).trans rfl
                  have hcz63_2 : wc.cell? ⟨gb1405, 2, none⟩ = some (.int .i64 t1400) := (blk_cell BK1405.out 2).trans rfl
                  have hcz63_3 : wc.cell? ⟨gb1405, 3, none⟩ = some (.int .i64 t1401) := (blk_cell BK1405.out 3).trans rfl
                  have hcz63_4 : wc.cell? ⟨gb1405, 4, none⟩ = some (.slice Ao47 t1402.length co47) := (blk_cell BK1405.out 4).trans rfl
                  have hfz63_0 := blk_frozen BK1405.out 0
                  have hfz63_1 := blk_frozen BK1405.out 1
                  have hfz63_2 := blk_frozen BK1405.out 2
                  have hfz63_3 := blk_frozen BK1405.out 3
                  have hfz63_4 := blk_frozen BK1405.out 4
                  go_wp2_with (first | ((with_reducible refine gate_callee (f := 29) rfl ?_); refine goesL_ (some 81) rfl rfl Try.func29 (by kernel_rfl) rfl #[.agg #[.int .i64 t1398, .int .i64 t1399, .int .i64 t1400, .int .i64 t1401, .slice Ao47 t1402.length co47], .int .i64 t1390, .int .i64 t1391] rfl sm_ ?_; (with_reducible refine (impl_MakerAsk.calls kj40 t1398 t1399 t1400 t1401 _ _ t1402 t1390 t1391 t1407 t1408 _ ?side1 ?side2 A54.out).mono ?_); (case side1 => repeat (first | exact (Kd.R_reads' HO_1406004.out).2.2 | (with_reducible refine Kd.C_alloc ?_ _) | (with_reducible refine Kd.C_drewN ?_ _) | (with_reducible refine Kd.C_drew ?_))); (case side2 => exact (Kd.R_reads' HO_1406004.out).2.1); rintro e w64 ⟨rfl, hb⟩; refine ⟨_, rfl, ?_⟩; have n0_ := Aside0.mk (Kd.R_below (rq_ HO_1393004.out) hb); have n1_ := Aside0.mk (Kd.R_below (rq_ HO_1406004.out) hb); have n2_ := Aside0.mk (bb_ BK1392.out hb); have n3_ := Aside0.mk (bb_ BK1405.out hb); have n4_ := Aside0.mk (below_step (hb_ HB.out) hb); clear HO_1393004; clear HO_1406004; clear BK1392; clear BK1405; clear HB; have HO_1393004 := n0_; have HO_1406004 := n1_; have BK1392 := n2_; have BK1405 := n3_; have HB := n4_; clear n0_ n1_ n2_ n3_ n4_; (try clear hb); (try clear hb2); (try clear hk); (try clear hi); have hcz65_0 : w64.cell? ⟨gb1405, 0, none⟩ = some (.int .i64 t1398) := (blk_cell BK1405.out 0).trans rfl; have hcz65_1 : w64.cell? ⟨gb1405, 1, none⟩ = some (.int .i64 t1399) := (blk_cell BK1405.out 1).trans rfl; have hcz65_2 : w64.cell? ⟨gb1405, 2, none⟩ = some (.int .i64 t1400) := (blk_cell BK1405.out 2).trans rfl; have hcz65_3 : w64.cell? ⟨gb1405, 3, none⟩ = some (.int .i64 t1401) := (blk_cell BK1405.out 3).trans rfl; have hcz65_4 : w64.cell? ⟨gb1405, 4, none⟩ = some (.slice Ao47 t1402.length co47) := (blk_cell BK1405.out 4).trans rfl; have hfz65_0 := blk_frozen BK1405.out 0; have hfz65_1 := blk_frozen BK1405.out 1; have hfz65_2 := blk_frozen BK1405.out 2; have hfz65_3 := blk_frozen BK1405.out 3; have hfz65_4 := blk_frozen BK1405.out 4))
                  go_ret
                  exact ⟨er_, hb_ HB.out⟩
                ·
                 rw [if_neg c56] at H
                 have c56b0 : (t1408 == 50) = false := beq_eq_false_iff_ne.mpr c56
                 have c56b1 : (t1408 != 50) = true := bne_iff_ne.mpr c56
                 obtain rfl := Option.some.inj H
                 have hnb66 := NB1405_1392.out
                 have hnc66 := NB1392_1405.out
                 have hcz67_0 : wc.cell? ⟨gb1405, 0, none⟩ = some (.int .i64 t1398) := (blk_cell BK1405.out 0).trans rfl
                 have hcz67_1 : wc.cell? ⟨gb1405, 1, none⟩ = some (.int .i64 t1399) := (blk_cell BK1405.out 1).trans rfl
                 have hcz67_2 : wc.cell? ⟨gb1405, 2, none⟩ = some (.int .i64 t1400) := (blk_cell BK1405.out 2).trans rfl
                 have hcz67_3 : wc.cell? ⟨gb1405, 3, none⟩ = some (.int .i64 t1401) := (blk_cell BK1405.out 3).trans rfl
                 have hcz67_4 : wc.cell? ⟨gb1405, 4, none⟩ = some (.slice Ao47 t1402.length co47) := (blk_cell BK1405.out 4).trans rfl
                 have hfz67_0 := blk_frozen BK1405.out 0
                 have hfz67_1 := blk_frozen BK1405.out 1
                 have hfz67_2 := blk_frozen BK1405.out 2
                 have hfz67_3 := blk_frozen BK1405.out 3
                 have hfz67_4 := blk_frozen BK1405.out 4
                 go_wp2_with (first | ((with_reducible refine gate_callee (f := 29) rfl ?_); refine goesL_ (some 81) rfl rfl Try.func29 (by kernel_rfl) rfl #[.agg #[.int .i64 t1398, .int .i64 t1399, .int .i64 t1400, .int .i64 t1401, .slice Ao47 t1402.length co47], .int .i64 t1390, .int .i64 t1391] rfl sm_ ?_; (with_reducible refine (impl_MakerAsk.calls kj40 t1398 t1399 t1400 t1401 _ _ t1402 t1390 t1391 t1407 t1408 _ ?side1 ?side2 A54.out).mono ?_); (case side1 => repeat (first | exact (Kd.R_reads' HO_1406004.out).2.2 | (with_reducible refine Kd.C_alloc ?_ _) | (with_reducible refine Kd.C_drewN ?_ _) | (with_reducible refine Kd.C_drew ?_))); (case side2 => exact (Kd.R_reads' HO_1406004.out).2.1); rintro e w68 ⟨rfl, hb⟩; refine ⟨_, rfl, ?_⟩; have n0_ := Aside0.mk (Kd.R_below (rq_ HO_1393004.out) hb); have n1_ := Aside0.mk (Kd.R_below (rq_ HO_1406004.out) hb); have n2_ := Aside0.mk (bb_ BK1392.out hb); have n3_ := Aside0.mk (bb_ BK1405.out hb); have n4_ := Aside0.mk (below_step (hb_ HB.out) hb); clear HO_1393004; clear HO_1406004; clear BK1392; clear BK1405; clear HB; have HO_1393004 := n0_; have HO_1406004 := n1_; have BK1392 := n2_; have BK1405 := n3_; have HB := n4_; clear n0_ n1_ n2_ n3_ n4_; (try clear hb); (try clear hb2); (try clear hk); (try clear hi)))
                 go_ret
                 exact ⟨er_, hb_ HB.out⟩
               ·
                rw [if_neg c55] at H
                have c55b0 : (t1407 == 1) = false := beq_eq_false_iff_ne.mpr c55
                have c55b1 : (t1407 != 1) = true := bne_iff_ne.mpr c55
                obtain rfl := Option.some.inj H
                have hnb69 := NB1405_1392.out
                have hnc69 := NB1392_1405.out
                have hcz70_0 : wc.cell? ⟨gb1405, 0, none⟩ = some (.int .i64 t1398) := (blk_cell BK1405.out 0).trans rfl
                have hcz70_1 : wc.cell? ⟨gb1405, 1, none⟩ = some (.int .i64 t1399) := (blk_cell BK1405.out 1).trans rfl
                have hcz70_2 : wc.cell? ⟨gb1405, 2, none⟩ = some (.int .i64 t1400) := (blk_cell BK1405.out 2).trans rfl
                have hcz70_3 : wc.cell? ⟨gb1405, 3, none⟩ = some (.int .i64 t1401) := (blk_cell BK1405.out 3).trans rfl
                have hcz70_4 : wc.cell? ⟨gb1405, 4, none⟩ = some (.slice Ao47 t1402.length co47) := (blk_cell BK1405.out 4).trans rfl
                have hfz70_0 := blk_frozen BK1405.out 0
                have hfz70_1 := blk_frozen BK1405.out 1
                have hfz70_2 := blk_frozen BK1405.out 2
                have hfz70_3 := blk_frozen BK1405.out 3
                have hfz70_4 := blk_frozen BK1405.out 4
                go_wp2_with (first | ((with_reducible refine gate_callee (f := 29) rfl ?_); refine goesL_ (some 81) rfl rfl Try.func29 (by kernel_rfl) rfl #[.agg #[.int .i64 t1398, .int .i64 t1399, .int .i64 t1400, .int .i64 t1401, .slice Ao47 t1402.length co47], .int .i64 t1390, .int .i64 t1391] rfl sm_ ?_; (with_reducible refine (impl_MakerAsk.calls kj40 t1398 t1399 t1400 t1401 _ _ t1402 t1390 t1391 t1407 t1408 _ ?side1 ?side2 A54.out).mono ?_); (case side1 => repeat (first | exact (Kd.R_reads' HO_1406004.out).2.2 | (with_reducible refine Kd.C_alloc ?_ _) | (with_reducible refine Kd.C_drewN ?_ _) | (with_reducible refine Kd.C_drew ?_))); (case side2 => exact (Kd.R_reads' HO_1406004.out).2.1); rintro e w71 ⟨rfl, hb⟩; refine ⟨_, rfl, ?_⟩; have n0_ := Aside0.mk (Kd.R_below (rq_ HO_1393004.out) hb); have n1_ := Aside0.mk (Kd.R_below (rq_ HO_1406004.out) hb); have n2_ := Aside0.mk (bb_ BK1392.out hb); have n3_ := Aside0.mk (bb_ BK1405.out hb); have n4_ := Aside0.mk (below_step (hb_ HB.out) hb); clear HO_1393004; clear HO_1406004; clear BK1392; clear BK1405; clear HB; have HO_1393004 := n0_; have HO_1406004 := n1_; have BK1392 := n2_; have BK1405 := n3_; have HB := n4_; clear n0_ n1_ n2_ n3_ n4_; (try clear hb); (try clear hb2); (try clear hk); (try clear hi)))
                go_ret
                exact ⟨er_, hb_ HB.out⟩

/-- THE ONE PURE STATEMENT of laws_FnFenced: yours. -/
def laws_FnFenced.Pure : Prop := ∀ (l0 : List Int), l0.length ≤ maxLen → l0.length * 1 ≤ 140737488351232 → (∀ x ∈ l0, (Lit.int .u8 x).wf = true) → ∃ k, laws_FnFenced.f k l0 = some true
theorem laws_FnFenced.walk (P : laws_FnFenced.Pure) (a0 : Option Addr) (len0 cap0 : Nat) (z0 : List Int) (w : World) (w0 : (a0 = none ∧ len0 = 0 ∧ cap0 = 0 ∧ z0 = []) ∨ ∃ x, a0 = some x ∧ len0 ≤ cap0 ∧ cap0 ≤ maxLen ∧ z0.length = cap0 ∧ (∀ i, i < z0.length → w.cell? (x.add i) = some (.int .u8 (z0.getD i 0))) ∧ ∀ n ∈ z0, (Lit.int .u8 n).wf = true) (y0 : len0 * 1 ≤ 140737488351232) :
 Calls Try.prog 11 #[.slice a0 len0 cap0] w fun e w' => e = .returned (.bool true) ∧ Below w.heap.size w w' := by
 obtain ⟨l0, rfl, hr0, hm0, hw0, hc0⟩ := ReadsInt.ofRowC w0
 obtain ⟨k, h⟩ := P l0 hm0 y0 hw0
 refine (laws_FnFenced.calls k _ _ l0 true w (Kd.C_of_reads (d := (0 : Int)) (h1 := fun _ => rfl) hr0) hc0 h).mono ?_
 rintro e w' ⟨rfl, hd⟩
 exact ⟨rfl, hd⟩
end Go.Proofs.Ytgkeapbeogmfjaa.Q
