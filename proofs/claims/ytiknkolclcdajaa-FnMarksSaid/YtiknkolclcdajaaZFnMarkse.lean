/- Made by a program of ours out of the print of the loaded functions: for each of some functions a plain function, and the walk that shows that a call comes to what it says. No condition but those of each theorem. -/
import Derived.Test.YtiknkolclcdajaaZFnMarks0
import Derived.Test.YtiknkolclcdajaaZFnMarksa
import Derived.Test.YtiknkolclcdajaaZFnMarksd
namespace Go.Proofs.Ytiknkolclcdajaa.Q
open Go.RowKit Go.Proofs.YtiknkolclcdajaaW.PrintWords Go.Proofs.YtiknkolclcdajaaW.PrintLast Go.Proofs.YtiknkolclcdajaaW.PrintMore
attribute [local go_sem] max2_int min2_int max_two min_two max_three min_three max_four min_four   -- for this text's walks alone
set_option linter.unusedVariables false
set_option linter.unusedSimpArgs false

/-! ### spec_l5Draw: function 77 -/
def spec_l5Draw.f (k : Nat) (s0_0 : List Int) (s0_1 : Int) (s0_2 : Int) : Option (Int × List Int × List Int × List Int × Int × Int × Int) := (spec_l5DrawRight.f k s0_0 s0_1 s0_2).bind fun bt1587 => ((spec_l1Below.f s0_0 bt1587.2.2.2.2.2.1 bt1587.2.2.2.2.2.2 12).bind fun bt1601 => (if bt1601.1 = 0 then ((spec_l1PickInt.f s0_0 bt1601.2.1 bt1601.2.2 (([(-1), 100000, 100001] : List Int))).bind fun bt1607 => (some (bt1607.1, bt1587.2.1, bt1587.2.2.1, bt1587.2.2.2.1, bt1587.2.2.2.2.1, bt1607.2.1, bt1607.2.2))) else (if bt1601.1 = 1 then ((spec_l1Below.f s0_0 bt1601.2.1 bt1601.2.2 5).bind fun bt1610 => (if bt1587.2.1.length < 17592186044416 then (some (bt1587.1, (bt1587.2.1 ++ [bt1610.1]), bt1587.2.2.1, bt1587.2.2.2.1, bt1587.2.2.2.2.1, bt1610.2.1, bt1610.2.2)) else (none))) else (if bt1601.1 = 2 then ((spec_l1PickInt.f s0_0 bt1601.2.1 bt1601.2.2 (([0, (-1), (-9223372036854775808)] : List Int))).bind fun bt1619 => (if bt1587.2.2.1.length < 17592186044416 then (some (bt1587.1, bt1587.2.1, (bt1587.2.2.1 ++ [bt1619.1]), bt1587.2.2.2.1, bt1587.2.2.2.2.1, bt1619.2.1, bt1619.2.2)) else (none))) else (if bt1601.1 = 3 then ((spec_l1Below.f s0_0 bt1601.2.1 bt1601.2.2 5).bind fun bt1625 => (some (bt1587.1, bt1587.2.1, bt1587.2.2.1, bt1587.2.2.2.1, bt1625.1, bt1625.2.1, bt1625.2.2))) else (if bt1601.1 = 4 then ((spec_l1PickInt.f s0_0 bt1601.2.1 bt1601.2.2 (([(-1), 100001] : List Int))).bind fun bt1631 => (if 0 < (bt1587.2.2.2.1.length : Int) then (some (bt1587.1, bt1587.2.1, bt1587.2.2.1, (bt1587.2.2.2.1.set (0 : Int).toNat bt1631.1), bt1587.2.2.2.2.1, bt1631.2.1, bt1631.2.2)) else (none))) else (some (bt1587.1, bt1587.2.1, bt1587.2.2.1, bt1587.2.2.2.1, bt1587.2.2.2.2.1, bt1601.2.1, bt1601.2.2))))))))
theorem spec_l5Draw.mono : ∀ a0 a1 a2 k, LeO (spec_l5Draw.f k a0 a1 a2) (spec_l5Draw.f (k + 1) a0 a1 a2) := by
 intro a0 a1 a2 k
 unfold spec_l5Draw.f
 repeat' first
  | (with_reducible exact spec_l5DrawRight.mono _ _ _ _)
  | (with_reducible exact LeO.refl _)
  | (with_reducible exact LeO.none _)
  | (with_reducible refine LeO.ite ?_ ?_)
  | (with_reducible refine LeO.bind ?_ (fun _ => ?_))
  | exact spec_l5DrawRight.mono _ _ _ _
  | exact LeO.none _
  | refine LeO.ite ?_ ?_
  | refine LeO.bind ?_ (fun _ => ?_)
def spec_l5Draw.T6 : Bool × List (List Nat × List Nat) := (true, [([], []), ([0], [0]), ([], []), ([2], [2]), ([3], [3]), ([1, 4, 3], [1, 4]), ([0, 1, 2, 3, 4, 5], []), ([6, 5, 5, 0, 1, 2, 3, 4, 5], [5, 6])])
def spec_l5Draw.B6 : List Nat := [0, 1, 0, 4, 12, 31, 63, 127]
theorem spec_l5Draw.tab6 : rtab .any (opsOf Try.f77 6) = spec_l5Draw.T6 := by kernel_rfl
theorem spec_l5Draw.bits6 : waitsOk spec_l5Draw.T6.2 spec_l5Draw.B6 = true := by kernel_rfl
def spec_l5Draw.T8 : Bool × List (List Nat × List Nat) := (true, [([], []), ([0], [0]), ([], []), ([], []), ([2, 3], [2, 3]), ([4], [4]), ([1, 5, 4], [1, 5]), ([0, 1, 2, 3, 4, 5, 6], []), ([7, 6, 6, 0, 1, 2, 3, 4, 5, 6], [6, 7])])
def spec_l5Draw.B8 : List Nat := [0, 1, 0, 0, 12, 28, 63, 127, 255]
theorem spec_l5Draw.tab8 : rtab .any (opsOf Try.f77 8) = spec_l5Draw.T8 := by kernel_rfl
theorem spec_l5Draw.bits8 : waitsOk spec_l5Draw.T8.2 spec_l5Draw.B8 = true := by kernel_rfl
set_option maxHeartbeats 8000000 in
set_option maxRecDepth 100000 in
theorem spec_l5Draw.calls (k : Nat) (g : Nat) (s0_0 : List Int) (s0_1 : Int) (s0_2 : Int) (r1 : Int) (r2 : List Int) (r3 : List Int) (r4 : List Int) (r5 : Int) (r6 : Int) (r7 : Int) (w0 w : World) (hI : IsS_l1Cur w0 w g s0_0 s0_1 s0_2) (hB : Below w0.heap.size w0 w) (h : spec_l5Draw.f k s0_0 s0_1 s0_2 = some (r1, r2, r3, r4, r5, r6, r7)) :
 Calls Try.prog 77 #[.pointer (some ⟨g, 0, none⟩)] w fun e w' => ∃ v1_ v2_ v3_ : Value, e = .returned (.tuple #[.agg #[.int .i64 r1, v1_, v2_, v3_], .int .i64 r5]) ∧ Kd.R (Kd.int .i64) 3 w' w.heap.size (fun k_ => some k_ ≠ (v2_ : Value).ownBlock ∧ some k_ ≠ (v3_ : Value).ownBlock) v1_ r2 ∧ Kd.R (Kd.int .i64) 3 w' w.heap.size (fun k_ => some k_ ≠ (v1_ : Value).ownBlock ∧ some k_ ≠ (v3_ : Value).ownBlock) v2_ r3 ∧ Kd.R (Kd.int .i64) 3 w' w.heap.size (fun k_ => some k_ ≠ (v1_ : Value).ownBlock ∧ some k_ ≠ (v2_ : Value).ownBlock) v3_ r4 ∧ IsS_l1Cur w0 w' g s0_0 r6 r7 ∧ Below w0.heap.size w0 w' ∧ KeepBut w w' g none := by
 have hu26 := Try.underlying26
 have HI0 := Aside0.mk hI
 have HK := Aside0.mk (KeepBut.refl w g none)
 have HL := Aside0.mk hB.size
 clear hI
 have HW0 := Aside0.mk hB.size
 have HB := Aside0.mk hB
 clear hB
 have H : ((spec_l5DrawRight.f k s0_0 s0_1 s0_2).bind fun bt1587 => ((spec_l1Below.f s0_0 bt1587.2.2.2.2.2.1 bt1587.2.2.2.2.2.2 12).bind fun bt1601 => (if bt1601.1 = 0 then ((spec_l1PickInt.f s0_0 bt1601.2.1 bt1601.2.2 (([(-1), 100000, 100001] : List Int))).bind fun bt1607 => (some (bt1607.1, bt1587.2.1, bt1587.2.2.1, bt1587.2.2.2.1, bt1587.2.2.2.2.1, bt1607.2.1, bt1607.2.2))) else (if bt1601.1 = 1 then ((spec_l1Below.f s0_0 bt1601.2.1 bt1601.2.2 5).bind fun bt1610 => (if bt1587.2.1.length < 17592186044416 then (some (bt1587.1, (bt1587.2.1 ++ [bt1610.1]), bt1587.2.2.1, bt1587.2.2.2.1, bt1587.2.2.2.2.1, bt1610.2.1, bt1610.2.2)) else (none))) else (if bt1601.1 = 2 then ((spec_l1PickInt.f s0_0 bt1601.2.1 bt1601.2.2 (([0, (-1), (-9223372036854775808)] : List Int))).bind fun bt1619 => (if bt1587.2.2.1.length < 17592186044416 then (some (bt1587.1, bt1587.2.1, (bt1587.2.2.1 ++ [bt1619.1]), bt1587.2.2.2.1, bt1587.2.2.2.2.1, bt1619.2.1, bt1619.2.2)) else (none))) else (if bt1601.1 = 3 then ((spec_l1Below.f s0_0 bt1601.2.1 bt1601.2.2 5).bind fun bt1625 => (some (bt1587.1, bt1587.2.1, bt1587.2.2.1, bt1587.2.2.2.1, bt1625.1, bt1625.2.1, bt1625.2.2))) else (if bt1601.1 = 4 then ((spec_l1PickInt.f s0_0 bt1601.2.1 bt1601.2.2 (([(-1), 100001] : List Int))).bind fun bt1631 => (if 0 < (bt1587.2.2.2.1.length : Int) then (some (bt1587.1, bt1587.2.1, bt1587.2.2.1, (bt1587.2.2.2.1.set (0 : Int).toNat bt1631.1), bt1587.2.2.2.2.1, bt1631.2.1, bt1631.2.2)) else (none))) else (some (bt1587.1, bt1587.2.1, bt1587.2.2.1, bt1587.2.2.2.1, bt1587.2.2.2.2.1, bt1601.2.1, bt1601.2.2))))))))) = some (r1, r2, r3, r4, r5, r6, r7) := h
 clear h
 replace H := Option.bind_eq_some_iff.mp H
 obtain ⟨⟨t1587, t1588, t1591, t1594, t1597, t1598, t1599⟩, A20, H⟩ := H
 replace H : ((spec_l1Below.f s0_0 t1598 t1599 12).bind fun bt1601 => (if bt1601.1 = 0 then ((spec_l1PickInt.f s0_0 bt1601.2.1 bt1601.2.2 (([(-1), 100000, 100001] : List Int))).bind fun bt1607 => (some (bt1607.1, t1588, t1591, t1594, t1597, bt1607.2.1, bt1607.2.2))) else (if bt1601.1 = 1 then ((spec_l1Below.f s0_0 bt1601.2.1 bt1601.2.2 5).bind fun bt1610 => (if t1588.length < 17592186044416 then (some (t1587, (t1588 ++ [bt1610.1]), t1591, t1594, t1597, bt1610.2.1, bt1610.2.2)) else (none))) else (if bt1601.1 = 2 then ((spec_l1PickInt.f s0_0 bt1601.2.1 bt1601.2.2 (([0, (-1), (-9223372036854775808)] : List Int))).bind fun bt1619 => (if t1591.length < 17592186044416 then (some (t1587, t1588, (t1591 ++ [bt1619.1]), t1594, t1597, bt1619.2.1, bt1619.2.2)) else (none))) else (if bt1601.1 = 3 then ((spec_l1Below.f s0_0 bt1601.2.1 bt1601.2.2 5).bind fun bt1625 => (some (t1587, t1588, t1591, t1594, bt1625.1, bt1625.2.1, bt1625.2.2))) else (if bt1601.1 = 4 then ((spec_l1PickInt.f s0_0 bt1601.2.1 bt1601.2.2 (([(-1), 100001] : List Int))).bind fun bt1631 => (if 0 < (t1594.length : Int) then (some (t1587, t1588, t1591, (t1594.set (0 : Int).toNat bt1631.1), t1597, bt1631.2.1, bt1631.2.2)) else (none))) else (some (t1587, t1588, t1591, t1594, t1597, bt1601.2.1, bt1601.2.2)))))))) = some (r1, r2, r3, r4, r5, r6, r7) := H
 have A2 := Aside0.mk A20
 clear A20
 replace H := Option.bind_eq_some_iff.mp H
 obtain ⟨⟨t1601, t1602, t1603⟩, A30, H⟩ := H
 replace H : (if t1601 = 0 then ((spec_l1PickInt.f s0_0 t1602 t1603 (([(-1), 100000, 100001] : List Int))).bind fun bt1607 => (some (bt1607.1, t1588, t1591, t1594, t1597, bt1607.2.1, bt1607.2.2))) else (if t1601 = 1 then ((spec_l1Below.f s0_0 t1602 t1603 5).bind fun bt1610 => (if t1588.length < 17592186044416 then (some (t1587, (t1588 ++ [bt1610.1]), t1591, t1594, t1597, bt1610.2.1, bt1610.2.2)) else (none))) else (if t1601 = 2 then ((spec_l1PickInt.f s0_0 t1602 t1603 (([0, (-1), (-9223372036854775808)] : List Int))).bind fun bt1619 => (if t1591.length < 17592186044416 then (some (t1587, t1588, (t1591 ++ [bt1619.1]), t1594, t1597, bt1619.2.1, bt1619.2.2)) else (none))) else (if t1601 = 3 then ((spec_l1Below.f s0_0 t1602 t1603 5).bind fun bt1625 => (some (t1587, t1588, t1591, t1594, bt1625.1, bt1625.2.1, bt1625.2.2))) else (if t1601 = 4 then ((spec_l1PickInt.f s0_0 t1602 t1603 (([(-1), 100001] : List Int))).bind fun bt1631 => (if 0 < (t1594.length : Int) then (some (t1587, t1588, t1591, (t1594.set (0 : Int).toNat bt1631.1), t1597, bt1631.2.1, bt1631.2.2)) else (none))) else (some (t1587, t1588, t1591, t1594, t1597, t1602, t1603))))))) = some (r1, r2, r3, r4, r5, r6, r7) := H
 have A3 := Aside0.mk A30
 clear A30
 by_cases c4 : t1601 = 0
 ·
  rw [if_pos c4] at H
  have c4b0 : (t1601 == 0) = true := beq_iff_eq.mpr c4
  have c4b1 : (t1601 != 0) = false := bne_eq_false_iff_eq.mpr c4
  clear c4
  obtain ⟨y1604, hy1604⟩ : ∃ y_ : List Int, y_ = (([(-1), 100000, 100001] : List Int)) := ⟨_, rfl⟩
  replace H : ((spec_l1PickInt.f s0_0 t1602 t1603 y1604).bind fun bt1607 => (some (bt1607.1, t1588, t1591, t1594, t1597, bt1607.2.1, bt1607.2.2))) = some (r1, r2, r3, r4, r5, r6, r7) := by first | (rw [hy1604]; with_reducible exact H) | (have H2_ := (Option.bind_some _ _).symm.trans H; rw [hy1604]; with_reducible exact H2_) | (have H2_ := (Option.bind_some _ _).symm.trans H; with_reducible exact H2_) | with_reducible exact H | (rw [hy1604]; exact H) | exact H
  have Ny1604 := Aside0.mk hy1604
  clear hy1604
  replace H := Option.bind_eq_some_iff.mp H
  obtain ⟨⟨t1607, t1608, t1609⟩, A50, H⟩ := H
  replace H : (some (t1607, t1588, t1591, t1594, t1597, t1608, t1609)) = some (r1, r2, r3, r4, r5, r6, r7) := H
  have A5 := Aside0.mk A50
  clear A50
  simp only [Option.some.injEq, Prod.mk.injEq] at H
  obtain ⟨rfl, rfl, rfl, rfl, rfl, rfl, rfl⟩ := H
  go_enter Try.func77, Try.ntmps77
  go_wp2_with (first | ((with_reducible refine gate_dst (N := 2) rfl ?_); refine box_event ?hg (N := 2) ?hd (cs := #[.int .i64 0, .slice none 0 0, .slice none 0 0, .slice none 0 0]) (t := 26) ?hr ?_; (case hd => rfl); (case hg => rfl); (case hr => first | (go_simp; done) | (go_simp; rfl)); intro gb1586 hg w6 hbox hb; have n0_ := Aside0.mk (IsS_l1Cur.below (is_l1Cur_ HI0.out) hb); have n1_ := Aside0.mk (KeepBut.trans (hk_ HK.out) (KeepBut.of_below hb g none) (.inl rfl)); have n2_ := Aside0.mk (below_step (hi_ HB.out) hb); have n3_ := Aside0.mk (hbox); have n4_ := Aside0.mk ((by rw [hg]; exact (keep_size (w := w) (g := g) (row := none) (hk_ HK.out)) : w.heap.size ≤ gb1586)); have n5_ := Aside0.mk ((Nat.le_trans HW0.out (by rw [hg]; exact (keep_size (w := w) (g := g) (row := none) (hk_ HK.out)) : w.heap.size ≤ gb1586) : w0.heap.size ≤ gb1586)); have n6_ := Aside0.mk ((by rw [hg]; exact Nat.ne_of_lt (IsS_l1Cur.lt (show IsS_l1Cur w0 _ g s0_0 s0_1 s0_2 from is_l1Cur_ HI0.out)) : g ≠ gb1586)); have n7_ := Aside0.mk ((by rw [hg]; exact Nat.ne_of_gt (IsS_l1Cur.lt (show IsS_l1Cur w0 _ g s0_0 s0_1 s0_2 from is_l1Cur_ HI0.out)) : gb1586 ≠ g)); clear HI0; clear HK; clear HB; have HI0 := n0_; have HK := n1_; have HB := n2_; have BK1586 := n3_; have GW1586 := n4_; have GE1586 := n5_; have NB0_1586 := n6_; have NB1586_0 := n7_; clear n0_ n1_ n2_ n3_ n4_ n5_ n6_ n7_; clear hb hbox hg) | ((with_reducible refine gate_callee (f := 145) rfl ?_); refine goesL_ (some 8) rfl rfl Try.func145 (by kernel_rfl) rfl #[.pointer (some ⟨g, 0, none⟩)] rfl sm_ ?_; (with_reducible refine (spec_l5DrawRight.calls k g s0_0 s0_1 s0_2 t1587 t1588 t1591 t1594 t1597 t1598 t1599 w0 _ ?side1 ?side2 A2.out).mono ?_); (case side1 => repeat (first | (with_reducible first | exact HI0.out | apply IsS_l1Cur.alloc | apply IsS_l1Cur.drewN | apply IsS_l1Cur.drew | apply IsS_l1Cur.set_1 | apply IsS_l1Cur.set_2 | refine IsS_l1Cur.far ?_ NB0_1586.out _) | exact HI0.out)); (case side2 => repeat (first | (with_reducible first | exact HB.out | apply below_alloc | apply pw_below_drewN | apply below_drew1 | refine below_set ?_ (IsS_l1Cur.ge HI0.out) | refine below_set ?_ GE1586.out) | exact HB.out)); rintro e w7 ⟨v1589, v1592, v1595, rfl, ho0, ho1, ho2, hi, hb, hk⟩; refine ⟨_, rfl, ?_⟩; have n0_ := Aside0.mk (KeepBut.blk hk (g' := gb1586) (o := .cells #[.int .i64 0, .slice none 0 0, .slice none 0 0, .slice none 0 0] 26 (0, 0)) (bq_ BK1586.out) NB1586_0.out (by simp)); have n1_ := Aside0.mk (Kd.R_lower ho0 (keep_size (w := w) (g := g) (row := none) (hk_ HK.out))); have n2_ := Aside0.mk (Kd.R_lower ho1 (keep_size (w := w) (g := g) (row := none) (hk_ HK.out))); have n3_ := Aside0.mk (Kd.R_lower ho2 (keep_size (w := w) (g := g) (row := none) (hk_ HK.out))); have n4_ := Aside0.mk (KeepBut.trans (hk_ HK.out) hk (.inl rfl)); have n5_ := Aside0.mk (hb); have n6_ := Aside0.mk (hi); clear BK1586; clear HK; clear HB; clear HI0; have BK1586 := n0_; have HO1590 := n1_; have HO1593 := n2_; have HO1596 := n3_; have HK := n4_; have HB := n5_; have HI0 := n6_; clear n0_ n1_ n2_ n3_ n4_ n5_ n6_; (try clear hb); (try clear hb2); (try clear hk); (try clear hi); (try clear ho0); (try clear ho1); (try clear ho2)) | ((with_reducible refine gate_dst (N := 4) rfl ?_); refine box_event ?hg (N := 4) ?hd (cs := #[.int .i64 0, .slice none 0 0, .slice none 0 0, .slice none 0 0]) (t := 26) ?hr ?_; (case hd => rfl); (case hg => rfl); (case hr => first | (go_simp; done) | (go_simp; rfl)); intro gb1600 hg w8 hbox hb; have n0_ := Aside0.mk (Kd.R_below (rq_ HO1590.out) hb); have n1_ := Aside0.mk (Kd.R_below (rq_ HO1593.out) hb); have n2_ := Aside0.mk (Kd.R_below (rq_ HO1596.out) hb); have n3_ := Aside0.mk (IsS_l1Cur.below (is_l1Cur_ HI0.out) hb); have n4_ := Aside0.mk (bb_ BK1586.out hb); have n5_ := Aside0.mk (KeepBut.trans (hk_ HK.out) (KeepBut.of_below hb g none) (.inl rfl)); have n6_ := Aside0.mk (below_step (hi_ HB.out) hb); have n7_ := Aside0.mk (hbox); have n8_ := Aside0.mk ((by rw [hg]; exact (keep_size (w := w) (g := g) (row := none) (hk_ HK.out)) : w.heap.size ≤ gb1600)); have n9_ := Aside0.mk ((Nat.le_trans HW0.out (by rw [hg]; exact (keep_size (w := w) (g := g) (row := none) (hk_ HK.out)) : w.heap.size ≤ gb1600) : w0.heap.size ≤ gb1600)); have n10_ := Aside0.mk ((nl_ BK1586.out hg : gb1586 ≠ gb1600)); have n11_ := Aside0.mk ((ng_ BK1586.out hg : gb1600 ≠ gb1586)); have n12_ := Aside0.mk ((by rw [hg]; exact Nat.ne_of_lt (IsS_l1Cur.lt (show IsS_l1Cur w0 _ g s0_0 t1598 t1599 from is_l1Cur_ HI0.out)) : g ≠ gb1600)); have n13_ := Aside0.mk ((by rw [hg]; exact Nat.ne_of_gt (IsS_l1Cur.lt (show IsS_l1Cur w0 _ g s0_0 t1598 t1599 from is_l1Cur_ HI0.out)) : gb1600 ≠ g)); clear HO1590; clear HO1593; clear HO1596; clear HI0; clear BK1586; clear HK; clear HB; have HO1590 := n0_; have HO1593 := n1_; have HO1596 := n2_; have HI0 := n3_; have BK1586 := n4_; have HK := n5_; have HB := n6_; have BK1600 := n7_; have GW1600 := n8_; have GE1600 := n9_; have NB1586_1600 := n10_; have NB1600_1586 := n11_; have NB0_1600 := n12_; have NB1600_0 := n13_; clear n0_ n1_ n2_ n3_ n4_ n5_ n6_ n7_ n8_ n9_ n10_ n11_ n12_ n13_; clear hb hbox hg; have hnb9 := NB1600_1586.out; have hnc9 := NB1586_1600.out; have hnb10 := NB1600_0.out; have hnc10 := NB0_1600.out; have hcz11_0 : w8.cell? ⟨gb1600, 0, none⟩ = some (.int .i64 0) := (blk_cell BK1600.out 0).trans rfl; have hcz11_1 : w8.cell? ⟨gb1600, 1, none⟩ = some (.slice none 0 0) := (blk_cell BK1600.out 1).trans rfl; have hcz11_2 : w8.cell? ⟨gb1600, 2, none⟩ = some (.slice none 0 0) := (blk_cell BK1600.out 2).trans rfl; have hcz11_3 : w8.cell? ⟨gb1600, 3, none⟩ = some (.slice none 0 0) := (blk_cell BK1600.out 3).trans rfl; have hfz11_0 := blk_frozen BK1600.out 0; have hfz11_1 := blk_frozen BK1600.out 1; have hfz11_2 := blk_frozen BK1600.out 2; have hfz11_3 := blk_frozen BK1600.out 3; obtain ⟨Ao12, co12, eo12⟩ := Kd.R_slice HO1590.out; subst eo12; obtain ⟨Ao13, co13, eo13⟩ := Kd.R_slice HO1593.out; subst eo13; obtain ⟨Ao14, co14, eo14⟩ := Kd.R_slice HO1596.out; subst eo14) | ((with_reducible refine gate_callee (f := 78) rfl ?_); refine goesL_ (some 12) rfl rfl Try.func78 (by kernel_rfl) rfl #[.pointer (some ⟨g, 0, none⟩), .int .i64 12] rfl sm_ ?_; (with_reducible refine (spec_l1Below.calls g s0_0 t1598 t1599 12 t1601 t1602 t1603 w0 _ ?side1 ?side2 A3.out).mono ?_); (case side1 => repeat (first | (with_reducible first | exact HI0.out | apply IsS_l1Cur.alloc | apply IsS_l1Cur.drewN | apply IsS_l1Cur.drew | apply IsS_l1Cur.set_1 | apply IsS_l1Cur.set_2 | refine IsS_l1Cur.far ?_ NB0_1586.out _ | refine IsS_l1Cur.far ?_ NB0_1600.out _) | exact HI0.out)); (case side2 => repeat (first | (with_reducible first | exact HB.out | apply below_alloc | apply pw_below_drewN | apply below_drew1 | refine below_set ?_ (IsS_l1Cur.ge HI0.out) | refine below_set ?_ GE1586.out | refine below_set ?_ GE1600.out) | exact HB.out)); rintro e w15 ⟨rfl, hi, hb, hk⟩; refine ⟨_, rfl, ?_⟩; have n0_ := Aside0.mk (KeepBut.blk hk (g' := gb1586) (o := .cells #[.int .i64 0, .slice none 0 0, .slice none 0 0, .slice none 0 0] 26 (0, 0)) (bf_ NB1586_1600.out BK1586.out) NB1586_0.out (by simp)); have n1_ := Aside0.mk (Kd.R_mono (Kd.R_keep (IsS_l1Cur.apart (show IsS_l1Cur w0 _ g s0_0 t1598 t1599 from is_l1Cur_ HI0.out) (rk_ HO1590.out BK1600.out) (by decide)) hk (fun _ h => h.2)) (fun _ h => h.1)); have n2_ := Aside0.mk (Kd.R_mono (Kd.R_keep (IsS_l1Cur.apart (show IsS_l1Cur w0 _ g s0_0 t1598 t1599 from is_l1Cur_ HI0.out) (rk_ HO1593.out BK1600.out) (by decide)) hk (fun _ h => h.2)) (fun _ h => h.1)); have n3_ := Aside0.mk (Kd.R_mono (Kd.R_keep (IsS_l1Cur.apart (show IsS_l1Cur w0 _ g s0_0 t1598 t1599 from is_l1Cur_ HI0.out) (rk_ HO1596.out BK1600.out) (by decide)) hk (fun _ h => h.2)) (fun _ h => h.1)); have n4_ := Aside0.mk (KeepBut.blk hk (g' := gb1600) (o := .cells #[.int .i64 t1587, .slice Ao12 t1588.length co12, .slice Ao13 t1591.length co13, .slice Ao14 t1594.length co14] 26 (0, 0)) (bp_ BK1600.out) NB1600_0.out (by simp)); have n5_ := Aside0.mk (KeepBut.trans (hk_ HK.out) hk (.inl rfl)); have n6_ := Aside0.mk (hb); have n7_ := Aside0.mk (hi); clear BK1586; clear HO1590; clear HO1593; clear HO1596; clear BK1600; clear HK; clear HB; clear HI0; have BK1586 := n0_; have HO1590 := n1_; have HO1593 := n2_; have HO1596 := n3_; have BK1600 := n4_; have HK := n5_; have HB := n6_; have HI0 := n7_; clear n0_ n1_ n2_ n3_ n4_ n5_ n6_ n7_; (try clear hb); (try clear hb2); (try clear hk); (try clear hi)) | ((with_reducible refine gate_dst (N := 16) rfl ?_); refine Kd.R_lit (Kd.int .i64) _ 3 ?hg (N := 16) ?hd (xs := ([(-1), 100000, 100001] : List Int)) (inner := [.int .i64 (-1), .int .i64 100000, .int .i64 100001]) (ok := fun _ => True) (okp := fun _ => True) ?hr ?hp (fun _ hk => hk) trivial (Below.refl _ _) (Nat.le_refl _) (by simp) ?_; (case hd => rfl); (case hg => rfl); (case hr => first | (go_simp; done) | (go_simp; rfl)); (case hp => exact (Reps.one (show Kd.M (Kd.int .i64) _ _ _ (-1) [.int .i64 (-1)] from rfl) (Reps.one (show Kd.M (Kd.int .i64) _ _ _ 100000 [.int .i64 100000] from rfl) (Reps.one (show Kd.M (Kd.int .i64) _ _ _ 100001 [.int .i64 100001] from rfl) (Reps.none _ _))))); intro v1605 w16 ho17 hb hg_ hnew_; clear hg_ hnew_; (first | rw [← Ny1604.out] at ho17 | (simp only [Int.reduceToNat] at ho17; rw [← Ny1604.out] at ho17)); have n0_ := Aside0.mk (Kd.R_elder' (rq_ HO1590.out) (Kd.R_base ho17) hb); have n1_ := Aside0.mk (Kd.R_elder' (rq_ HO1593.out) (Kd.R_base ho17) hb); have n2_ := Aside0.mk (Kd.R_elder' (rq_ HO1596.out) (Kd.R_base ho17) hb); have n3_ := Aside0.mk (Kd.R_lower (Kd.R_new' (Kd.R_new' (Kd.R_new' ho17 (Kd.R_lt (rq_ HO1590.out))) (Kd.R_lt (rq_ HO1593.out))) (Kd.R_lt (rq_ HO1596.out))) (keep_size (w := w) (g := g) (row := none) (hk_ HK.out))); have n4_ := Aside0.mk (IsS_l1Cur.below (is_l1Cur_ HI0.out) hb); have n5_ := Aside0.mk (bb_ BK1586.out hb); have n6_ := Aside0.mk (bb_ BK1600.out hb); have n7_ := Aside0.mk (KeepBut.trans (hk_ HK.out) (KeepBut.of_below hb g none) (.inl rfl)); have n8_ := Aside0.mk (below_step (hi_ HB.out) hb); clear HO1590; clear HO1593; clear HO1596; clear HI0; clear BK1586; clear BK1600; clear HK; clear HB; have HO1590 := n0_; have HO1593 := n1_; have HO1596 := n2_; have HO1606 := n3_; have HI0 := n4_; have BK1586 := n5_; have BK1600 := n6_; have HK := n7_; have HB := n8_; clear n0_ n1_ n2_ n3_ n4_ n5_ n6_ n7_ n8_; clear hb ho17; obtain ⟨Ao18, co18, eo18⟩ := Kd.R_slice HO1606.out; subst eo18) | ((with_reducible refine gate_callee (f := 104) rfl ?_); refine goesL_ (some 17) rfl rfl Try.func104 (by kernel_rfl) rfl #[.pointer (some ⟨g, 0, none⟩), .slice Ao18 y1604.length co18] rfl sm_ ?_; (with_reducible refine (spec_l1PickInt.calls g s0_0 t1602 t1603 _ _ y1604 t1607 t1608 t1609 w0 _ ?side1 ?side2 ?side3 ?side4 ?side5 A5.out).mono ?_); (case side1 => repeat (first | (with_reducible first | exact HI0.out | apply IsS_l1Cur.alloc | apply IsS_l1Cur.drewN | apply IsS_l1Cur.drew | apply IsS_l1Cur.set_1 | apply IsS_l1Cur.set_2 | refine IsS_l1Cur.far ?_ NB0_1586.out _ | refine IsS_l1Cur.far ?_ NB0_1600.out _) | exact HI0.out)); (case side2 => repeat (first | (with_reducible first | exact HB.out | apply below_alloc | apply pw_below_drewN | apply below_drew1 | refine below_set ?_ (IsS_l1Cur.ge HI0.out) | refine below_set ?_ GE1586.out | refine below_set ?_ GE1600.out) | exact HB.out)); (case side3 => repeat (first | exact (Kd.R_reads' HO1606.out).2.2 | (with_reducible refine Kd.C_alloc ?_ _) | (with_reducible refine Kd.C_drewN ?_ _) | (with_reducible refine Kd.C_drew ?_))); (case side4 => exact (Kd.R_reads' HO1606.out).2.1); (case side5 => exact far_slice (IsS_l1Cur.own_ne HI0.out HO1606.out (by decide))); rintro e w19 ⟨rfl, hi, hb, hk⟩; refine ⟨_, rfl, ?_⟩; have n0_ := Aside0.mk (KeepBut.blk hk (g' := gb1586) (o := .cells #[.int .i64 0, .slice none 0 0, .slice none 0 0, .slice none 0 0] 26 (0, 0)) (bq_ BK1586.out) NB1586_0.out (by simp)); have n1_ := Aside0.mk (Kd.R_mono (Kd.R_keep (IsS_l1Cur.apart (show IsS_l1Cur w0 _ g s0_0 t1602 t1603 from is_l1Cur_ HI0.out) (rq_ HO1590.out) (by decide)) hk (fun _ h => h.2)) (fun _ h => h.1)); have n2_ := Aside0.mk (Kd.R_mono (Kd.R_keep (IsS_l1Cur.apart (show IsS_l1Cur w0 _ g s0_0 t1602 t1603 from is_l1Cur_ HI0.out) (rq_ HO1593.out) (by decide)) hk (fun _ h => h.2)) (fun _ h => h.1)); have n3_ := Aside0.mk (Kd.R_mono (Kd.R_keep (IsS_l1Cur.apart (show IsS_l1Cur w0 _ g s0_0 t1602 t1603 from is_l1Cur_ HI0.out) (rq_ HO1596.out) (by decide)) hk (fun _ h => h.2)) (fun _ h => h.1)); have n4_ := Aside0.mk (KeepBut.blk hk (g' := gb1600) (o := .cells #[.int .i64 t1587, .slice Ao12 t1588.length co12, .slice Ao13 t1591.length co13, .slice Ao14 t1594.length co14] 26 (0, 0)) (bq_ BK1600.out) NB1600_0.out (by simp)); have n5_ := Aside0.mk (Kd.R_mono (Kd.R_keep (IsS_l1Cur.apart (show IsS_l1Cur w0 _ g s0_0 t1602 t1603 from is_l1Cur_ HI0.out) (rq_ HO1606.out) (by decide)) hk (fun _ h => h.2)) (fun _ h => h.1)); have n6_ := Aside0.mk (KeepBut.trans (hk_ HK.out) hk (.inl rfl)); have n7_ := Aside0.mk (hb); have n8_ := Aside0.mk (hi); clear BK1586; clear HO1590; clear HO1593; clear HO1596; clear BK1600; clear HO1606; clear HK; clear HB; clear HI0; have BK1586 := n0_; have HO1590 := n1_; have HO1593 := n2_; have HO1596 := n3_; have BK1600 := n4_; have HO1606 := n5_; have HK := n6_; have HB := n7_; have HI0 := n8_; clear n0_ n1_ n2_ n3_ n4_ n5_ n6_ n7_ n8_; (try clear hb); (try clear hb2); (try clear hk); (try clear hi); have hcz20_0 : w19.cell? ⟨gb1600, 0, none⟩ = some (.int .i64 t1587) := (blk_cell BK1600.out 0).trans rfl; have hcz20_1 : w19.cell? ⟨gb1600, 1, none⟩ = some (.slice Ao12 t1588.length co12) := (blk_cell BK1600.out 1).trans rfl; have hcz20_2 : w19.cell? ⟨gb1600, 2, none⟩ = some (.slice Ao13 t1591.length co13) := (blk_cell BK1600.out 2).trans rfl; have hcz20_3 : w19.cell? ⟨gb1600, 3, none⟩ = some (.slice Ao14 t1594.length co14) := (blk_cell BK1600.out 3).trans rfl; have hfz20_0 := blk_frozen BK1600.out 0; have hfz20_1 := blk_frozen BK1600.out 1; have hfz20_2 := blk_frozen BK1600.out 2; have hfz20_3 := blk_frozen BK1600.out 3; have hnb21 := NB1586_0.out; have hnc21 := NB0_1586.out; have hcz22_0 : w19.cell? ⟨gb1586, 0, none⟩ = some (.int .i64 0) := (blk_cell BK1586.out 0).trans rfl; have hcz22_1 : w19.cell? ⟨gb1586, 1, none⟩ = some (.slice none 0 0) := (blk_cell BK1586.out 1).trans rfl; have hcz22_2 : w19.cell? ⟨gb1586, 2, none⟩ = some (.slice none 0 0) := (blk_cell BK1586.out 2).trans rfl; have hcz22_3 : w19.cell? ⟨gb1586, 3, none⟩ = some (.slice none 0 0) := (blk_cell BK1586.out 3).trans rfl; have hfz22_0 := blk_frozen BK1586.out 0; have hfz22_1 := blk_frozen BK1586.out 1; have hfz22_2 := blk_frozen BK1586.out 2; have hfz22_3 := blk_frozen BK1586.out 3))
  refine bodyPost_ret (results_ct rfl _ _ gb1586 26 #[.int .i64 t1607, .slice Ao12 t1588.length co12, .slice Ao13 t1591.length co13, .slice Ao14 t1594.length co14] (0, 0) _ rfl (by (with_reducible repeat (first | refine blk_drewN ?_ _ | refine blk_drew ?_ | refine blk_alloc ?_ _)); refine blk_put (cs := #[.int .i64 t1607, .slice Ao12 t1588.length co12, .slice Ao13 t1591.length co13, .slice none 0 0]) ?_ 3 _ rfl; (with_reducible repeat (first | refine blk_drewN ?_ _ | refine blk_drew ?_ | refine blk_alloc ?_ _)); refine blk_put (cs := #[.int .i64 t1607, .slice Ao12 t1588.length co12, .slice none 0 0, .slice none 0 0]) ?_ 2 _ rfl; (with_reducible repeat (first | refine blk_drewN ?_ _ | refine blk_drew ?_ | refine blk_alloc ?_ _)); refine blk_put (cs := #[.int .i64 t1607, .slice none 0 0, .slice none 0 0, .slice none 0 0]) ?_ 1 _ rfl; (with_reducible repeat (first | refine blk_drewN ?_ _ | refine blk_drew ?_ | refine blk_alloc ?_ _)); refine blk_put (cs := #[.int .i64 0, .slice none 0 0, .slice none 0 0, .slice none 0 0]) ?_ 0 _ rfl; (with_reducible repeat (first | refine blk_drewN ?_ _ | refine blk_drew ?_ | refine blk_alloc ?_ _)); refine blk_far ?_ NB1586_1600.out _; (with_reducible repeat (first | refine blk_drewN ?_ _ | refine blk_drew ?_ | refine blk_alloc ?_ _)); exact BK1586.out) Try.underlying26 rfl (by kernel_rfl)) rfl ?_
  exact ⟨_, _, _, er_, by (with_reducible repeat (first | apply Kd.R_alloc | apply Kd.R_drewN | apply Kd.R_drew)); exact Kd.R_mono (Kd.R_far (p := ⟨gb1586, 3, none⟩) (Kd.R_far (p := ⟨gb1586, 2, none⟩) (Kd.R_far (p := ⟨gb1586, 1, none⟩) (Kd.R_far (p := ⟨gb1586, 0, none⟩) (Kd.R_far (p := ⟨gb1600, 0, none⟩) (Kd.R_types (Kd.R_types HO1590.out BK1600.out (by decide)) BK1586.out (by decide)) (fun _ hk => hk.1.2) (.int .i64 t1607)) (fun _ hk => hk.2) (.int .i64 t1607)) (fun _ hk => hk.2) (.slice Ao12 t1588.length co12)) (fun _ hk => hk.2) (.slice Ao13 t1591.length co13)) (fun _ hk => hk.2) (.slice Ao14 t1594.length co14)) (fun _ hk => ⟨hk.1.1.1.1, hk.1.1.1.2⟩), by (with_reducible repeat (first | apply Kd.R_alloc | apply Kd.R_drewN | apply Kd.R_drew)); exact Kd.R_mono (Kd.R_far (p := ⟨gb1586, 3, none⟩) (Kd.R_far (p := ⟨gb1586, 2, none⟩) (Kd.R_far (p := ⟨gb1586, 1, none⟩) (Kd.R_far (p := ⟨gb1586, 0, none⟩) (Kd.R_far (p := ⟨gb1600, 0, none⟩) (Kd.R_types (Kd.R_types HO1593.out BK1600.out (by decide)) BK1586.out (by decide)) (fun _ hk => hk.1.2) (.int .i64 t1607)) (fun _ hk => hk.2) (.int .i64 t1607)) (fun _ hk => hk.2) (.slice Ao12 t1588.length co12)) (fun _ hk => hk.2) (.slice Ao13 t1591.length co13)) (fun _ hk => hk.2) (.slice Ao14 t1594.length co14)) (fun _ hk => ⟨hk.1.1.1.1, hk.1.1.1.2⟩), by (with_reducible repeat (first | apply Kd.R_alloc | apply Kd.R_drewN | apply Kd.R_drew)); exact Kd.R_mono (Kd.R_far (p := ⟨gb1586, 3, none⟩) (Kd.R_far (p := ⟨gb1586, 2, none⟩) (Kd.R_far (p := ⟨gb1586, 1, none⟩) (Kd.R_far (p := ⟨gb1586, 0, none⟩) (Kd.R_far (p := ⟨gb1600, 0, none⟩) (Kd.R_types (Kd.R_types HO1596.out BK1600.out (by decide)) BK1586.out (by decide)) (fun _ hk => hk.1.2) (.int .i64 t1607)) (fun _ hk => hk.2) (.int .i64 t1607)) (fun _ hk => hk.2) (.slice Ao12 t1588.length co12)) (fun _ hk => hk.2) (.slice Ao13 t1591.length co13)) (fun _ hk => hk.2) (.slice Ao14 t1594.length co14)) (fun _ hk => ⟨hk.1.1.1.1, hk.1.1.1.2⟩), is_l1Cur_ HI0.out, by repeat (first | (with_reducible first | exact HB.out | apply below_alloc | apply pw_below_drewN | apply below_drew1 | refine below_set ?_ (IsS_l1Cur.ge HI0.out) | refine below_set ?_ GE1586.out | refine below_set ?_ GE1600.out) | exact HB.out), by repeat (first | (with_reducible first | exact HK.out | apply KeepBut.set_ | apply keep_drewN | apply keep_drew | apply keep_alloc | refine keep_far ?_ GW1586.out _ | refine keep_far ?_ GW1600.out _) | exact HK.out)⟩
 ·
  rw [if_neg c4] at H
  have c4b0 : (t1601 == 0) = false := beq_eq_false_iff_ne.mpr c4
  have c4b1 : (t1601 != 0) = true := bne_iff_ne.mpr c4
  by_cases c23 : t1601 = 1
  ·
   rw [if_pos c23] at H
   have c23b0 : (t1601 == 1) = true := beq_iff_eq.mpr c23
   have c23b1 : (t1601 != 1) = false := bne_eq_false_iff_eq.mpr c23
   clear c23
   replace H := Option.bind_eq_some_iff.mp H
   obtain ⟨⟨t1610, t1611, t1612⟩, A240, H⟩ := H
   replace H : (if t1588.length < 17592186044416 then (some (t1587, (t1588 ++ [t1610]), t1591, t1594, t1597, t1611, t1612)) else (none)) = some (r1, r2, r3, r4, r5, r6, r7) := H
   have A24 := Aside0.mk A240
   clear A240
   by_cases c25 : t1588.length < 17592186044416
   ·
    rw [if_pos c25] at H
    have LMc25 := Aside0.mk c25
    clear c25
    obtain ⟨y1613, hy1613⟩ : ∃ y_ : List Int, y_ = (t1588 ++ [t1610]) := ⟨_, rfl⟩
    replace H : (some (t1587, y1613, t1591, t1594, t1597, t1611, t1612)) = some (r1, r2, r3, r4, r5, r6, r7) := by first | (rw [hy1613]; with_reducible exact H) | (have H2_ := (Option.bind_some _ _).symm.trans H; rw [hy1613]; with_reducible exact H2_) | (have H2_ := (Option.bind_some _ _).symm.trans H; with_reducible exact H2_) | with_reducible exact H | (rw [hy1613]; exact H) | exact H
    have Ny1613 := Aside0.mk hy1613
    clear hy1613
    simp only [Option.some.injEq, Prod.mk.injEq] at H
    obtain ⟨rfl, rfl, rfl, rfl, rfl, rfl, rfl⟩ := H
    go_enter Try.func77, Try.ntmps77
    try go_wp2_with (first | ((with_reducible refine gate_dst (N := 2) rfl ?_); refine box_event ?hg (N := 2) ?hd (cs := #[.int .i64 0, .slice none 0 0, .slice none 0 0, .slice none 0 0]) (t := 26) ?hr ?_; (case hd => rfl); (case hg => rfl); (case hr => first | (go_simp; done) | (go_simp; rfl)); intro gb1586 hg w26 hbox hb; have n0_ := Aside0.mk (IsS_l1Cur.below (is_l1Cur_ HI0.out) hb); have n1_ := Aside0.mk (KeepBut.trans (hk_ HK.out) (KeepBut.of_below hb g none) (.inl rfl)); have n2_ := Aside0.mk (below_step (hi_ HB.out) hb); have n3_ := Aside0.mk (hbox); have n4_ := Aside0.mk ((by rw [hg]; exact (keep_size (w := w) (g := g) (row := none) (hk_ HK.out)) : w.heap.size ≤ gb1586)); have n5_ := Aside0.mk ((Nat.le_trans HW0.out (by rw [hg]; exact (keep_size (w := w) (g := g) (row := none) (hk_ HK.out)) : w.heap.size ≤ gb1586) : w0.heap.size ≤ gb1586)); have n6_ := Aside0.mk ((by rw [hg]; exact Nat.ne_of_lt (IsS_l1Cur.lt (show IsS_l1Cur w0 _ g s0_0 s0_1 s0_2 from is_l1Cur_ HI0.out)) : g ≠ gb1586)); have n7_ := Aside0.mk ((by rw [hg]; exact Nat.ne_of_gt (IsS_l1Cur.lt (show IsS_l1Cur w0 _ g s0_0 s0_1 s0_2 from is_l1Cur_ HI0.out)) : gb1586 ≠ g)); clear HI0; clear HK; clear HB; have HI0 := n0_; have HK := n1_; have HB := n2_; have BK1586 := n3_; have GW1586 := n4_; have GE1586 := n5_; have NB0_1586 := n6_; have NB1586_0 := n7_; clear n0_ n1_ n2_ n3_ n4_ n5_ n6_ n7_; clear hb hbox hg) | ((with_reducible refine gate_callee (f := 145) rfl ?_); refine goesL_ (some 8) rfl rfl Try.func145 (by kernel_rfl) rfl #[.pointer (some ⟨g, 0, none⟩)] rfl sm_ ?_; (with_reducible refine (spec_l5DrawRight.calls k g s0_0 s0_1 s0_2 t1587 t1588 t1591 t1594 t1597 t1598 t1599 w0 _ ?side1 ?side2 A2.out).mono ?_); (case side1 => repeat (first | (with_reducible first | exact HI0.out | apply IsS_l1Cur.alloc | apply IsS_l1Cur.drewN | apply IsS_l1Cur.drew | apply IsS_l1Cur.set_1 | apply IsS_l1Cur.set_2 | refine IsS_l1Cur.far ?_ NB0_1586.out _) | exact HI0.out)); (case side2 => repeat (first | (with_reducible first | exact HB.out | apply below_alloc | apply pw_below_drewN | apply below_drew1 | refine below_set ?_ (IsS_l1Cur.ge HI0.out) | refine below_set ?_ GE1586.out) | exact HB.out)); rintro e w27 ⟨v1589, v1592, v1595, rfl, ho0, ho1, ho2, hi, hb, hk⟩; refine ⟨_, rfl, ?_⟩; have n0_ := Aside0.mk (KeepBut.blk hk (g' := gb1586) (o := .cells #[.int .i64 0, .slice none 0 0, .slice none 0 0, .slice none 0 0] 26 (0, 0)) (bq_ BK1586.out) NB1586_0.out (by simp)); have n1_ := Aside0.mk (Kd.R_lower ho0 (keep_size (w := w) (g := g) (row := none) (hk_ HK.out))); have n2_ := Aside0.mk (Kd.R_lower ho1 (keep_size (w := w) (g := g) (row := none) (hk_ HK.out))); have n3_ := Aside0.mk (Kd.R_lower ho2 (keep_size (w := w) (g := g) (row := none) (hk_ HK.out))); have n4_ := Aside0.mk (KeepBut.trans (hk_ HK.out) hk (.inl rfl)); have n5_ := Aside0.mk (hb); have n6_ := Aside0.mk (hi); clear BK1586; clear HK; clear HB; clear HI0; have BK1586 := n0_; have HO1590 := n1_; have HO1593 := n2_; have HO1596 := n3_; have HK := n4_; have HB := n5_; have HI0 := n6_; clear n0_ n1_ n2_ n3_ n4_ n5_ n6_; (try clear hb); (try clear hb2); (try clear hk); (try clear hi); (try clear ho0); (try clear ho1); (try clear ho2)) | ((with_reducible refine gate_dst (N := 4) rfl ?_); refine box_event ?hg (N := 4) ?hd (cs := #[.int .i64 0, .slice none 0 0, .slice none 0 0, .slice none 0 0]) (t := 26) ?hr ?_; (case hd => rfl); (case hg => rfl); (case hr => first | (go_simp; done) | (go_simp; rfl)); intro gb1600 hg w28 hbox hb; have n0_ := Aside0.mk (Kd.R_below (rq_ HO1590.out) hb); have n1_ := Aside0.mk (Kd.R_below (rq_ HO1593.out) hb); have n2_ := Aside0.mk (Kd.R_below (rq_ HO1596.out) hb); have n3_ := Aside0.mk (IsS_l1Cur.below (is_l1Cur_ HI0.out) hb); have n4_ := Aside0.mk (bb_ BK1586.out hb); have n5_ := Aside0.mk (KeepBut.trans (hk_ HK.out) (KeepBut.of_below hb g none) (.inl rfl)); have n6_ := Aside0.mk (below_step (hi_ HB.out) hb); have n7_ := Aside0.mk (hbox); have n8_ := Aside0.mk ((by rw [hg]; exact (keep_size (w := w) (g := g) (row := none) (hk_ HK.out)) : w.heap.size ≤ gb1600)); have n9_ := Aside0.mk ((Nat.le_trans HW0.out (by rw [hg]; exact (keep_size (w := w) (g := g) (row := none) (hk_ HK.out)) : w.heap.size ≤ gb1600) : w0.heap.size ≤ gb1600)); have n10_ := Aside0.mk ((nl_ BK1586.out hg : gb1586 ≠ gb1600)); have n11_ := Aside0.mk ((ng_ BK1586.out hg : gb1600 ≠ gb1586)); have n12_ := Aside0.mk ((by rw [hg]; exact Nat.ne_of_lt (IsS_l1Cur.lt (show IsS_l1Cur w0 _ g s0_0 t1598 t1599 from is_l1Cur_ HI0.out)) : g ≠ gb1600)); have n13_ := Aside0.mk ((by rw [hg]; exact Nat.ne_of_gt (IsS_l1Cur.lt (show IsS_l1Cur w0 _ g s0_0 t1598 t1599 from is_l1Cur_ HI0.out)) : gb1600 ≠ g)); clear HO1590; clear HO1593; clear HO1596; clear HI0; clear BK1586; clear HK; clear HB; have HO1590 := n0_; have HO1593 := n1_; have HO1596 := n2_; have HI0 := n3_; have BK1586 := n4_; have HK := n5_; have HB := n6_; have BK1600 := n7_; have GW1600 := n8_; have GE1600 := n9_; have NB1586_1600 := n10_; have NB1600_1586 := n11_; have NB0_1600 := n12_; have NB1600_0 := n13_; clear n0_ n1_ n2_ n3_ n4_ n5_ n6_ n7_ n8_ n9_ n10_ n11_ n12_ n13_; clear hb hbox hg; have hnb29 := NB1600_1586.out; have hnc29 := NB1586_1600.out; have hnb30 := NB1600_0.out; have hnc30 := NB0_1600.out; have hcz31_0 : w28.cell? ⟨gb1600, 0, none⟩ = some (.int .i64 0) := (blk_cell BK1600.out 0).trans rfl; have hcz31_1 : w28.cell? ⟨gb1600, 1, none⟩ = some (.slice none 0 0) := (blk_cell BK1600.out 1).trans rfl; have hcz31_2 : w28.cell? ⟨gb1600, 2, none⟩ = some (.slice none 0 0) := (blk_cell BK1600.out 2).trans rfl; have hcz31_3 : w28.cell? ⟨gb1600, 3, none⟩ = some (.slice none 0 0) := (blk_cell BK1600.out 3).trans rfl; have hfz31_0 := blk_frozen BK1600.out 0; have hfz31_1 := blk_frozen BK1600.out 1; have hfz31_2 := blk_frozen BK1600.out 2; have hfz31_3 := blk_frozen BK1600.out 3; obtain ⟨Ao32, co32, eo32⟩ := Kd.R_slice HO1590.out; subst eo32; obtain ⟨Ao33, co33, eo33⟩ := Kd.R_slice HO1593.out; subst eo33; obtain ⟨Ao34, co34, eo34⟩ := Kd.R_slice HO1596.out; subst eo34) | ((with_reducible refine gate_callee (f := 78) rfl ?_); refine goesL_ (some 12) rfl rfl Try.func78 (by kernel_rfl) rfl #[.pointer (some ⟨g, 0, none⟩), .int .i64 12] rfl sm_ ?_; (with_reducible refine (spec_l1Below.calls g s0_0 t1598 t1599 12 t1601 t1602 t1603 w0 _ ?side1 ?side2 A3.out).mono ?_); (case side1 => repeat (first | (with_reducible first | exact HI0.out | apply IsS_l1Cur.alloc | apply IsS_l1Cur.drewN | apply IsS_l1Cur.drew | apply IsS_l1Cur.set_1 | apply IsS_l1Cur.set_2 | refine IsS_l1Cur.far ?_ NB0_1586.out _ | refine IsS_l1Cur.far ?_ NB0_1600.out _) | exact HI0.out)); (case side2 => repeat (first | (with_reducible first | exact HB.out | apply below_alloc | apply pw_below_drewN | apply below_drew1 | refine below_set ?_ (IsS_l1Cur.ge HI0.out) | refine below_set ?_ GE1586.out | refine below_set ?_ GE1600.out) | exact HB.out)); rintro e w35 ⟨rfl, hi, hb, hk⟩; refine ⟨_, rfl, ?_⟩; have n0_ := Aside0.mk (KeepBut.blk hk (g' := gb1586) (o := .cells #[.int .i64 0, .slice none 0 0, .slice none 0 0, .slice none 0 0] 26 (0, 0)) (bf_ NB1586_1600.out BK1586.out) NB1586_0.out (by simp)); have n1_ := Aside0.mk (Kd.R_mono (Kd.R_keep (IsS_l1Cur.apart (show IsS_l1Cur w0 _ g s0_0 t1598 t1599 from is_l1Cur_ HI0.out) (rk_ HO1590.out BK1600.out) (by decide)) hk (fun _ h => h.2)) (fun _ h => h.1)); have n2_ := Aside0.mk (Kd.R_mono (Kd.R_keep (IsS_l1Cur.apart (show IsS_l1Cur w0 _ g s0_0 t1598 t1599 from is_l1Cur_ HI0.out) (rk_ HO1593.out BK1600.out) (by decide)) hk (fun _ h => h.2)) (fun _ h => h.1)); have n3_ := Aside0.mk (Kd.R_mono (Kd.R_keep (IsS_l1Cur.apart (show IsS_l1Cur w0 _ g s0_0 t1598 t1599 from is_l1Cur_ HI0.out) (rk_ HO1596.out BK1600.out) (by decide)) hk (fun _ h => h.2)) (fun _ h => h.1)); have n4_ := Aside0.mk (KeepBut.blk hk (g' := gb1600) (o := .cells #[.int .i64 t1587, .slice Ao32 t1588.length co32, .slice Ao33 t1591.length co33, .slice Ao34 t1594.length co34] 26 (0, 0)) (bp_ BK1600.out) NB1600_0.out (by simp)); have n5_ := Aside0.mk (KeepBut.trans (hk_ HK.out) hk (.inl rfl)); have n6_ := Aside0.mk (hb); have n7_ := Aside0.mk (hi); clear BK1586; clear HO1590; clear HO1593; clear HO1596; clear BK1600; clear HK; clear HB; clear HI0; have BK1586 := n0_; have HO1590 := n1_; have HO1593 := n2_; have HO1596 := n3_; have BK1600 := n4_; have HK := n5_; have HB := n6_; have HI0 := n7_; clear n0_ n1_ n2_ n3_ n4_ n5_ n6_ n7_; (try clear hb); (try clear hb2); (try clear hk); (try clear hi)))
    have n0_ := Aside0.mk (Kd.R_drew HO1590.out)
    have n1_ := Aside0.mk (Kd.R_drew HO1593.out)
    have n2_ := Aside0.mk (Kd.R_drew HO1596.out)
    have n3_ := Aside0.mk (blk_drew BK1586.out)
    have n4_ := Aside0.mk (blk_drew BK1600.out)
    have n5_ := Aside0.mk (IsS_l1Cur.drew HI0.out)
    have n6_ := Aside0.mk (keep_drew HK.out)
    have n7_ := Aside0.mk (below_drew1 HB.out)
    clear HO1590; clear HO1593
    clear HO1596; clear BK1586
    clear BK1600; clear HI0
    clear HK; clear HB
    have HO1590 := n0_
    have HO1593 := n1_
    have HO1596 := n2_
    have BK1586 := n3_
    have BK1600 := n4_
    have HI0 := n5_
    have HK := n6_
    have HB := n7_
    clear n0_ n1_ n2_ n3_ n4_ n5_ n6_ n7_
    refine start_ (n := 8) (S := fun w' => w'.cell? ⟨gb1600, 0, none⟩ = some (.int .i64 t1587) ∧ w'.cell? ⟨gb1600, 1, none⟩ = some (.slice Ao32 t1588.length co32) ∧ w'.cell? ⟨gb1600, 2, none⟩ = some (.slice Ao33 t1591.length co33) ∧ w'.cell? ⟨gb1600, 3, none⟩ = some (.slice Ao34 t1594.length co34)) (ds := [7]) #[false, false, false, false, false, false, false, false] (by kernel_rfl) rfl rfl ⟨(blk_cell BK1600.out 0).trans rfl, (blk_cell BK1600.out 1).trans rfl, (blk_cell BK1600.out 2).trans rfl, (blk_cell BK1600.out 3).trans rfl⟩ (fun hHeld => ?_); refine with_tabW spec_l5Draw.tab6 spec_l5Draw.bits6 (fun HT_ HW_ => ?_)
    generalize w35.drew = w36 at HO1590 HO1593 HO1596 BK1586 BK1600 HI0 HK HB hHeld ⊢
    refine pI_ 0 21 HT_ #[true, false, false, false, false, false, false, false] rfl rfl ?_
    refine pI_ 2 23 HT_ #[true, false, true, false, false, false, false, false] rfl rfl ?_
    refine take_ (i := 1) (N := some 22) (v := ?_) (a' := ?_) #[true, true, true, false, false, false, false, false] rfl rfl (take_ofW HT_.out HW_.out (by kernel_rfl)) (fun _ _ _ h => h) (Or.inl ⟨by rfl, ?_⟩) hHeld ?_ ?_
    rotate_left
    ·
     rintro w' ⟨s0, s1, s2, s3⟩
     go_simp
     with_reducible rfl
    rotate_left; (focus simp only [Act.put, List.setIfInBounds_toArray, List.set_cons_zero, List.set_cons_succ, i64_w, i32_w]; rfl)
    refine one_ (i := 3) (N := some 24) #[true, true, true, true, false, false, false, false] rfl rfl (one_of HT_.out (by kernel_rfl)) (by decide) (fun K hK => ?_)
    refine goes_ Try.func78 (by kernel_rfl) rfl #[.pointer (some ⟨g, 0, none⟩), .int .i64 5] (by rfl) rfl rfl sm_ ?_
    with_reducible refine (spec_l1Below.calls g s0_0 t1602 t1603 5 t1610 t1611 t1612 w0 _ ?side1 ?side2 A24.out).mono ?_
    (case side1 => repeat (first | (with_reducible first | exact HI0.out | apply IsS_l1Cur.alloc | apply IsS_l1Cur.drewN | apply IsS_l1Cur.drew | apply IsS_l1Cur.set_1 | apply IsS_l1Cur.set_2 | refine IsS_l1Cur.far ?_ NB0_1586.out _ | refine IsS_l1Cur.far ?_ NB0_1600.out _) | exact HI0.out))
    (case side2 => repeat (first | (with_reducible first | exact HB.out | apply below_alloc | apply pw_below_drewN | apply below_drew1 | refine below_set ?_ (IsS_l1Cur.ge HI0.out) | refine below_set ?_ GE1586.out | refine below_set ?_ GE1600.out) | exact HB.out))
    rintro e w37 ⟨rfl, hi, hb, hk⟩
    refine ⟨_, rfl, ?_⟩
    have n0_ := Aside0.mk (KeepBut.blk hk (g' := gb1586) (o := .cells #[.int .i64 0, .slice none 0 0, .slice none 0 0, .slice none 0 0] 26 (0, 0)) (bq_ BK1586.out) NB1586_0.out (by simp))
    have n1_ := Aside0.mk (Kd.R_mono (Kd.R_keep (IsS_l1Cur.apart (show IsS_l1Cur w0 _ g s0_0 t1602 t1603 from is_l1Cur_ HI0.out) (rq_ HO1590.out) (by decide)) hk (fun _ h => h.2)) (fun _ h => h.1))
    have n2_ := Aside0.mk (Kd.R_mono (Kd.R_keep (IsS_l1Cur.apart (show IsS_l1Cur w0 _ g s0_0 t1602 t1603 from is_l1Cur_ HI0.out) (rq_ HO1593.out) (by decide)) hk (fun _ h => h.2)) (fun _ h => h.1))
    have n3_ := Aside0.mk (Kd.R_mono (Kd.R_keep (IsS_l1Cur.apart (show IsS_l1Cur w0 _ g s0_0 t1602 t1603 from is_l1Cur_ HI0.out) (rq_ HO1596.out) (by decide)) hk (fun _ h => h.2)) (fun _ h => h.1))
    have n4_ := Aside0.mk (KeepBut.blk hk (g' := gb1600) (o := .cells #[.int .i64 t1587, .slice Ao32 t1588.length co32, .slice Ao33 t1591.length co33, .slice Ao34 t1594.length co34] 26 (0, 0)) (bq_ BK1600.out) NB1600_0.out (by simp))
    have n5_ := Aside0.mk (KeepBut.trans (hk_ HK.out) hk (.inl rfl))
    have n6_ := Aside0.mk (hb)
    have n7_ := Aside0.mk (hi)
    clear BK1586; clear HO1590
    clear HO1593; clear HO1596
    clear BK1600; clear HK
    clear HB; clear HI0
    have BK1586 := n0_
    have HO1590 := n1_
    have HO1593 := n2_
    have HO1596 := n3_
    have BK1600 := n4_
    have HK := n5_
    have HB := n6_
    have HI0 := n7_
    clear n0_ n1_ n2_ n3_ n4_ n5_ n6_ n7_
    (try clear hb)
    (try clear hb2)
    (try clear hk)
    (try clear hi)
    refine hK.out _ _ ⟨(blk_cell BK1600.out 0).trans rfl, (blk_cell BK1600.out 1).trans rfl, (blk_cell BK1600.out 2).trans rfl, (blk_cell BK1600.out 3).trans rfl⟩ (fun hHeld => ?_)
    clear hK K
    refine norm_ (a' := ?_) ?_ ?_
    rotate_left
    ·
     show Act.put _ (some 24) _ = _
     simp only [Act.put, List.setIfInBounds_toArray, List.set_cons_zero, List.set_cons_succ, i64_w, i32_w]
     rfl
    refine one_ (i := 4) (N := some 25) #[true, true, true, true, true, false, false, false] rfl rfl (one_of HT_.out (by kernel_rfl)) (by decide) (fun K hK => ?_)
    refine value_ (w1 := ?_) (v := ?_) (by rfl) rfl ?_ ?_
    rotate_left 2
    ·
     go_simp
     constructor
     ·
      rfl
     ·
      rfl
    refine hK.out _ _ ⟨(blk_cell (blk_alloc BK1600.out _) 0).trans rfl, (blk_cell (blk_alloc BK1600.out _) 1).trans rfl, (blk_cell (blk_alloc BK1600.out _) 2).trans rfl, (blk_cell (blk_alloc BK1600.out _) 3).trans rfl⟩ (fun hHeld => ?_)
    clear hK K
    refine norm_ (a' := ?_) ?_ ?_
    rotate_left
    ·
     show Act.put _ (some 25) _ = _
     simp only [Act.put, List.setIfInBounds_toArray, List.set_cons_zero, List.set_cons_succ, i64_w, i32_w]
     rfl
    refine one_ (i := 5) (N := some 26) #[true, true, true, true, true, true, false, false] rfl rfl (one_of HT_.out (by kernel_rfl)) (by decide) (fun K hK => ?_)
    refine Kd.R_append_step (Kd.int .i64) w.heap.size (by rfl) (.tmp 22) (.tmp 25) 24 3 (.int .i64 0) 8 rfl Try.underlying24 info3 rfl (by decide) (by omega) (.slice Ao32 t1588.length co32) t1588 t1610 [.int .i64 t1610] (fun k_ => some k_ ≠ (.slice Ao33 t1591.length co33 : Value).ownBlock ∧ some k_ ≠ (.slice Ao34 t1594.length co34 : Value).ownBlock) (fun _ => False) rfl rfl ?aP (fun _ hk => hk.elim) ?aF ?aO (Below.refl _ _) ?aS ?aL ?_
    (case aP => exact rfl)
    (case aF => exact (fun k_ hk => ⟨Kd.fresh' (Kd.R_lt (rq_ HO1593.out)) k_ hk, Kd.fresh' (Kd.R_lt (rq_ HO1596.out)) k_ hk⟩))
    (case aO => exact (rq_ HO1590.out))
    (case aS => exact (keep_size (w := w) (g := g) (row := none) (hk_ HK.out)))
    (case aL => have := LMc25.out; omega)
    intro v1614 w38 ho hb hg hat
    rw [← Ny1613.out] at ho
    have n0_ := Aside0.mk (IsS_l1Cur.grown (is_l1Cur_ HI0.out) hg (IsS_l1Cur.own_ne HI0.out HO1590.out (by decide)))
    have n1_ := Aside0.mk (blk_grown (g := gb1586) (o := .cells #[.int .i64 0, .slice none 0 0, .slice none 0 0, .slice none 0 0] 26 (0, 0)) (bq_ BK1586.out) hg (Kd.R_ne HO1590.out BK1586.out (by decide)))
    have n2_ := Aside0.mk (Kd.R_after (ok := (fun k_ => some k_ ≠ (.slice Ao34 t1594.length co34 : Value).ownBlock)) (rm_ HO1593.out) hg hat)
    have n3_ := Aside0.mk (Kd.R_after (ok := (fun k_ => some k_ ≠ (.slice Ao33 t1591.length co33 : Value).ownBlock)) (rm_ HO1596.out) hg hat)
    have n4_ := Aside0.mk (blk_grown (g := gb1600) (o := .cells #[.int .i64 t1587, .slice Ao32 t1588.length co32, .slice Ao33 t1591.length co33, .slice Ao34 t1594.length co34] 26 (0, 0)) (bq_ BK1600.out) hg (Kd.R_ne HO1590.out BK1600.out (by decide)))
    have n5_ := Aside0.mk (below_weaken (hi_ HB.out) HL.out hb)
    have n6_ := Aside0.mk (KeepBut.trans (hk_ HK.out) (KeepBut.of_grown hg g) (Kd.R_base2 HO1590.out))
    have n7_ := Aside0.mk (ho)
    clear HI0; clear BK1586
    clear HO1593; clear HO1596
    clear BK1600; clear HB
    clear HK; clear HO1590
    have HI0 := n0_
    have BK1586 := n1_
    have HO1593 := n2_
    have HO1596 := n3_
    have BK1600 := n4_
    have HB := n5_
    have HK := n6_
    have HO1615 := n7_
    clear n0_ n1_ n2_ n3_ n4_ n5_ n6_ n7_; clear ho hb hg hat
    obtain ⟨Ao39, co39, eo39⟩ := Kd.R_slice HO1615.out
    (first | subst eo39 | (injection eo39 with f1_ f2_ f3_; have f4_ := f1_.symm; have f5_ := f3_.symm; clear f1_ f2_ f3_; subst f4_; subst f5_))
    refine hK.out _ _ ⟨(blk_cell BK1600.out 0).trans rfl, (blk_cell BK1600.out 1).trans rfl, (blk_cell BK1600.out 2).trans rfl, (blk_cell BK1600.out 3).trans rfl⟩ (fun hHeld => ?_)
    clear hK K
    refine norm_ (a' := ?_) ?_ ?_
    rotate_left
    ·
     show Act.put _ (some 26) _ = _
     simp only [Act.put, List.setIfInBounds_toArray, List.set_cons_zero, List.set_cons_succ, i64_w, i32_w]
     rfl
    refine pI_ 6 27 HT_ #[true, true, true, true, true, true, true, false] rfl rfl ?_
    refine last_ (i := 7) (N := none) #[true, true, true, true, true, true, true, true] rfl rfl (one_of HT_.out (by kernel_rfl)) (by decide) (fun K hK => ?_)
    have hs40 : w38.cell? ⟨gb1600, 1, none⟩ = some (.slice Ao32 t1588.length co32) := (blk_cell BK1600.out 1).trans rfl
    have hfs40 := blk_frozen BK1600.out 1
    have hns40_0 := NB1586_1600.out
    have hms40_0 := NB1600_1586.out
    refine skip_ (w1 := ?_) (by rfl) rfl ?_ ?_
    rotate_left; (focus go_simp; rfl)
    refine hK.out _ _ ?_
    clear hK K
    refine done_ (done_of HT_.out (by kernel_rfl)) ?_
    have hcz41_0 : w38.cell? ⟨gb1600, 0, none⟩ = some (.int .i64 t1587) := (blk_cell BK1600.out 0).trans rfl
    have hcz41_1 : w38.cell? ⟨gb1600, 1, none⟩ = some (.slice Ao32 t1588.length co32) := (blk_cell BK1600.out 1).trans rfl
    have hcz41_2 : w38.cell? ⟨gb1600, 2, none⟩ = some (.slice Ao33 t1591.length co33) := (blk_cell BK1600.out 2).trans rfl
    have hcz41_3 : w38.cell? ⟨gb1600, 3, none⟩ = some (.slice Ao34 t1594.length co34) := (blk_cell BK1600.out 3).trans rfl
    have hfz41_0 := blk_frozen BK1600.out 0
    have hfz41_1 := blk_frozen BK1600.out 1
    have hfz41_2 := blk_frozen BK1600.out 2
    have hfz41_3 := blk_frozen BK1600.out 3
    have hnb42 := NB1586_0.out
    have hnc42 := NB0_1586.out
    have hcz43_0 : w38.cell? ⟨gb1586, 0, none⟩ = some (.int .i64 0) := (blk_cell BK1586.out 0).trans rfl
    have hcz43_1 : w38.cell? ⟨gb1586, 1, none⟩ = some (.slice none 0 0) := (blk_cell BK1586.out 1).trans rfl
    have hcz43_2 : w38.cell? ⟨gb1586, 2, none⟩ = some (.slice none 0 0) := (blk_cell BK1586.out 2).trans rfl
    have hcz43_3 : w38.cell? ⟨gb1586, 3, none⟩ = some (.slice none 0 0) := (blk_cell BK1586.out 3).trans rfl
    have hfz43_0 := blk_frozen BK1586.out 0
    have hfz43_1 := blk_frozen BK1586.out 1
    have hfz43_2 := blk_frozen BK1586.out 2
    have hfz43_3 := blk_frozen BK1586.out 3
    try go_wp2
    refine bodyPost_ret (results_ct rfl _ _ gb1586 26 #[.int .i64 t1587, .slice Ao39 y1613.length co39, .slice Ao33 t1591.length co33, .slice Ao34 t1594.length co34] (0, 0) _ rfl (by (with_reducible repeat (first | refine blk_drewN ?_ _ | refine blk_drew ?_ | refine blk_alloc ?_ _)); refine blk_put (cs := #[.int .i64 t1587, .slice Ao39 y1613.length co39, .slice Ao33 t1591.length co33, .slice none 0 0]) ?_ 3 _ rfl; (with_reducible repeat (first | refine blk_drewN ?_ _ | refine blk_drew ?_ | refine blk_alloc ?_ _)); refine blk_put (cs := #[.int .i64 t1587, .slice Ao39 y1613.length co39, .slice none 0 0, .slice none 0 0]) ?_ 2 _ rfl; (with_reducible repeat (first | refine blk_drewN ?_ _ | refine blk_drew ?_ | refine blk_alloc ?_ _)); refine blk_put (cs := #[.int .i64 t1587, .slice none 0 0, .slice none 0 0, .slice none 0 0]) ?_ 1 _ rfl; (with_reducible repeat (first | refine blk_drewN ?_ _ | refine blk_drew ?_ | refine blk_alloc ?_ _)); refine blk_put (cs := #[.int .i64 0, .slice none 0 0, .slice none 0 0, .slice none 0 0]) ?_ 0 _ rfl; (with_reducible repeat (first | refine blk_drewN ?_ _ | refine blk_drew ?_ | refine blk_alloc ?_ _)); refine blk_far ?_ NB1586_1600.out _; (with_reducible repeat (first | refine blk_drewN ?_ _ | refine blk_drew ?_ | refine blk_alloc ?_ _)); exact BK1586.out) Try.underlying26 rfl (by kernel_rfl)) rfl ?_
    exact ⟨_, _, _, er_, by (with_reducible repeat (first | apply Kd.R_alloc | apply Kd.R_drewN | apply Kd.R_drew)); exact Kd.R_mono (Kd.R_far (p := ⟨gb1586, 3, none⟩) (Kd.R_far (p := ⟨gb1586, 2, none⟩) (Kd.R_far (p := ⟨gb1586, 1, none⟩) (Kd.R_far (p := ⟨gb1586, 0, none⟩) (Kd.R_far (p := ⟨gb1600, 1, none⟩) (Kd.R_types (Kd.R_types HO1615.out BK1600.out (by decide)) BK1586.out (by decide)) (fun _ hk => hk.1.2) (.slice Ao39 y1613.length co39)) (fun _ hk => hk.2) (.int .i64 t1587)) (fun _ hk => hk.2) (.slice Ao39 y1613.length co39)) (fun _ hk => hk.2) (.slice Ao33 t1591.length co33)) (fun _ hk => hk.2) (.slice Ao34 t1594.length co34)) (fun _ hk => ⟨hk.1.1.1, hk.1.1.2⟩), by (with_reducible repeat (first | apply Kd.R_alloc | apply Kd.R_drewN | apply Kd.R_drew)); exact Kd.R_mono (Kd.R_far (p := ⟨gb1586, 3, none⟩) (Kd.R_far (p := ⟨gb1586, 2, none⟩) (Kd.R_far (p := ⟨gb1586, 1, none⟩) (Kd.R_far (p := ⟨gb1586, 0, none⟩) (Kd.R_far (p := ⟨gb1600, 1, none⟩) (Kd.R_types (Kd.R_types HO1593.out BK1600.out (by decide)) BK1586.out (by decide)) (fun _ hk => hk.1.2) (.slice Ao39 y1613.length co39)) (fun _ hk => hk.2) (.int .i64 t1587)) (fun _ hk => hk.2) (.slice Ao39 y1613.length co39)) (fun _ hk => hk.2) (.slice Ao33 t1591.length co33)) (fun _ hk => hk.2) (.slice Ao34 t1594.length co34)) (fun _ hk => ⟨hk.1.1.2, hk.1.1.1⟩), by (with_reducible repeat (first | apply Kd.R_alloc | apply Kd.R_drewN | apply Kd.R_drew)); exact Kd.R_mono (Kd.R_far (p := ⟨gb1586, 3, none⟩) (Kd.R_far (p := ⟨gb1586, 2, none⟩) (Kd.R_far (p := ⟨gb1586, 1, none⟩) (Kd.R_far (p := ⟨gb1586, 0, none⟩) (Kd.R_far (p := ⟨gb1600, 1, none⟩) (Kd.R_types (Kd.R_types HO1596.out BK1600.out (by decide)) BK1586.out (by decide)) (fun _ hk => hk.1.2) (.slice Ao39 y1613.length co39)) (fun _ hk => hk.2) (.int .i64 t1587)) (fun _ hk => hk.2) (.slice Ao39 y1613.length co39)) (fun _ hk => hk.2) (.slice Ao33 t1591.length co33)) (fun _ hk => hk.2) (.slice Ao34 t1594.length co34)) (fun _ hk => ⟨hk.1.1.2, hk.1.1.1⟩), is_l1Cur_ HI0.out, by repeat (first | (with_reducible first | exact HB.out | apply below_alloc | apply pw_below_drewN | apply below_drew1 | refine below_set ?_ (IsS_l1Cur.ge HI0.out) | refine below_set ?_ GE1586.out | refine below_set ?_ GE1600.out) | exact HB.out), by repeat (first | (with_reducible first | exact HK.out | apply KeepBut.set_ | apply keep_drewN | apply keep_drew | apply keep_alloc | refine keep_far ?_ GW1586.out _ | refine keep_far ?_ GW1600.out _) | exact HK.out)⟩
   ·
    rw [if_neg c25] at H
    exact absurd H (by simp)
  ·
   rw [if_neg c23] at H
   have c23b0 : (t1601 == 1) = false := beq_eq_false_iff_ne.mpr c23
   have c23b1 : (t1601 != 1) = true := bne_iff_ne.mpr c23
   by_cases c44 : t1601 = 2
   ·
    rw [if_pos c44] at H
    have c44b0 : (t1601 == 2) = true := beq_iff_eq.mpr c44
    have c44b1 : (t1601 != 2) = false := bne_eq_false_iff_eq.mpr c44
    clear c44
    obtain ⟨y1616, hy1616⟩ : ∃ y_ : List Int, y_ = (([0, (-1), (-9223372036854775808)] : List Int)) := ⟨_, rfl⟩
    replace H : ((spec_l1PickInt.f s0_0 t1602 t1603 y1616).bind fun bt1619 => (if t1591.length < 17592186044416 then (some (t1587, t1588, (t1591 ++ [bt1619.1]), t1594, t1597, bt1619.2.1, bt1619.2.2)) else (none))) = some (r1, r2, r3, r4, r5, r6, r7) := by first | (rw [hy1616]; with_reducible exact H) | (have H2_ := (Option.bind_some _ _).symm.trans H; rw [hy1616]; with_reducible exact H2_) | (have H2_ := (Option.bind_some _ _).symm.trans H; with_reducible exact H2_) | with_reducible exact H | (rw [hy1616]; exact H) | exact H
    have Ny1616 := Aside0.mk hy1616
    clear hy1616
    replace H := Option.bind_eq_some_iff.mp H
    obtain ⟨⟨t1619, t1620, t1621⟩, A450, H⟩ := H
    replace H : (if t1591.length < 17592186044416 then (some (t1587, t1588, (t1591 ++ [t1619]), t1594, t1597, t1620, t1621)) else (none)) = some (r1, r2, r3, r4, r5, r6, r7) := H
    have A45 := Aside0.mk A450
    clear A450
    by_cases c46 : t1591.length < 17592186044416
    ·
     rw [if_pos c46] at H
     have LMc46 := Aside0.mk c46
     clear c46
     obtain ⟨y1622, hy1622⟩ : ∃ y_ : List Int, y_ = (t1591 ++ [t1619]) := ⟨_, rfl⟩
     replace H : (some (t1587, t1588, y1622, t1594, t1597, t1620, t1621)) = some (r1, r2, r3, r4, r5, r6, r7) := by first | (rw [hy1622]; with_reducible exact H) | (have H2_ := (Option.bind_some _ _).symm.trans H; rw [hy1622]; with_reducible exact H2_) | (have H2_ := (Option.bind_some _ _).symm.trans H; with_reducible exact H2_) | with_reducible exact H | (rw [hy1622]; exact H) | exact H
     have Ny1622 := Aside0.mk hy1622
     clear hy1622
     simp only [Option.some.injEq, Prod.mk.injEq] at H
     obtain ⟨rfl, rfl, rfl, rfl, rfl, rfl, rfl⟩ := H
     go_enter Try.func77, Try.ntmps77
     try go_wp2_with (first | ((with_reducible refine gate_dst (N := 2) rfl ?_); refine box_event ?hg (N := 2) ?hd (cs := #[.int .i64 0, .slice none 0 0, .slice none 0 0, .slice none 0 0]) (t := 26) ?hr ?_; (case hd => rfl); (case hg => rfl); (case hr => first | (go_simp; done) | (go_simp; rfl)); intro gb1586 hg w47 hbox hb; have n0_ := Aside0.mk (IsS_l1Cur.below (is_l1Cur_ HI0.out) hb); have n1_ := Aside0.mk (KeepBut.trans (hk_ HK.out) (KeepBut.of_below hb g none) (.inl rfl)); have n2_ := Aside0.mk (below_step (hi_ HB.out) hb); have n3_ := Aside0.mk (hbox); have n4_ := Aside0.mk ((by rw [hg]; exact (keep_size (w := w) (g := g) (row := none) (hk_ HK.out)) : w.heap.size ≤ gb1586)); have n5_ := Aside0.mk ((Nat.le_trans HW0.out (by rw [hg]; exact (keep_size (w := w) (g := g) (row := none) (hk_ HK.out)) : w.heap.size ≤ gb1586) : w0.heap.size ≤ gb1586)); have n6_ := Aside0.mk ((by rw [hg]; exact Nat.ne_of_lt (IsS_l1Cur.lt (show IsS_l1Cur w0 _ g s0_0 s0_1 s0_2 from is_l1Cur_ HI0.out)) : g ≠ gb1586)); have n7_ := Aside0.mk ((by rw [hg]; exact Nat.ne_of_gt (IsS_l1Cur.lt (show IsS_l1Cur w0 _ g s0_0 s0_1 s0_2 from is_l1Cur_ HI0.out)) : gb1586 ≠ g)); clear HI0; clear HK; clear HB; have HI0 := n0_; have HK := n1_; have HB := n2_; have BK1586 := n3_; have GW1586 := n4_; have GE1586 := n5_; have NB0_1586 := n6_; have NB1586_0 := n7_; clear n0_ n1_ n2_ n3_ n4_ n5_ n6_ n7_; clear hb hbox hg) | ((with_reducible refine gate_callee (f := 145) rfl ?_); refine goesL_ (some 8) rfl rfl Try.func145 (by kernel_rfl) rfl #[.pointer (some ⟨g, 0, none⟩)] rfl sm_ ?_; (with_reducible refine (spec_l5DrawRight.calls k g s0_0 s0_1 s0_2 t1587 t1588 t1591 t1594 t1597 t1598 t1599 w0 _ ?side1 ?side2 A2.out).mono ?_); (case side1 => repeat (first | (with_reducible first | exact HI0.out | apply IsS_l1Cur.alloc | apply IsS_l1Cur.drewN | apply IsS_l1Cur.drew | apply IsS_l1Cur.set_1 | apply IsS_l1Cur.set_2 | refine IsS_l1Cur.far ?_ NB0_1586.out _) | exact HI0.out)); (case side2 => repeat (first | (with_reducible first | exact HB.out | apply below_alloc | apply pw_below_drewN | apply below_drew1 | refine below_set ?_ (IsS_l1Cur.ge HI0.out) | refine below_set ?_ GE1586.out) | exact HB.out)); rintro e w48 ⟨v1589, v1592, v1595, rfl, ho0, ho1, ho2, hi, hb, hk⟩; refine ⟨_, rfl, ?_⟩; have n0_ := Aside0.mk (KeepBut.blk hk (g' := gb1586) (o := .cells #[.int .i64 0, .slice none 0 0, .slice none 0 0, .slice none 0 0] 26 (0, 0)) (bq_ BK1586.out) NB1586_0.out (by simp)); have n1_ := Aside0.mk (Kd.R_lower ho0 (keep_size (w := w) (g := g) (row := none) (hk_ HK.out))); have n2_ := Aside0.mk (Kd.R_lower ho1 (keep_size (w := w) (g := g) (row := none) (hk_ HK.out))); have n3_ := Aside0.mk (Kd.R_lower ho2 (keep_size (w := w) (g := g) (row := none) (hk_ HK.out))); have n4_ := Aside0.mk (KeepBut.trans (hk_ HK.out) hk (.inl rfl)); have n5_ := Aside0.mk (hb); have n6_ := Aside0.mk (hi); clear BK1586; clear HK; clear HB; clear HI0; have BK1586 := n0_; have HO1590 := n1_; have HO1593 := n2_; have HO1596 := n3_; have HK := n4_; have HB := n5_; have HI0 := n6_; clear n0_ n1_ n2_ n3_ n4_ n5_ n6_; (try clear hb); (try clear hb2); (try clear hk); (try clear hi); (try clear ho0); (try clear ho1); (try clear ho2)) | ((with_reducible refine gate_dst (N := 4) rfl ?_); refine box_event ?hg (N := 4) ?hd (cs := #[.int .i64 0, .slice none 0 0, .slice none 0 0, .slice none 0 0]) (t := 26) ?hr ?_; (case hd => rfl); (case hg => rfl); (case hr => first | (go_simp; done) | (go_simp; rfl)); intro gb1600 hg w49 hbox hb; have n0_ := Aside0.mk (Kd.R_below (rq_ HO1590.out) hb); have n1_ := Aside0.mk (Kd.R_below (rq_ HO1593.out) hb); have n2_ := Aside0.mk (Kd.R_below (rq_ HO1596.out) hb); have n3_ := Aside0.mk (IsS_l1Cur.below (is_l1Cur_ HI0.out) hb); have n4_ := Aside0.mk (bb_ BK1586.out hb); have n5_ := Aside0.mk (KeepBut.trans (hk_ HK.out) (KeepBut.of_below hb g none) (.inl rfl)); have n6_ := Aside0.mk (below_step (hi_ HB.out) hb); have n7_ := Aside0.mk (hbox); have n8_ := Aside0.mk ((by rw [hg]; exact (keep_size (w := w) (g := g) (row := none) (hk_ HK.out)) : w.heap.size ≤ gb1600)); have n9_ := Aside0.mk ((Nat.le_trans HW0.out (by rw [hg]; exact (keep_size (w := w) (g := g) (row := none) (hk_ HK.out)) : w.heap.size ≤ gb1600) : w0.heap.size ≤ gb1600)); have n10_ := Aside0.mk ((nl_ BK1586.out hg : gb1586 ≠ gb1600)); have n11_ := Aside0.mk ((ng_ BK1586.out hg : gb1600 ≠ gb1586)); have n12_ := Aside0.mk ((by rw [hg]; exact Nat.ne_of_lt (IsS_l1Cur.lt (show IsS_l1Cur w0 _ g s0_0 t1598 t1599 from is_l1Cur_ HI0.out)) : g ≠ gb1600)); have n13_ := Aside0.mk ((by rw [hg]; exact Nat.ne_of_gt (IsS_l1Cur.lt (show IsS_l1Cur w0 _ g s0_0 t1598 t1599 from is_l1Cur_ HI0.out)) : gb1600 ≠ g)); clear HO1590; clear HO1593; clear HO1596; clear HI0; clear BK1586; clear HK; clear HB; have HO1590 := n0_; have HO1593 := n1_; have HO1596 := n2_; have HI0 := n3_; have BK1586 := n4_; have HK := n5_; have HB := n6_; have BK1600 := n7_; have GW1600 := n8_; have GE1600 := n9_; have NB1586_1600 := n10_; have NB1600_1586 := n11_; have NB0_1600 := n12_; have NB1600_0 := n13_; clear n0_ n1_ n2_ n3_ n4_ n5_ n6_ n7_ n8_ n9_ n10_ n11_ n12_ n13_; clear hb hbox hg; have hnb50 := NB1600_1586.out; have hnc50 := NB1586_1600.out; have hnb51 := NB1600_0.out; have hnc51 := NB0_1600.out; have hcz52_0 : w49.cell? ⟨gb1600, 0, none⟩ = some (.int .i64 0) := (blk_cell BK1600.out 0).trans rfl; have hcz52_1 : w49.cell? ⟨gb1600, 1, none⟩ = some (.slice none 0 0) := (blk_cell BK1600.out 1).trans rfl; have hcz52_2 : w49.cell? ⟨gb1600, 2, none⟩ = some (.slice none 0 0) := (blk_cell BK1600.out 2).trans rfl; have hcz52_3 : w49.cell? ⟨gb1600, 3, none⟩ = some (.slice none 0 0) := (blk_cell BK1600.out 3).trans rfl; have hfz52_0 := blk_frozen BK1600.out 0; have hfz52_1 := blk_frozen BK1600.out 1; have hfz52_2 := blk_frozen BK1600.out 2; have hfz52_3 := blk_frozen BK1600.out 3; obtain ⟨Ao53, co53, eo53⟩ := Kd.R_slice HO1590.out; subst eo53; obtain ⟨Ao54, co54, eo54⟩ := Kd.R_slice HO1593.out; subst eo54; obtain ⟨Ao55, co55, eo55⟩ := Kd.R_slice HO1596.out; subst eo55) | ((with_reducible refine gate_callee (f := 78) rfl ?_); refine goesL_ (some 12) rfl rfl Try.func78 (by kernel_rfl) rfl #[.pointer (some ⟨g, 0, none⟩), .int .i64 12] rfl sm_ ?_; (with_reducible refine (spec_l1Below.calls g s0_0 t1598 t1599 12 t1601 t1602 t1603 w0 _ ?side1 ?side2 A3.out).mono ?_); (case side1 => repeat (first | (with_reducible first | exact HI0.out | apply IsS_l1Cur.alloc | apply IsS_l1Cur.drewN | apply IsS_l1Cur.drew | apply IsS_l1Cur.set_1 | apply IsS_l1Cur.set_2 | refine IsS_l1Cur.far ?_ NB0_1586.out _ | refine IsS_l1Cur.far ?_ NB0_1600.out _) | exact HI0.out)); (case side2 => repeat (first | (with_reducible first | exact HB.out | apply below_alloc | apply pw_below_drewN | apply below_drew1 | refine below_set ?_ (IsS_l1Cur.ge HI0.out) | refine below_set ?_ GE1586.out | refine below_set ?_ GE1600.out) | exact HB.out)); rintro e w56 ⟨rfl, hi, hb, hk⟩; refine ⟨_, rfl, ?_⟩; have n0_ := Aside0.mk (KeepBut.blk hk (g' := gb1586) (o := .cells #[.int .i64 0, .slice none 0 0, .slice none 0 0, .slice none 0 0] 26 (0, 0)) (bf_ NB1586_1600.out BK1586.out) NB1586_0.out (by simp)); have n1_ := Aside0.mk (Kd.R_mono (Kd.R_keep (IsS_l1Cur.apart (show IsS_l1Cur w0 _ g s0_0 t1598 t1599 from is_l1Cur_ HI0.out) (rk_ HO1590.out BK1600.out) (by decide)) hk (fun _ h => h.2)) (fun _ h => h.1)); have n2_ := Aside0.mk (Kd.R_mono (Kd.R_keep (IsS_l1Cur.apart (show IsS_l1Cur w0 _ g s0_0 t1598 t1599 from is_l1Cur_ HI0.out) (rk_ HO1593.out BK1600.out) (by decide)) hk (fun _ h => h.2)) (fun _ h => h.1)); have n3_ := Aside0.mk (Kd.R_mono (Kd.R_keep (IsS_l1Cur.apart (show IsS_l1Cur w0 _ g s0_0 t1598 t1599 from is_l1Cur_ HI0.out) (rk_ HO1596.out BK1600.out) (by decide)) hk (fun _ h => h.2)) (fun _ h => h.1)); have n4_ := Aside0.mk (KeepBut.blk hk (g' := gb1600) (o := .cells #[.int .i64 t1587, .slice Ao53 t1588.length co53, .slice Ao54 t1591.length co54, .slice Ao55 t1594.length co55] 26 (0, 0)) (bp_ BK1600.out) NB1600_0.out (by simp)); have n5_ := Aside0.mk (KeepBut.trans (hk_ HK.out) hk (.inl rfl)); have n6_ := Aside0.mk (hb); have n7_ := Aside0.mk (hi); clear BK1586; clear HO1590; clear HO1593; clear HO1596; clear BK1600; clear HK; clear HB; clear HI0; have BK1586 := n0_; have HO1590 := n1_; have HO1593 := n2_; have HO1596 := n3_; have BK1600 := n4_; have HK := n5_; have HB := n6_; have HI0 := n7_; clear n0_ n1_ n2_ n3_ n4_ n5_ n6_ n7_; (try clear hb); (try clear hb2); (try clear hk); (try clear hi)))
     have n0_ := Aside0.mk (Kd.R_drew HO1590.out)
     have n1_ := Aside0.mk (Kd.R_drew HO1593.out)
     have n2_ := Aside0.mk (Kd.R_drew HO1596.out)
     have n3_ := Aside0.mk (blk_drew BK1586.out)
     have n4_ := Aside0.mk (blk_drew BK1600.out)
     have n5_ := Aside0.mk (IsS_l1Cur.drew HI0.out)
     have n6_ := Aside0.mk (keep_drew HK.out)
     have n7_ := Aside0.mk (below_drew1 HB.out)
     clear HO1590; clear HO1593
     clear HO1596; clear BK1586
     clear BK1600; clear HI0
     clear HK; clear HB
     have HO1590 := n0_
     have HO1593 := n1_
     have HO1596 := n2_
     have BK1586 := n3_
     have BK1600 := n4_
     have HI0 := n5_
     have HK := n6_
     have HB := n7_
     clear n0_ n1_ n2_ n3_ n4_ n5_ n6_ n7_
     refine start_ (n := 9) (S := fun w' => w'.cell? ⟨gb1600, 0, none⟩ = some (.int .i64 t1587) ∧ w'.cell? ⟨gb1600, 1, none⟩ = some (.slice Ao53 t1588.length co53) ∧ w'.cell? ⟨gb1600, 2, none⟩ = some (.slice Ao54 t1591.length co54) ∧ w'.cell? ⟨gb1600, 3, none⟩ = some (.slice Ao55 t1594.length co55)) (ds := [8]) #[false, false, false, false, false, false, false, false, false] (by kernel_rfl) rfl rfl ⟨(blk_cell BK1600.out 0).trans rfl, (blk_cell BK1600.out 1).trans rfl, (blk_cell BK1600.out 2).trans rfl, (blk_cell BK1600.out 3).trans rfl⟩ (fun hHeld => ?_); refine with_tabW spec_l5Draw.tab8 spec_l5Draw.bits8 (fun HT_ HW_ => ?_)
     generalize w56.drew = w57 at HO1590 HO1593 HO1596 BK1586 BK1600 HI0 HK HB hHeld ⊢
     refine pI_ 0 30 HT_ #[true, false, false, false, false, false, false, false, false] rfl rfl ?_
     refine pI_ 2 32 HT_ #[true, false, true, false, false, false, false, false, false] rfl rfl ?_
     refine take_ (i := 1) (N := some 31) (v := ?_) (a' := ?_) #[true, true, true, false, false, false, false, false, false] rfl rfl (take_ofW HT_.out HW_.out (by kernel_rfl)) (fun _ _ _ h => h) (Or.inl ⟨by rfl, ?_⟩) hHeld ?_ ?_
     rotate_left
     ·
      rintro w' ⟨s0, s1, s2, s3⟩
      go_simp
      with_reducible rfl
     rotate_left; (focus simp only [Act.put, List.setIfInBounds_toArray, List.set_cons_zero, List.set_cons_succ, i64_w, i32_w]; rfl)
     refine one_ (i := 3) (N := some 33) #[true, true, true, true, false, false, false, false, false] rfl rfl (one_of HT_.out (by kernel_rfl)) (by decide) (fun K hK => ?_)
     refine Kd.R_lit_step (Kd.int .i64) _ 3 ?hg (N := 33) ?hd (xs := ([0, (-1), (-9223372036854775808)] : List Int)) (inner := [.int .i64 0, .int .i64 (-1), .int .i64 (-9223372036854775808)]) (ok := fun _ => True) (okp := fun _ => True) ?hr ?hp (fun _ hk => hk) trivial (Below.refl _ _) (Nat.le_refl _) (by simp) ?_; (case hd => rfl); (case hg => rfl); (case hr => first | (go_simp; done) | (go_simp; rfl)); (case hp => exact (Reps.one (show Kd.M (Kd.int .i64) _ _ _ 0 [.int .i64 0] from rfl) (Reps.one (show Kd.M (Kd.int .i64) _ _ _ (-1) [.int .i64 (-1)] from rfl) (Reps.one (show Kd.M (Kd.int .i64) _ _ _ (-9223372036854775808) [.int .i64 (-9223372036854775808)] from rfl) (Reps.none _ _)))))
     intro v1617 w58 ho59 hb hg_ hnew_
     clear hg_ hnew_
     (first | rw [← Ny1616.out] at ho59 | (simp only [Int.reduceToNat] at ho59; rw [← Ny1616.out] at ho59))
     have n0_ := Aside0.mk (Kd.R_elder' (rq_ HO1590.out) (Kd.R_base ho59) hb)
     have n1_ := Aside0.mk (Kd.R_elder' (rq_ HO1593.out) (Kd.R_base ho59) hb)
     have n2_ := Aside0.mk (Kd.R_elder' (rq_ HO1596.out) (Kd.R_base ho59) hb)
     have n3_ := Aside0.mk (Kd.R_lower (Kd.R_new' (Kd.R_new' (Kd.R_new' ho59 (Kd.R_lt (rq_ HO1590.out))) (Kd.R_lt (rq_ HO1593.out))) (Kd.R_lt (rq_ HO1596.out))) (keep_size (w := w) (g := g) (row := none) (hk_ HK.out)))
     have n4_ := Aside0.mk (IsS_l1Cur.below (is_l1Cur_ HI0.out) hb)
     have n5_ := Aside0.mk (bb_ BK1586.out hb)
     have n6_ := Aside0.mk (bb_ BK1600.out hb)
     have n7_ := Aside0.mk (KeepBut.trans (hk_ HK.out) (KeepBut.of_below hb g none) (.inl rfl))
     have n8_ := Aside0.mk (below_step (hi_ HB.out) hb)
     clear HO1590; clear HO1593
     clear HO1596; clear HI0
     clear BK1586; clear BK1600
     clear HK; clear HB
     have HO1590 := n0_
     have HO1593 := n1_
     have HO1596 := n2_
     have HO1618 := n3_
     have HI0 := n4_
     have BK1586 := n5_
     have BK1600 := n6_
     have HK := n7_
     have HB := n8_
     clear n0_ n1_ n2_ n3_ n4_ n5_ n6_ n7_ n8_; clear hb ho59
     obtain ⟨Ao60, co60, eo60⟩ := Kd.R_slice HO1618.out
     (first | subst eo60 | (injection eo60 with f1_ f2_ f3_; have f4_ := f1_.symm; have f5_ := f3_.symm; clear f1_ f2_ f3_; subst f4_; subst f5_))
     refine hK.out _ _ ⟨(blk_cell BK1600.out 0).trans rfl, (blk_cell BK1600.out 1).trans rfl, (blk_cell BK1600.out 2).trans rfl, (blk_cell BK1600.out 3).trans rfl⟩ (fun hHeld => ?_)
     clear hK K
     refine norm_ (a' := ?_) ?_ ?_
     rotate_left
     ·
      show Act.put _ (some 33) _ = _
      simp only [Act.put, List.setIfInBounds_toArray, List.set_cons_zero, List.set_cons_succ, i64_w, i32_w]
      rfl
     refine one_ (i := 4) (N := some 34) #[true, true, true, true, true, false, false, false, false] rfl rfl (one_of HT_.out (by kernel_rfl)) (by decide) (fun K hK => ?_)
     refine goes_ Try.func104 (by kernel_rfl) rfl #[.pointer (some ⟨g, 0, none⟩), .slice Ao60 y1616.length co60] (by rfl) rfl rfl sm_ ?_
     with_reducible refine (spec_l1PickInt.calls g s0_0 t1602 t1603 _ _ y1616 t1619 t1620 t1621 w0 _ ?side1 ?side2 ?side3 ?side4 ?side5 A45.out).mono ?_
     (case side1 => repeat (first | (with_reducible first | exact HI0.out | apply IsS_l1Cur.alloc | apply IsS_l1Cur.drewN | apply IsS_l1Cur.drew | apply IsS_l1Cur.set_1 | apply IsS_l1Cur.set_2 | refine IsS_l1Cur.far ?_ NB0_1586.out _ | refine IsS_l1Cur.far ?_ NB0_1600.out _) | exact HI0.out))
     (case side2 => repeat (first | (with_reducible first | exact HB.out | apply below_alloc | apply pw_below_drewN | apply below_drew1 | refine below_set ?_ (IsS_l1Cur.ge HI0.out) | refine below_set ?_ GE1586.out | refine below_set ?_ GE1600.out) | exact HB.out))
     (case side3 => repeat (first | exact (Kd.R_reads' HO1618.out).2.2 | (with_reducible refine Kd.C_alloc ?_ _) | (with_reducible refine Kd.C_drewN ?_ _) | (with_reducible refine Kd.C_drew ?_)))
     (case side4 => exact (Kd.R_reads' HO1618.out).2.1)
     (case side5 => exact far_slice (IsS_l1Cur.own_ne HI0.out HO1618.out (by decide)))
     rintro e w61 ⟨rfl, hi, hb, hk⟩
     refine ⟨_, rfl, ?_⟩
     have n0_ := Aside0.mk (KeepBut.blk hk (g' := gb1586) (o := .cells #[.int .i64 0, .slice none 0 0, .slice none 0 0, .slice none 0 0] 26 (0, 0)) (bq_ BK1586.out) NB1586_0.out (by simp))
     have n1_ := Aside0.mk (Kd.R_mono (Kd.R_keep (IsS_l1Cur.apart (show IsS_l1Cur w0 _ g s0_0 t1602 t1603 from is_l1Cur_ HI0.out) (rq_ HO1590.out) (by decide)) hk (fun _ h => h.2)) (fun _ h => h.1))
     have n2_ := Aside0.mk (Kd.R_mono (Kd.R_keep (IsS_l1Cur.apart (show IsS_l1Cur w0 _ g s0_0 t1602 t1603 from is_l1Cur_ HI0.out) (rq_ HO1593.out) (by decide)) hk (fun _ h => h.2)) (fun _ h => h.1))
     have n3_ := Aside0.mk (Kd.R_mono (Kd.R_keep (IsS_l1Cur.apart (show IsS_l1Cur w0 _ g s0_0 t1602 t1603 from is_l1Cur_ HI0.out) (rq_ HO1596.out) (by decide)) hk (fun _ h => h.2)) (fun _ h => h.1))
     have n4_ := Aside0.mk (KeepBut.blk hk (g' := gb1600) (o := .cells #[.int .i64 t1587, .slice Ao53 t1588.length co53, .slice Ao54 t1591.length co54, .slice Ao55 t1594.length co55] 26 (0, 0)) (bq_ BK1600.out) NB1600_0.out (by simp))
     have n5_ := Aside0.mk (Kd.R_mono (Kd.R_keep (IsS_l1Cur.apart (show IsS_l1Cur w0 _ g s0_0 t1602 t1603 from is_l1Cur_ HI0.out) (rq_ HO1618.out) (by decide)) hk (fun _ h => h.2)) (fun _ h => h.1))
     have n6_ := Aside0.mk (KeepBut.trans (hk_ HK.out) hk (.inl rfl))
     have n7_ := Aside0.mk (hb)
     have n8_ := Aside0.mk (hi)
     clear BK1586; clear HO1590
     clear HO1593; clear HO1596
     clear BK1600; clear HO1618
     clear HK; clear HB
     clear HI0
     have BK1586 := n0_
     have HO1590 := n1_
     have HO1593 := n2_
     have HO1596 := n3_
     have BK1600 := n4_
     have HO1618 := n5_
     have HK := n6_
     have HB := n7_
     have HI0 := n8_
     clear n0_ n1_ n2_ n3_ n4_ n5_ n6_ n7_ n8_
     (try clear hb)
     (try clear hb2)
     (try clear hk)
     (try clear hi)
     refine hK.out _ _ ⟨(blk_cell BK1600.out 0).trans rfl, (blk_cell BK1600.out 1).trans rfl, (blk_cell BK1600.out 2).trans rfl, (blk_cell BK1600.out 3).trans rfl⟩ (fun hHeld => ?_)
     clear hK K
     refine norm_ (a' := ?_) ?_ ?_
     rotate_left
     ·
      show Act.put _ (some 34) _ = _
      simp only [Act.put, List.setIfInBounds_toArray, List.set_cons_zero, List.set_cons_succ, i64_w, i32_w]
      rfl
     refine one_ (i := 5) (N := some 35) #[true, true, true, true, true, true, false, false, false] rfl rfl (one_of HT_.out (by kernel_rfl)) (by decide) (fun K hK => ?_)
     refine value_ (w1 := ?_) (v := ?_) (by rfl) rfl ?_ ?_
     rotate_left 2
     ·
      go_simp
      constructor
      ·
       rfl
      ·
       rfl
     refine hK.out _ _ ⟨(blk_cell (blk_alloc BK1600.out _) 0).trans rfl, (blk_cell (blk_alloc BK1600.out _) 1).trans rfl, (blk_cell (blk_alloc BK1600.out _) 2).trans rfl, (blk_cell (blk_alloc BK1600.out _) 3).trans rfl⟩ (fun hHeld => ?_)
     clear hK K
     refine norm_ (a' := ?_) ?_ ?_
     rotate_left
     ·
      show Act.put _ (some 35) _ = _
      simp only [Act.put, List.setIfInBounds_toArray, List.set_cons_zero, List.set_cons_succ, i64_w, i32_w]
      rfl
     refine one_ (i := 6) (N := some 36) #[true, true, true, true, true, true, true, false, false] rfl rfl (one_of HT_.out (by kernel_rfl)) (by decide) (fun K hK => ?_)
     refine Kd.R_append_step (Kd.int .i64) w.heap.size (by rfl) (.tmp 31) (.tmp 35) 24 3 (.int .i64 0) 8 rfl Try.underlying24 info3 rfl (by decide) (by omega) (.slice Ao54 t1591.length co54) t1591 t1619 [.int .i64 t1619] (fun k_ => some k_ ≠ (.slice Ao53 t1588.length co53 : Value).ownBlock ∧ some k_ ≠ (.slice Ao55 t1594.length co55 : Value).ownBlock ∧ some k_ ≠ (.slice Ao60 y1616.length co60 : Value).ownBlock) (fun _ => False) rfl rfl ?aP (fun _ hk => hk.elim) ?aF ?aO (Below.refl _ _) ?aS ?aL ?_
     (case aP => exact rfl)
     (case aF => exact (fun k_ hk => ⟨Kd.fresh' (Kd.R_lt (rq_ HO1590.out)) k_ hk, Kd.fresh' (Kd.R_lt (rq_ HO1596.out)) k_ hk, Kd.fresh' (Kd.R_lt (rq_ HO1618.out)) k_ hk⟩))
     (case aO => exact (rm_ HO1593.out))
     (case aS => exact (keep_size (w := w) (g := g) (row := none) (hk_ HK.out)))
     (case aL => have := LMc46.out; omega)
     intro v1623 w62 ho hb hg hat
     rw [← Ny1622.out] at ho
     have n0_ := Aside0.mk (IsS_l1Cur.grown (is_l1Cur_ HI0.out) hg (IsS_l1Cur.own_ne HI0.out HO1593.out (by decide)))
     have n1_ := Aside0.mk (blk_grown (g := gb1586) (o := .cells #[.int .i64 0, .slice none 0 0, .slice none 0 0, .slice none 0 0] 26 (0, 0)) (bq_ BK1586.out) hg (Kd.R_ne HO1593.out BK1586.out (by decide)))
     have n2_ := Aside0.mk (Kd.R_after (ok := (fun k_ => some k_ ≠ (.slice Ao55 t1594.length co55 : Value).ownBlock ∧ some k_ ≠ (.slice Ao60 y1616.length co60 : Value).ownBlock)) (rm_ HO1590.out) hg hat)
     have n3_ := Aside0.mk (Kd.R_after (ok := (fun k_ => some k_ ≠ (.slice Ao53 t1588.length co53 : Value).ownBlock ∧ some k_ ≠ (.slice Ao60 y1616.length co60 : Value).ownBlock)) (rm_ HO1596.out) hg hat)
     have n4_ := Aside0.mk (blk_grown (g := gb1600) (o := .cells #[.int .i64 t1587, .slice Ao53 t1588.length co53, .slice Ao54 t1591.length co54, .slice Ao55 t1594.length co55] 26 (0, 0)) (bq_ BK1600.out) hg (Kd.R_ne HO1593.out BK1600.out (by decide)))
     have n5_ := Aside0.mk (Kd.R_after (ok := (fun k_ => some k_ ≠ (.slice Ao53 t1588.length co53 : Value).ownBlock ∧ some k_ ≠ (.slice Ao55 t1594.length co55 : Value).ownBlock)) (rm_ HO1618.out) hg hat)
     have n6_ := Aside0.mk (below_weaken (hi_ HB.out) HL.out hb)
     have n7_ := Aside0.mk (KeepBut.trans (hk_ HK.out) (KeepBut.of_grown hg g) (Kd.R_base2 HO1593.out))
     have n8_ := Aside0.mk (ho)
     clear HI0; clear BK1586
     clear HO1590; clear HO1596
     clear BK1600; clear HO1618
     clear HB; clear HK
     clear HO1593
     have HI0 := n0_
     have BK1586 := n1_
     have HO1590 := n2_
     have HO1596 := n3_
     have BK1600 := n4_
     have HO1618 := n5_
     have HB := n6_
     have HK := n7_
     have HO1624 := n8_
     clear n0_ n1_ n2_ n3_ n4_ n5_ n6_ n7_ n8_; clear ho hb hg hat
     obtain ⟨Ao63, co63, eo63⟩ := Kd.R_slice HO1624.out
     (first | subst eo63 | (injection eo63 with f1_ f2_ f3_; have f4_ := f1_.symm; have f5_ := f3_.symm; clear f1_ f2_ f3_; subst f4_; subst f5_))
     refine hK.out _ _ ⟨(blk_cell BK1600.out 0).trans rfl, (blk_cell BK1600.out 1).trans rfl, (blk_cell BK1600.out 2).trans rfl, (blk_cell BK1600.out 3).trans rfl⟩ (fun hHeld => ?_)
     clear hK K
     refine norm_ (a' := ?_) ?_ ?_
     rotate_left
     ·
      show Act.put _ (some 36) _ = _
      simp only [Act.put, List.setIfInBounds_toArray, List.set_cons_zero, List.set_cons_succ, i64_w, i32_w]
      rfl
     refine pI_ 7 37 HT_ #[true, true, true, true, true, true, true, true, false] rfl rfl ?_
     refine last_ (i := 8) (N := none) #[true, true, true, true, true, true, true, true, true] rfl rfl (one_of HT_.out (by kernel_rfl)) (by decide) (fun K hK => ?_)
     have hs64 : w62.cell? ⟨gb1600, 2, none⟩ = some (.slice Ao54 t1591.length co54) := (blk_cell BK1600.out 2).trans rfl
     have hfs64 := blk_frozen BK1600.out 2
     have hns64_0 := NB1586_1600.out
     have hms64_0 := NB1600_1586.out
     refine skip_ (w1 := ?_) (by rfl) rfl ?_ ?_
     rotate_left; (focus go_simp; rfl)
     refine hK.out _ _ ?_
     clear hK K
     refine done_ (done_of HT_.out (by kernel_rfl)) ?_
     have hcz65_0 : w62.cell? ⟨gb1600, 0, none⟩ = some (.int .i64 t1587) := (blk_cell BK1600.out 0).trans rfl
     have hcz65_1 : w62.cell? ⟨gb1600, 1, none⟩ = some (.slice Ao53 t1588.length co53) := (blk_cell BK1600.out 1).trans rfl
     have hcz65_2 : w62.cell? ⟨gb1600, 2, none⟩ = some (.slice Ao54 t1591.length co54) := (blk_cell BK1600.out 2).trans rfl
     have hcz65_3 : w62.cell? ⟨gb1600, 3, none⟩ = some (.slice Ao55 t1594.length co55) := (blk_cell BK1600.out 3).trans rfl
     have hfz65_0 := blk_frozen BK1600.out 0
     have hfz65_1 := blk_frozen BK1600.out 1
     have hfz65_2 := blk_frozen BK1600.out 2
     have hfz65_3 := blk_frozen BK1600.out 3
     have hnb66 := NB1586_0.out
     have hnc66 := NB0_1586.out
     have hcz67_0 : w62.cell? ⟨gb1586, 0, none⟩ = some (.int .i64 0) := (blk_cell BK1586.out 0).trans rfl
     have hcz67_1 : w62.cell? ⟨gb1586, 1, none⟩ = some (.slice none 0 0) := (blk_cell BK1586.out 1).trans rfl
     have hcz67_2 : w62.cell? ⟨gb1586, 2, none⟩ = some (.slice none 0 0) := (blk_cell BK1586.out 2).trans rfl
     have hcz67_3 : w62.cell? ⟨gb1586, 3, none⟩ = some (.slice none 0 0) := (blk_cell BK1586.out 3).trans rfl
     have hfz67_0 := blk_frozen BK1586.out 0
     have hfz67_1 := blk_frozen BK1586.out 1
     have hfz67_2 := blk_frozen BK1586.out 2
     have hfz67_3 := blk_frozen BK1586.out 3
     try go_wp2
     refine bodyPost_ret (results_ct rfl _ _ gb1586 26 #[.int .i64 t1587, .slice Ao53 t1588.length co53, .slice Ao63 y1622.length co63, .slice Ao55 t1594.length co55] (0, 0) _ rfl (by (with_reducible repeat (first | refine blk_drewN ?_ _ | refine blk_drew ?_ | refine blk_alloc ?_ _)); refine blk_put (cs := #[.int .i64 t1587, .slice Ao53 t1588.length co53, .slice Ao63 y1622.length co63, .slice none 0 0]) ?_ 3 _ rfl; (with_reducible repeat (first | refine blk_drewN ?_ _ | refine blk_drew ?_ | refine blk_alloc ?_ _)); refine blk_put (cs := #[.int .i64 t1587, .slice Ao53 t1588.length co53, .slice none 0 0, .slice none 0 0]) ?_ 2 _ rfl; (with_reducible repeat (first | refine blk_drewN ?_ _ | refine blk_drew ?_ | refine blk_alloc ?_ _)); refine blk_put (cs := #[.int .i64 t1587, .slice none 0 0, .slice none 0 0, .slice none 0 0]) ?_ 1 _ rfl; (with_reducible repeat (first | refine blk_drewN ?_ _ | refine blk_drew ?_ | refine blk_alloc ?_ _)); refine blk_put (cs := #[.int .i64 0, .slice none 0 0, .slice none 0 0, .slice none 0 0]) ?_ 0 _ rfl; (with_reducible repeat (first | refine blk_drewN ?_ _ | refine blk_drew ?_ | refine blk_alloc ?_ _)); refine blk_far ?_ NB1586_1600.out _; (with_reducible repeat (first | refine blk_drewN ?_ _ | refine blk_drew ?_ | refine blk_alloc ?_ _)); exact BK1586.out) Try.underlying26 rfl (by kernel_rfl)) rfl ?_
     exact ⟨_, _, _, er_, by (with_reducible repeat (first | apply Kd.R_alloc | apply Kd.R_drewN | apply Kd.R_drew)); exact Kd.R_mono (Kd.R_far (p := ⟨gb1586, 3, none⟩) (Kd.R_far (p := ⟨gb1586, 2, none⟩) (Kd.R_far (p := ⟨gb1586, 1, none⟩) (Kd.R_far (p := ⟨gb1586, 0, none⟩) (Kd.R_far (p := ⟨gb1600, 2, none⟩) (Kd.R_types (Kd.R_types HO1590.out BK1600.out (by decide)) BK1586.out (by decide)) (fun _ hk => hk.1.2) (.slice Ao63 y1622.length co63)) (fun _ hk => hk.2) (.int .i64 t1587)) (fun _ hk => hk.2) (.slice Ao53 t1588.length co53)) (fun _ hk => hk.2) (.slice Ao63 y1622.length co63)) (fun _ hk => hk.2) (.slice Ao55 t1594.length co55)) (fun _ hk => ⟨hk.1.1.2, hk.1.1.1.1⟩), by (with_reducible repeat (first | apply Kd.R_alloc | apply Kd.R_drewN | apply Kd.R_drew)); exact Kd.R_mono (Kd.R_far (p := ⟨gb1586, 3, none⟩) (Kd.R_far (p := ⟨gb1586, 2, none⟩) (Kd.R_far (p := ⟨gb1586, 1, none⟩) (Kd.R_far (p := ⟨gb1586, 0, none⟩) (Kd.R_far (p := ⟨gb1600, 2, none⟩) (Kd.R_types (Kd.R_types HO1624.out BK1600.out (by decide)) BK1586.out (by decide)) (fun _ hk => hk.1.2) (.slice Ao63 y1622.length co63)) (fun _ hk => hk.2) (.int .i64 t1587)) (fun _ hk => hk.2) (.slice Ao53 t1588.length co53)) (fun _ hk => hk.2) (.slice Ao63 y1622.length co63)) (fun _ hk => hk.2) (.slice Ao55 t1594.length co55)) (fun _ hk => ⟨hk.1.1.1, hk.1.1.2.1⟩), by (with_reducible repeat (first | apply Kd.R_alloc | apply Kd.R_drewN | apply Kd.R_drew)); exact Kd.R_mono (Kd.R_far (p := ⟨gb1586, 3, none⟩) (Kd.R_far (p := ⟨gb1586, 2, none⟩) (Kd.R_far (p := ⟨gb1586, 1, none⟩) (Kd.R_far (p := ⟨gb1586, 0, none⟩) (Kd.R_far (p := ⟨gb1600, 2, none⟩) (Kd.R_types (Kd.R_types HO1596.out BK1600.out (by decide)) BK1586.out (by decide)) (fun _ hk => hk.1.2) (.slice Ao63 y1622.length co63)) (fun _ hk => hk.2) (.int .i64 t1587)) (fun _ hk => hk.2) (.slice Ao53 t1588.length co53)) (fun _ hk => hk.2) (.slice Ao63 y1622.length co63)) (fun _ hk => hk.2) (.slice Ao55 t1594.length co55)) (fun _ hk => ⟨hk.1.1.1.1, hk.1.1.2⟩), is_l1Cur_ HI0.out, by repeat (first | (with_reducible first | exact HB.out | apply below_alloc | apply pw_below_drewN | apply below_drew1 | refine below_set ?_ (IsS_l1Cur.ge HI0.out) | refine below_set ?_ GE1586.out | refine below_set ?_ GE1600.out) | exact HB.out), by repeat (first | (with_reducible first | exact HK.out | apply KeepBut.set_ | apply keep_drewN | apply keep_drew | apply keep_alloc | refine keep_far ?_ GW1586.out _ | refine keep_far ?_ GW1600.out _) | exact HK.out)⟩
    ·
     rw [if_neg c46] at H
     exact absurd H (by simp)
   ·
    rw [if_neg c44] at H
    have c44b0 : (t1601 == 2) = false := beq_eq_false_iff_ne.mpr c44
    have c44b1 : (t1601 != 2) = true := bne_iff_ne.mpr c44
    by_cases c68 : t1601 = 3
    ·
     rw [if_pos c68] at H
     have c68b0 : (t1601 == 3) = true := beq_iff_eq.mpr c68
     have c68b1 : (t1601 != 3) = false := bne_eq_false_iff_eq.mpr c68
     clear c68
     replace H := Option.bind_eq_some_iff.mp H
     obtain ⟨⟨t1625, t1626, t1627⟩, A690, H⟩ := H
     replace H : (some (t1587, t1588, t1591, t1594, t1625, t1626, t1627)) = some (r1, r2, r3, r4, r5, r6, r7) := H
     have A69 := Aside0.mk A690
     clear A690
     simp only [Option.some.injEq, Prod.mk.injEq] at H
     obtain ⟨rfl, rfl, rfl, rfl, rfl, rfl, rfl⟩ := H
     go_enter Try.func77, Try.ntmps77
     go_wp2_with (first | ((with_reducible refine gate_dst (N := 2) rfl ?_); refine box_event ?hg (N := 2) ?hd (cs := #[.int .i64 0, .slice none 0 0, .slice none 0 0, .slice none 0 0]) (t := 26) ?hr ?_; (case hd => rfl); (case hg => rfl); (case hr => first | (go_simp; done) | (go_simp; rfl)); intro gb1586 hg w70 hbox hb; have n0_ := Aside0.mk (IsS_l1Cur.below (is_l1Cur_ HI0.out) hb); have n1_ := Aside0.mk (KeepBut.trans (hk_ HK.out) (KeepBut.of_below hb g none) (.inl rfl)); have n2_ := Aside0.mk (below_step (hi_ HB.out) hb); have n3_ := Aside0.mk (hbox); have n4_ := Aside0.mk ((by rw [hg]; exact (keep_size (w := w) (g := g) (row := none) (hk_ HK.out)) : w.heap.size ≤ gb1586)); have n5_ := Aside0.mk ((Nat.le_trans HW0.out (by rw [hg]; exact (keep_size (w := w) (g := g) (row := none) (hk_ HK.out)) : w.heap.size ≤ gb1586) : w0.heap.size ≤ gb1586)); have n6_ := Aside0.mk ((by rw [hg]; exact Nat.ne_of_lt (IsS_l1Cur.lt (show IsS_l1Cur w0 _ g s0_0 s0_1 s0_2 from is_l1Cur_ HI0.out)) : g ≠ gb1586)); have n7_ := Aside0.mk ((by rw [hg]; exact Nat.ne_of_gt (IsS_l1Cur.lt (show IsS_l1Cur w0 _ g s0_0 s0_1 s0_2 from is_l1Cur_ HI0.out)) : gb1586 ≠ g)); clear HI0; clear HK; clear HB; have HI0 := n0_; have HK := n1_; have HB := n2_; have BK1586 := n3_; have GW1586 := n4_; have GE1586 := n5_; have NB0_1586 := n6_; have NB1586_0 := n7_; clear n0_ n1_ n2_ n3_ n4_ n5_ n6_ n7_; clear hb hbox hg) | ((with_reducible refine gate_callee (f := 145) rfl ?_); refine goesL_ (some 8) rfl rfl Try.func145 (by kernel_rfl) rfl #[.pointer (some ⟨g, 0, none⟩)] rfl sm_ ?_; (with_reducible refine (spec_l5DrawRight.calls k g s0_0 s0_1 s0_2 t1587 t1588 t1591 t1594 t1597 t1598 t1599 w0 _ ?side1 ?side2 A2.out).mono ?_); (case side1 => repeat (first | (with_reducible first | exact HI0.out | apply IsS_l1Cur.alloc | apply IsS_l1Cur.drewN | apply IsS_l1Cur.drew | apply IsS_l1Cur.set_1 | apply IsS_l1Cur.set_2 | refine IsS_l1Cur.far ?_ NB0_1586.out _) | exact HI0.out)); (case side2 => repeat (first | (with_reducible first | exact HB.out | apply below_alloc | apply pw_below_drewN | apply below_drew1 | refine below_set ?_ (IsS_l1Cur.ge HI0.out) | refine below_set ?_ GE1586.out) | exact HB.out)); rintro e w71 ⟨v1589, v1592, v1595, rfl, ho0, ho1, ho2, hi, hb, hk⟩; refine ⟨_, rfl, ?_⟩; have n0_ := Aside0.mk (KeepBut.blk hk (g' := gb1586) (o := .cells #[.int .i64 0, .slice none 0 0, .slice none 0 0, .slice none 0 0] 26 (0, 0)) (bq_ BK1586.out) NB1586_0.out (by simp)); have n1_ := Aside0.mk (Kd.R_lower ho0 (keep_size (w := w) (g := g) (row := none) (hk_ HK.out))); have n2_ := Aside0.mk (Kd.R_lower ho1 (keep_size (w := w) (g := g) (row := none) (hk_ HK.out))); have n3_ := Aside0.mk (Kd.R_lower ho2 (keep_size (w := w) (g := g) (row := none) (hk_ HK.out))); have n4_ := Aside0.mk (KeepBut.trans (hk_ HK.out) hk (.inl rfl)); have n5_ := Aside0.mk (hb); have n6_ := Aside0.mk (hi); clear BK1586; clear HK; clear HB; clear HI0; have BK1586 := n0_; have HO1590 := n1_; have HO1593 := n2_; have HO1596 := n3_; have HK := n4_; have HB := n5_; have HI0 := n6_; clear n0_ n1_ n2_ n3_ n4_ n5_ n6_; (try clear hb); (try clear hb2); (try clear hk); (try clear hi); (try clear ho0); (try clear ho1); (try clear ho2)) | ((with_reducible refine gate_dst (N := 4) rfl ?_); refine box_event ?hg (N := 4) ?hd (cs := #[.int .i64 0, .slice none 0 0, .slice none 0 0, .slice none 0 0]) (t := 26) ?hr ?_; (case hd => rfl); (case hg => rfl); (case hr => first | (go_simp; done) | (go_simp; rfl)); intro gb1600 hg w72 hbox hb; have n0_ := Aside0.mk (Kd.R_below (rq_ HO1590.out) hb); have n1_ := Aside0.mk (Kd.R_below (rq_ HO1593.out) hb); have n2_ := Aside0.mk (Kd.R_below (rq_ HO1596.out) hb); have n3_ := Aside0.mk (IsS_l1Cur.below (is_l1Cur_ HI0.out) hb); have n4_ := Aside0.mk (bb_ BK1586.out hb); have n5_ := Aside0.mk (KeepBut.trans (hk_ HK.out) (KeepBut.of_below hb g none) (.inl rfl)); have n6_ := Aside0.mk (below_step (hi_ HB.out) hb); have n7_ := Aside0.mk (hbox); have n8_ := Aside0.mk ((by rw [hg]; exact (keep_size (w := w) (g := g) (row := none) (hk_ HK.out)) : w.heap.size ≤ gb1600)); have n9_ := Aside0.mk ((Nat.le_trans HW0.out (by rw [hg]; exact (keep_size (w := w) (g := g) (row := none) (hk_ HK.out)) : w.heap.size ≤ gb1600) : w0.heap.size ≤ gb1600)); have n10_ := Aside0.mk ((nl_ BK1586.out hg : gb1586 ≠ gb1600)); have n11_ := Aside0.mk ((ng_ BK1586.out hg : gb1600 ≠ gb1586)); have n12_ := Aside0.mk ((by rw [hg]; exact Nat.ne_of_lt (IsS_l1Cur.lt (show IsS_l1Cur w0 _ g s0_0 t1598 t1599 from is_l1Cur_ HI0.out)) : g ≠ gb1600)); have n13_ := Aside0.mk ((by rw [hg]; exact Nat.ne_of_gt (IsS_l1Cur.lt (show IsS_l1Cur w0 _ g s0_0 t1598 t1599 from is_l1Cur_ HI0.out)) : gb1600 ≠ g)); clear HO1590; clear HO1593; clear HO1596; clear HI0; clear BK1586; clear HK; clear HB; have HO1590 := n0_; have HO1593 := n1_; have HO1596 := n2_; have HI0 := n3_; have BK1586 := n4_; have HK := n5_; have HB := n6_; have BK1600 := n7_; have GW1600 := n8_; have GE1600 := n9_; have NB1586_1600 := n10_; have NB1600_1586 := n11_; have NB0_1600 := n12_; have NB1600_0 := n13_; clear n0_ n1_ n2_ n3_ n4_ n5_ n6_ n7_ n8_ n9_ n10_ n11_ n12_ n13_; clear hb hbox hg; have hnb73 := NB1600_1586.out; have hnc73 := NB1586_1600.out; have hnb74 := NB1600_0.out; have hnc74 := NB0_1600.out; have hcz75_0 : w72.cell? ⟨gb1600, 0, none⟩ = some (.int .i64 0) := (blk_cell BK1600.out 0).trans rfl; have hcz75_1 : w72.cell? ⟨gb1600, 1, none⟩ = some (.slice none 0 0) := (blk_cell BK1600.out 1).trans rfl; have hcz75_2 : w72.cell? ⟨gb1600, 2, none⟩ = some (.slice none 0 0) := (blk_cell BK1600.out 2).trans rfl; have hcz75_3 : w72.cell? ⟨gb1600, 3, none⟩ = some (.slice none 0 0) := (blk_cell BK1600.out 3).trans rfl; have hfz75_0 := blk_frozen BK1600.out 0; have hfz75_1 := blk_frozen BK1600.out 1; have hfz75_2 := blk_frozen BK1600.out 2; have hfz75_3 := blk_frozen BK1600.out 3; obtain ⟨Ao76, co76, eo76⟩ := Kd.R_slice HO1590.out; subst eo76; obtain ⟨Ao77, co77, eo77⟩ := Kd.R_slice HO1593.out; subst eo77; obtain ⟨Ao78, co78, eo78⟩ := Kd.R_slice HO1596.out; subst eo78) | ((with_reducible refine gate_callee (f := 78) rfl ?_); refine goesL_ (some 12) rfl rfl Try.func78 (by kernel_rfl) rfl #[.pointer (some ⟨g, 0, none⟩), .int .i64 12] rfl sm_ ?_; (with_reducible refine (spec_l1Below.calls g s0_0 t1598 t1599 12 t1601 t1602 t1603 w0 _ ?side1 ?side2 A3.out).mono ?_); (case side1 => repeat (first | (with_reducible first | exact HI0.out | apply IsS_l1Cur.alloc | apply IsS_l1Cur.drewN | apply IsS_l1Cur.drew | apply IsS_l1Cur.set_1 | apply IsS_l1Cur.set_2 | refine IsS_l1Cur.far ?_ NB0_1586.out _ | refine IsS_l1Cur.far ?_ NB0_1600.out _) | exact HI0.out)); (case side2 => repeat (first | (with_reducible first | exact HB.out | apply below_alloc | apply pw_below_drewN | apply below_drew1 | refine below_set ?_ (IsS_l1Cur.ge HI0.out) | refine below_set ?_ GE1586.out | refine below_set ?_ GE1600.out) | exact HB.out)); rintro e w79 ⟨rfl, hi, hb, hk⟩; refine ⟨_, rfl, ?_⟩; have n0_ := Aside0.mk (KeepBut.blk hk (g' := gb1586) (o := .cells #[.int .i64 0, .slice none 0 0, .slice none 0 0, .slice none 0 0] 26 (0, 0)) (bf_ NB1586_1600.out BK1586.out) NB1586_0.out (by simp)); have n1_ := Aside0.mk (Kd.R_mono (Kd.R_keep (IsS_l1Cur.apart (show IsS_l1Cur w0 _ g s0_0 t1598 t1599 from is_l1Cur_ HI0.out) (rk_ HO1590.out BK1600.out) (by decide)) hk (fun _ h => h.2)) (fun _ h => h.1)); have n2_ := Aside0.mk (Kd.R_mono (Kd.R_keep (IsS_l1Cur.apart (show IsS_l1Cur w0 _ g s0_0 t1598 t1599 from is_l1Cur_ HI0.out) (rk_ HO1593.out BK1600.out) (by decide)) hk (fun _ h => h.2)) (fun _ h => h.1)); have n3_ := Aside0.mk (Kd.R_mono (Kd.R_keep (IsS_l1Cur.apart (show IsS_l1Cur w0 _ g s0_0 t1598 t1599 from is_l1Cur_ HI0.out) (rk_ HO1596.out BK1600.out) (by decide)) hk (fun _ h => h.2)) (fun _ h => h.1)); have n4_ := Aside0.mk (KeepBut.blk hk (g' := gb1600) (o := .cells #[.int .i64 t1587, .slice Ao76 t1588.length co76, .slice Ao77 t1591.length co77, .slice Ao78 t1594.length co78] 26 (0, 0)) (bp_ BK1600.out) NB1600_0.out (by simp)); have n5_ := Aside0.mk (KeepBut.trans (hk_ HK.out) hk (.inl rfl)); have n6_ := Aside0.mk (hb); have n7_ := Aside0.mk (hi); clear BK1586; clear HO1590; clear HO1593; clear HO1596; clear BK1600; clear HK; clear HB; clear HI0; have BK1586 := n0_; have HO1590 := n1_; have HO1593 := n2_; have HO1596 := n3_; have BK1600 := n4_; have HK := n5_; have HB := n6_; have HI0 := n7_; clear n0_ n1_ n2_ n3_ n4_ n5_ n6_ n7_; (try clear hb); (try clear hb2); (try clear hk); (try clear hi)) | ((with_reducible refine gate_callee (f := 78) rfl ?_); refine goesL_ (some 41) rfl rfl Try.func78 (by kernel_rfl) rfl #[.pointer (some ⟨g, 0, none⟩), .int .i64 5] rfl sm_ ?_; (with_reducible refine (spec_l1Below.calls g s0_0 t1602 t1603 5 t1625 t1626 t1627 w0 _ ?side1 ?side2 A69.out).mono ?_); (case side1 => repeat (first | (with_reducible first | exact HI0.out | apply IsS_l1Cur.alloc | apply IsS_l1Cur.drewN | apply IsS_l1Cur.drew | apply IsS_l1Cur.set_1 | apply IsS_l1Cur.set_2 | refine IsS_l1Cur.far ?_ NB0_1586.out _ | refine IsS_l1Cur.far ?_ NB0_1600.out _) | exact HI0.out)); (case side2 => repeat (first | (with_reducible first | exact HB.out | apply below_alloc | apply pw_below_drewN | apply below_drew1 | refine below_set ?_ (IsS_l1Cur.ge HI0.out) | refine below_set ?_ GE1586.out | refine below_set ?_ GE1600.out) | exact HB.out)); rintro e w80 ⟨rfl, hi, hb, hk⟩; refine ⟨_, rfl, ?_⟩; have n0_ := Aside0.mk (KeepBut.blk hk (g' := gb1586) (o := .cells #[.int .i64 0, .slice none 0 0, .slice none 0 0, .slice none 0 0] 26 (0, 0)) (bq_ BK1586.out) NB1586_0.out (by simp)); have n1_ := Aside0.mk (Kd.R_mono (Kd.R_keep (IsS_l1Cur.apart (show IsS_l1Cur w0 _ g s0_0 t1602 t1603 from is_l1Cur_ HI0.out) (rq_ HO1590.out) (by decide)) hk (fun _ h => h.2)) (fun _ h => h.1)); have n2_ := Aside0.mk (Kd.R_mono (Kd.R_keep (IsS_l1Cur.apart (show IsS_l1Cur w0 _ g s0_0 t1602 t1603 from is_l1Cur_ HI0.out) (rq_ HO1593.out) (by decide)) hk (fun _ h => h.2)) (fun _ h => h.1)); have n3_ := Aside0.mk (Kd.R_mono (Kd.R_keep (IsS_l1Cur.apart (show IsS_l1Cur w0 _ g s0_0 t1602 t1603 from is_l1Cur_ HI0.out) (rq_ HO1596.out) (by decide)) hk (fun _ h => h.2)) (fun _ h => h.1)); have n4_ := Aside0.mk (KeepBut.blk hk (g' := gb1600) (o := .cells #[.int .i64 t1587, .slice Ao76 t1588.length co76, .slice Ao77 t1591.length co77, .slice Ao78 t1594.length co78] 26 (0, 0)) (bq_ BK1600.out) NB1600_0.out (by simp)); have n5_ := Aside0.mk (KeepBut.trans (hk_ HK.out) hk (.inl rfl)); have n6_ := Aside0.mk (hb); have n7_ := Aside0.mk (hi); clear BK1586; clear HO1590; clear HO1593; clear HO1596; clear BK1600; clear HK; clear HB; clear HI0; have BK1586 := n0_; have HO1590 := n1_; have HO1593 := n2_; have HO1596 := n3_; have BK1600 := n4_; have HK := n5_; have HB := n6_; have HI0 := n7_; clear n0_ n1_ n2_ n3_ n4_ n5_ n6_ n7_; (try clear hb); (try clear hb2); (try clear hk); (try clear hi); have hcz81_0 : w80.cell? ⟨gb1600, 0, none⟩ = some (.int .i64 t1587) := (blk_cell BK1600.out 0).trans rfl; have hcz81_1 : w80.cell? ⟨gb1600, 1, none⟩ = some (.slice Ao76 t1588.length co76) := (blk_cell BK1600.out 1).trans rfl; have hcz81_2 : w80.cell? ⟨gb1600, 2, none⟩ = some (.slice Ao77 t1591.length co77) := (blk_cell BK1600.out 2).trans rfl; have hcz81_3 : w80.cell? ⟨gb1600, 3, none⟩ = some (.slice Ao78 t1594.length co78) := (blk_cell BK1600.out 3).trans rfl; have hfz81_0 := blk_frozen BK1600.out 0; have hfz81_1 := blk_frozen BK1600.out 1; have hfz81_2 := blk_frozen BK1600.out 2; have hfz81_3 := blk_frozen BK1600.out 3; have hnb82 := NB1586_0.out; have hnc82 := NB0_1586.out; have hcz83_0 : w80.cell? ⟨gb1586, 0, none⟩ = some (.int .i64 0) := (blk_cell BK1586.out 0).trans rfl; have hcz83_1 : w80.cell? ⟨gb1586, 1, none⟩ = some (.slice none 0 0) := (blk_cell BK1586.out 1).trans rfl; have hcz83_2 : w80.cell? ⟨gb1586, 2, none⟩ = some (.slice none 0 0) := (blk_cell BK1586.out 2).trans rfl; have hcz83_3 : w80.cell? ⟨gb1586, 3, none⟩ = some (.slice none 0 0) := (blk_cell BK1586.out 3).trans rfl; have hfz83_0 := blk_frozen BK1586.out 0; have hfz83_1 := blk_frozen BK1586.out 1; have hfz83_2 := blk_frozen BK1586.out 2; have hfz83_3 := blk_frozen BK1586.out 3))
     refine bodyPost_ret (results_ct rfl _ _ gb1586 26 #[.int .i64 t1587, .slice Ao76 t1588.length co76, .slice Ao77 t1591.length co77, .slice Ao78 t1594.length co78] (0, 0) _ rfl (bp_ BK1586.out) Try.underlying26 rfl (by kernel_rfl)) rfl ?_
     exact ⟨_, _, _, er_, by (with_reducible repeat (first | apply Kd.R_alloc | apply Kd.R_drewN | apply Kd.R_drew)); exact Kd.R_mono (Kd.R_far (p := ⟨gb1586, 3, none⟩) (Kd.R_far (p := ⟨gb1586, 2, none⟩) (Kd.R_far (p := ⟨gb1586, 1, none⟩) (Kd.R_far (p := ⟨gb1586, 0, none⟩) (Kd.R_types HO1590.out BK1586.out (by decide)) (fun _ hk => hk.2) (.int .i64 t1587)) (fun _ hk => hk.2) (.slice Ao76 t1588.length co76)) (fun _ hk => hk.2) (.slice Ao77 t1591.length co77)) (fun _ hk => hk.2) (.slice Ao78 t1594.length co78)) (fun _ hk => ⟨hk.1.1, hk.1.2⟩), by (with_reducible repeat (first | apply Kd.R_alloc | apply Kd.R_drewN | apply Kd.R_drew)); exact Kd.R_mono (Kd.R_far (p := ⟨gb1586, 3, none⟩) (Kd.R_far (p := ⟨gb1586, 2, none⟩) (Kd.R_far (p := ⟨gb1586, 1, none⟩) (Kd.R_far (p := ⟨gb1586, 0, none⟩) (Kd.R_types HO1593.out BK1586.out (by decide)) (fun _ hk => hk.2) (.int .i64 t1587)) (fun _ hk => hk.2) (.slice Ao76 t1588.length co76)) (fun _ hk => hk.2) (.slice Ao77 t1591.length co77)) (fun _ hk => hk.2) (.slice Ao78 t1594.length co78)) (fun _ hk => ⟨hk.1.1, hk.1.2⟩), by (with_reducible repeat (first | apply Kd.R_alloc | apply Kd.R_drewN | apply Kd.R_drew)); exact Kd.R_mono (Kd.R_far (p := ⟨gb1586, 3, none⟩) (Kd.R_far (p := ⟨gb1586, 2, none⟩) (Kd.R_far (p := ⟨gb1586, 1, none⟩) (Kd.R_far (p := ⟨gb1586, 0, none⟩) (Kd.R_types HO1596.out BK1586.out (by decide)) (fun _ hk => hk.2) (.int .i64 t1587)) (fun _ hk => hk.2) (.slice Ao76 t1588.length co76)) (fun _ hk => hk.2) (.slice Ao77 t1591.length co77)) (fun _ hk => hk.2) (.slice Ao78 t1594.length co78)) (fun _ hk => ⟨hk.1.1, hk.1.2⟩), is_l1Cur_ HI0.out, by repeat (first | (with_reducible first | exact HB.out | apply below_alloc | apply pw_below_drewN | apply below_drew1 | refine below_set ?_ (IsS_l1Cur.ge HI0.out) | refine below_set ?_ GE1586.out | refine below_set ?_ GE1600.out) | exact HB.out), by repeat (first | (with_reducible first | exact HK.out | apply KeepBut.set_ | apply keep_drewN | apply keep_drew | apply keep_alloc | refine keep_far ?_ GW1586.out _ | refine keep_far ?_ GW1600.out _) | exact HK.out)⟩
    ·
     rw [if_neg c68] at H
     have c68b0 : (t1601 == 3) = false := beq_eq_false_iff_ne.mpr c68
     have c68b1 : (t1601 != 3) = true := bne_iff_ne.mpr c68
     by_cases c84 : t1601 = 4
     ·
      rw [if_pos c84] at H
      have c84b0 : (t1601 == 4) = true := beq_iff_eq.mpr c84
      have c84b1 : (t1601 != 4) = false := bne_eq_false_iff_eq.mpr c84
      clear c84
      obtain ⟨y1628, hy1628⟩ : ∃ y_ : List Int, y_ = (([(-1), 100001] : List Int)) := ⟨_, rfl⟩
      replace H : ((spec_l1PickInt.f s0_0 t1602 t1603 y1628).bind fun bt1631 => (if 0 < (t1594.length : Int) then (some (t1587, t1588, t1591, (t1594.set (0 : Int).toNat bt1631.1), t1597, bt1631.2.1, bt1631.2.2)) else (none))) = some (r1, r2, r3, r4, r5, r6, r7) := by first | (rw [hy1628]; with_reducible exact H) | (have H2_ := (Option.bind_some _ _).symm.trans H; rw [hy1628]; with_reducible exact H2_) | (have H2_ := (Option.bind_some _ _).symm.trans H; with_reducible exact H2_) | with_reducible exact H | (rw [hy1628]; exact H) | exact H
      have Ny1628 := Aside0.mk hy1628
      clear hy1628
      replace H := Option.bind_eq_some_iff.mp H
      obtain ⟨⟨t1631, t1632, t1633⟩, A850, H⟩ := H
      replace H : (if 0 < (t1594.length : Int) then (some (t1587, t1588, t1591, (t1594.set (0 : Int).toNat t1631), t1597, t1632, t1633)) else (none)) = some (r1, r2, r3, r4, r5, r6, r7) := H
      have A85 := Aside0.mk A850
      clear A850
      by_cases c86 : 0 < (t1594.length : Int)
      ·
       rw [if_pos c86] at H
       have c86b0 : decide (0 < (t1594.length : Int)) = true := decide_eq_true c86
       have c86b1 : decide (0 < t1594.length) = true := decide_eq_true (by omega)
       clear c86
       obtain ⟨y1634, hy1634⟩ : ∃ y_ : List Int, y_ = (t1594.set (0 : Int).toNat t1631) := ⟨_, rfl⟩
       replace H : (some (t1587, t1588, t1591, y1634, t1597, t1632, t1633)) = some (r1, r2, r3, r4, r5, r6, r7) := by first | (rw [hy1634]; with_reducible exact H) | (have H2_ := (Option.bind_some _ _).symm.trans H; rw [hy1634]; with_reducible exact H2_) | (have H2_ := (Option.bind_some _ _).symm.trans H; with_reducible exact H2_) | with_reducible exact H | (rw [hy1634]; exact H) | exact H
       have Ny1634 := Aside0.mk hy1634
       clear hy1634
       simp only [Option.some.injEq, Prod.mk.injEq] at H
       obtain ⟨rfl, rfl, rfl, rfl, rfl, rfl, rfl⟩ := H
       go_enter Try.func77, Try.ntmps77
       try go_wp2_with (first | ((with_reducible refine gate_dst (N := 2) rfl ?_); refine box_event ?hg (N := 2) ?hd (cs := #[.int .i64 0, .slice none 0 0, .slice none 0 0, .slice none 0 0]) (t := 26) ?hr ?_; (case hd => rfl); (case hg => rfl); (case hr => first | (go_simp; done) | (go_simp; rfl)); intro gb1586 hg w88 hbox hb; have n0_ := Aside0.mk (IsS_l1Cur.below (is_l1Cur_ HI0.out) hb); have n1_ := Aside0.mk (KeepBut.trans (hk_ HK.out) (KeepBut.of_below hb g none) (.inl rfl)); have n2_ := Aside0.mk (below_step (hi_ HB.out) hb); have n3_ := Aside0.mk (hbox); have n4_ := Aside0.mk ((by rw [hg]; exact (keep_size (w := w) (g := g) (row := none) (hk_ HK.out)) : w.heap.size ≤ gb1586)); have n5_ := Aside0.mk ((Nat.le_trans HW0.out (by rw [hg]; exact (keep_size (w := w) (g := g) (row := none) (hk_ HK.out)) : w.heap.size ≤ gb1586) : w0.heap.size ≤ gb1586)); have n6_ := Aside0.mk ((by rw [hg]; exact Nat.ne_of_lt (IsS_l1Cur.lt (show IsS_l1Cur w0 _ g s0_0 s0_1 s0_2 from is_l1Cur_ HI0.out)) : g ≠ gb1586)); have n7_ := Aside0.mk ((by rw [hg]; exact Nat.ne_of_gt (IsS_l1Cur.lt (show IsS_l1Cur w0 _ g s0_0 s0_1 s0_2 from is_l1Cur_ HI0.out)) : gb1586 ≠ g)); clear HI0; clear HK; clear HB; have HI0 := n0_; have HK := n1_; have HB := n2_; have BK1586 := n3_; have GW1586 := n4_; have GE1586 := n5_; have NB0_1586 := n6_; have NB1586_0 := n7_; clear n0_ n1_ n2_ n3_ n4_ n5_ n6_ n7_; clear hb hbox hg) | ((with_reducible refine gate_callee (f := 145) rfl ?_); refine goesL_ (some 8) rfl rfl Try.func145 (by kernel_rfl) rfl #[.pointer (some ⟨g, 0, none⟩)] rfl sm_ ?_; (with_reducible refine (spec_l5DrawRight.calls k g s0_0 s0_1 s0_2 t1587 t1588 t1591 t1594 t1597 t1598 t1599 w0 _ ?side1 ?side2 A2.out).mono ?_); (case side1 => repeat (first | (with_reducible first | exact HI0.out | apply IsS_l1Cur.alloc | apply IsS_l1Cur.drewN | apply IsS_l1Cur.drew | apply IsS_l1Cur.set_1 | apply IsS_l1Cur.set_2 | refine IsS_l1Cur.far ?_ NB0_1586.out _) | exact HI0.out)); (case side2 => repeat (first | (with_reducible first | exact HB.out | apply below_alloc | apply pw_below_drewN | apply below_drew1 | refine below_set ?_ (IsS_l1Cur.ge HI0.out) | refine below_set ?_ GE1586.out) | exact HB.out)); rintro e w89 ⟨v1589, v1592, v1595, rfl, ho0, ho1, ho2, hi, hb, hk⟩; refine ⟨_, rfl, ?_⟩; have n0_ := Aside0.mk (KeepBut.blk hk (g' := gb1586) (o := .cells #[.int .i64 0, .slice none 0 0, .slice none 0 0, .slice none 0 0] 26 (0, 0)) (bq_ BK1586.out) NB1586_0.out (by simp)); have n1_ := Aside0.mk (Kd.R_lower ho0 (keep_size (w := w) (g := g) (row := none) (hk_ HK.out))); have n2_ := Aside0.mk (Kd.R_lower ho1 (keep_size (w := w) (g := g) (row := none) (hk_ HK.out))); have n3_ := Aside0.mk (Kd.R_lower ho2 (keep_size (w := w) (g := g) (row := none) (hk_ HK.out))); have n4_ := Aside0.mk (KeepBut.trans (hk_ HK.out) hk (.inl rfl)); have n5_ := Aside0.mk (hb); have n6_ := Aside0.mk (hi); clear BK1586; clear HK; clear HB; clear HI0; have BK1586 := n0_; have HO1590 := n1_; have HO1593 := n2_; have HO1596 := n3_; have HK := n4_; have HB := n5_; have HI0 := n6_; clear n0_ n1_ n2_ n3_ n4_ n5_ n6_; (try clear hb); (try clear hb2); (try clear hk); (try clear hi); (try clear ho0); (try clear ho1); (try clear ho2)) | ((with_reducible refine gate_dst (N := 4) rfl ?_); refine box_event ?hg (N := 4) ?hd (cs := #[.int .i64 0, .slice none 0 0, .slice none 0 0, .slice none 0 0]) (t := 26) ?hr ?_; (case hd => rfl); (case hg => rfl); (case hr => first | (go_simp; done) | (go_simp; rfl)); intro gb1600 hg w90 hbox hb; have n0_ := Aside0.mk (Kd.R_below (rq_ HO1590.out) hb); have n1_ := Aside0.mk (Kd.R_below (rq_ HO1593.out) hb); have n2_ := Aside0.mk (Kd.R_below (rq_ HO1596.out) hb); have n3_ := Aside0.mk (IsS_l1Cur.below (is_l1Cur_ HI0.out) hb); have n4_ := Aside0.mk (bb_ BK1586.out hb); have n5_ := Aside0.mk (KeepBut.trans (hk_ HK.out) (KeepBut.of_below hb g none) (.inl rfl)); have n6_ := Aside0.mk (below_step (hi_ HB.out) hb); have n7_ := Aside0.mk (hbox); have n8_ := Aside0.mk ((by rw [hg]; exact (keep_size (w := w) (g := g) (row := none) (hk_ HK.out)) : w.heap.size ≤ gb1600)); have n9_ := Aside0.mk ((Nat.le_trans HW0.out (by rw [hg]; exact (keep_size (w := w) (g := g) (row := none) (hk_ HK.out)) : w.heap.size ≤ gb1600) : w0.heap.size ≤ gb1600)); have n10_ := Aside0.mk ((nl_ BK1586.out hg : gb1586 ≠ gb1600)); have n11_ := Aside0.mk ((ng_ BK1586.out hg : gb1600 ≠ gb1586)); have n12_ := Aside0.mk ((by rw [hg]; exact Nat.ne_of_lt (IsS_l1Cur.lt (show IsS_l1Cur w0 _ g s0_0 t1598 t1599 from is_l1Cur_ HI0.out)) : g ≠ gb1600)); have n13_ := Aside0.mk ((by rw [hg]; exact Nat.ne_of_gt (IsS_l1Cur.lt (show IsS_l1Cur w0 _ g s0_0 t1598 t1599 from is_l1Cur_ HI0.out)) : gb1600 ≠ g)); clear HO1590; clear HO1593; clear HO1596; clear HI0; clear BK1586; clear HK; clear HB; have HO1590 := n0_; have HO1593 := n1_; have HO1596 := n2_; have HI0 := n3_; have BK1586 := n4_; have HK := n5_; have HB := n6_; have BK1600 := n7_; have GW1600 := n8_; have GE1600 := n9_; have NB1586_1600 := n10_; have NB1600_1586 := n11_; have NB0_1600 := n12_; have NB1600_0 := n13_; clear n0_ n1_ n2_ n3_ n4_ n5_ n6_ n7_ n8_ n9_ n10_ n11_ n12_ n13_; clear hb hbox hg; have hnb91 := NB1600_1586.out; have hnc91 := NB1586_1600.out; have hnb92 := NB1600_0.out; have hnc92 := NB0_1600.out; have hcz93_0 : w90.cell? ⟨gb1600, 0, none⟩ = some (.int .i64 0) := (blk_cell BK1600.out 0).trans rfl; have hcz93_1 : w90.cell? ⟨gb1600, 1, none⟩ = some (.slice none 0 0) := (blk_cell BK1600.out 1).trans rfl; have hcz93_2 : w90.cell? ⟨gb1600, 2, none⟩ = some (.slice none 0 0) := (blk_cell BK1600.out 2).trans rfl; have hcz93_3 : w90.cell? ⟨gb1600, 3, none⟩ = some (.slice none 0 0) := (blk_cell BK1600.out 3).trans rfl; have hfz93_0 := blk_frozen BK1600.out 0; have hfz93_1 := blk_frozen BK1600.out 1; have hfz93_2 := blk_frozen BK1600.out 2; have hfz93_3 := blk_frozen BK1600.out 3; obtain ⟨Ao94, co94, eo94⟩ := Kd.R_slice HO1590.out; subst eo94; obtain ⟨Ao95, co95, eo95⟩ := Kd.R_slice HO1593.out; subst eo95; obtain ⟨Ao96, co96, eo96⟩ := Kd.R_slice HO1596.out; subst eo96) | ((with_reducible refine gate_callee (f := 78) rfl ?_); refine goesL_ (some 12) rfl rfl Try.func78 (by kernel_rfl) rfl #[.pointer (some ⟨g, 0, none⟩), .int .i64 12] rfl sm_ ?_; (with_reducible refine (spec_l1Below.calls g s0_0 t1598 t1599 12 t1601 t1602 t1603 w0 _ ?side1 ?side2 A3.out).mono ?_); (case side1 => repeat (first | (with_reducible first | exact HI0.out | apply IsS_l1Cur.alloc | apply IsS_l1Cur.drewN | apply IsS_l1Cur.drew | apply IsS_l1Cur.set_1 | apply IsS_l1Cur.set_2 | refine IsS_l1Cur.far ?_ NB0_1586.out _ | refine IsS_l1Cur.far ?_ NB0_1600.out _) | exact HI0.out)); (case side2 => repeat (first | (with_reducible first | exact HB.out | apply below_alloc | apply pw_below_drewN | apply below_drew1 | refine below_set ?_ (IsS_l1Cur.ge HI0.out) | refine below_set ?_ GE1586.out | refine below_set ?_ GE1600.out) | exact HB.out)); rintro e w97 ⟨rfl, hi, hb, hk⟩; refine ⟨_, rfl, ?_⟩; have n0_ := Aside0.mk (KeepBut.blk hk (g' := gb1586) (o := .cells #[.int .i64 0, .slice none 0 0, .slice none 0 0, .slice none 0 0] 26 (0, 0)) (bf_ NB1586_1600.out BK1586.out) NB1586_0.out (by simp)); have n1_ := Aside0.mk (Kd.R_mono (Kd.R_keep (IsS_l1Cur.apart (show IsS_l1Cur w0 _ g s0_0 t1598 t1599 from is_l1Cur_ HI0.out) (rk_ HO1590.out BK1600.out) (by decide)) hk (fun _ h => h.2)) (fun _ h => h.1)); have n2_ := Aside0.mk (Kd.R_mono (Kd.R_keep (IsS_l1Cur.apart (show IsS_l1Cur w0 _ g s0_0 t1598 t1599 from is_l1Cur_ HI0.out) (rk_ HO1593.out BK1600.out) (by decide)) hk (fun _ h => h.2)) (fun _ h => h.1)); have n3_ := Aside0.mk (Kd.R_mono (Kd.R_keep (IsS_l1Cur.apart (show IsS_l1Cur w0 _ g s0_0 t1598 t1599 from is_l1Cur_ HI0.out) (rk_ HO1596.out BK1600.out) (by decide)) hk (fun _ h => h.2)) (fun _ h => h.1)); have n4_ := Aside0.mk (KeepBut.blk hk (g' := gb1600) (o := .cells #[.int .i64 t1587, .slice Ao94 t1588.length co94, .slice Ao95 t1591.length co95, .slice Ao96 t1594.length co96] 26 (0, 0)) (bp_ BK1600.out) NB1600_0.out (by simp)); have n5_ := Aside0.mk (KeepBut.trans (hk_ HK.out) hk (.inl rfl)); have n6_ := Aside0.mk (hb); have n7_ := Aside0.mk (hi); clear BK1586; clear HO1590; clear HO1593; clear HO1596; clear BK1600; clear HK; clear HB; clear HI0; have BK1586 := n0_; have HO1590 := n1_; have HO1593 := n2_; have HO1596 := n3_; have BK1600 := n4_; have HK := n5_; have HB := n6_; have HI0 := n7_; clear n0_ n1_ n2_ n3_ n4_ n5_ n6_ n7_; (try clear hb); (try clear hb2); (try clear hk); (try clear hi)))
       have n0_ := Aside0.mk (Kd.R_drew HO1590.out)
       have n1_ := Aside0.mk (Kd.R_drew HO1593.out)
       have n2_ := Aside0.mk (Kd.R_drew HO1596.out)
       have n3_ := Aside0.mk (blk_drew BK1586.out)
       have n4_ := Aside0.mk (blk_drew BK1600.out)
       have n5_ := Aside0.mk (IsS_l1Cur.drew HI0.out)
       have n6_ := Aside0.mk (keep_drew HK.out)
       have n7_ := Aside0.mk (below_drew1 HB.out)
       clear HO1590; clear HO1593
       clear HO1596; clear BK1586
       clear BK1600; clear HI0
       clear HK; clear HB
       have HO1590 := n0_
       have HO1593 := n1_
       have HO1596 := n2_
       have BK1586 := n3_
       have BK1600 := n4_
       have HI0 := n5_
       have HK := n6_
       have HB := n7_
       clear n0_ n1_ n2_ n3_ n4_ n5_ n6_ n7_
       refine start_ (n := 7) (S := fun w' => w'.cell? ⟨gb1600, 0, none⟩ = some (.int .i64 t1587) ∧ w'.cell? ⟨gb1600, 1, none⟩ = some (.slice Ao94 t1588.length co94) ∧ w'.cell? ⟨gb1600, 2, none⟩ = some (.slice Ao95 t1591.length co95) ∧ w'.cell? ⟨gb1600, 3, none⟩ = some (.slice Ao96 t1594.length co96)) (ds := [6]) #[false, false, false, false, false, false, false] (by kernel_rfl) rfl rfl ⟨(blk_cell BK1600.out 0).trans rfl, (blk_cell BK1600.out 1).trans rfl, (blk_cell BK1600.out 2).trans rfl, (blk_cell BK1600.out 3).trans rfl⟩ (fun hHeld => ?_)
       generalize w97.drew = w98 at HO1590 HO1593 HO1596 BK1586 BK1600 HI0 HK HB hHeld ⊢
       refine pure_ (i := 0) (N := some 44) (v := ?_) (a' := ?_) #[true, false, false, false, false, false, false] rfl rfl (by kernel_rfl) (fun _ _ _ h => h) (Or.inl ⟨by rfl, ?_⟩) ?_ ?_; rotate_left; (focus intro w'; go_simp; with_reducible rfl); rotate_left; (focus simp only [Act.put, List.setIfInBounds_toArray, List.set_cons_zero, List.set_cons_succ, i64_w, i32_w]; rfl)
       refine pure_ (i := 2) (N := some 46) (v := ?_) (a' := ?_) #[true, false, true, false, false, false, false] rfl rfl (by kernel_rfl) (fun _ _ _ h => h) (Or.inl ⟨by rfl, ?_⟩) ?_ ?_; rotate_left; (focus intro w'; go_simp; with_reducible rfl); rotate_left; (focus simp only [Act.put, List.setIfInBounds_toArray, List.set_cons_zero, List.set_cons_succ, i64_w, i32_w]; rfl)
       refine take_ (i := 1) (N := some 45) (v := ?_) (a' := ?_) #[true, true, true, false, false, false, false] rfl rfl (by kernel_rfl) (fun _ _ _ h => h) (Or.inl ⟨by rfl, ?_⟩) hHeld ?_ ?_
       rotate_left
       ·
        rintro w' ⟨s0, s1, s2, s3⟩
        go_simp
        with_reducible rfl
       rotate_left; (focus simp only [Act.put, List.setIfInBounds_toArray, List.set_cons_zero, List.set_cons_succ, i64_w, i32_w]; rfl)
       refine one_ (i := 3) (N := some 47) #[true, true, true, true, false, false, false] rfl rfl (by kernel_rfl) (by decide) (fun K hK => ?_)
       refine Kd.R_lit_step (Kd.int .i64) _ 3 ?hg (N := 47) ?hd (xs := ([(-1), 100001] : List Int)) (inner := [.int .i64 (-1), .int .i64 100001]) (ok := fun _ => True) (okp := fun _ => True) ?hr ?hp (fun _ hk => hk) trivial (Below.refl _ _) (Nat.le_refl _) (by simp) ?_; (case hd => rfl); (case hg => rfl); (case hr => first | (go_simp; done) | (go_simp; rfl)); (case hp => exact (Reps.one (show Kd.M (Kd.int .i64) _ _ _ (-1) [.int .i64 (-1)] from rfl) (Reps.one (show Kd.M (Kd.int .i64) _ _ _ 100001 [.int .i64 100001] from rfl) (Reps.none _ _))))
       intro v1629 w99 ho100 hb hg_ hnew_
       clear hg_ hnew_
       (first | rw [← Ny1628.out] at ho100 | (simp only [Int.reduceToNat] at ho100; rw [← Ny1628.out] at ho100))
       have n0_ := Aside0.mk (Kd.R_elder' (rq_ HO1590.out) (Kd.R_base ho100) hb)
       have n1_ := Aside0.mk (Kd.R_elder' (rq_ HO1593.out) (Kd.R_base ho100) hb)
       have n2_ := Aside0.mk (Kd.R_elder' (rq_ HO1596.out) (Kd.R_base ho100) hb)
       have n3_ := Aside0.mk (Kd.R_lower (Kd.R_new' (Kd.R_new' (Kd.R_new' ho100 (Kd.R_lt (rq_ HO1590.out))) (Kd.R_lt (rq_ HO1593.out))) (Kd.R_lt (rq_ HO1596.out))) (keep_size (w := w) (g := g) (row := none) (hk_ HK.out)))
       have n4_ := Aside0.mk (IsS_l1Cur.below (is_l1Cur_ HI0.out) hb)
       have n5_ := Aside0.mk (bb_ BK1586.out hb)
       have n6_ := Aside0.mk (bb_ BK1600.out hb)
       have n7_ := Aside0.mk (KeepBut.trans (hk_ HK.out) (KeepBut.of_below hb g none) (.inl rfl))
       have n8_ := Aside0.mk (below_step (hi_ HB.out) hb)
       clear HO1590; clear HO1593
       clear HO1596; clear HI0
       clear BK1586; clear BK1600
       clear HK; clear HB
       have HO1590 := n0_
       have HO1593 := n1_
       have HO1596 := n2_
       have HO1630 := n3_
       have HI0 := n4_
       have BK1586 := n5_
       have BK1600 := n6_
       have HK := n7_
       have HB := n8_
       clear n0_ n1_ n2_ n3_ n4_ n5_ n6_ n7_ n8_; clear hb ho100
       obtain ⟨Ao101, co101, eo101⟩ := Kd.R_slice HO1630.out
       (first | subst eo101 | (injection eo101 with f1_ f2_ f3_; have f4_ := f1_.symm; have f5_ := f3_.symm; clear f1_ f2_ f3_; subst f4_; subst f5_))
       refine hK.out _ _ ⟨(blk_cell BK1600.out 0).trans rfl, (blk_cell BK1600.out 1).trans rfl, (blk_cell BK1600.out 2).trans rfl, (blk_cell BK1600.out 3).trans rfl⟩ (fun hHeld => ?_)
       clear hK K
       refine norm_ (a' := ?_) ?_ ?_
       rotate_left
       ·
        show Act.put _ (some 47) _ = _
        simp only [Act.put, List.setIfInBounds_toArray, List.set_cons_zero, List.set_cons_succ, i64_w, i32_w]
        rfl
       refine one_ (i := 4) (N := some 48) #[true, true, true, true, true, false, false] rfl rfl (by kernel_rfl) (by decide) (fun K hK => ?_)
       refine goes_ Try.func104 (by kernel_rfl) rfl #[.pointer (some ⟨g, 0, none⟩), .slice Ao101 y1628.length co101] (by rfl) rfl rfl sm_ ?_
       with_reducible refine (spec_l1PickInt.calls g s0_0 t1602 t1603 _ _ y1628 t1631 t1632 t1633 w0 _ ?side1 ?side2 ?side3 ?side4 ?side5 A85.out).mono ?_
       (case side1 => repeat (first | (with_reducible first | exact HI0.out | apply IsS_l1Cur.alloc | apply IsS_l1Cur.drewN | apply IsS_l1Cur.drew | apply IsS_l1Cur.set_1 | apply IsS_l1Cur.set_2 | refine IsS_l1Cur.far ?_ NB0_1586.out _ | refine IsS_l1Cur.far ?_ NB0_1600.out _) | exact HI0.out))
       (case side2 => repeat (first | (with_reducible first | exact HB.out | apply below_alloc | apply pw_below_drewN | apply below_drew1 | refine below_set ?_ (IsS_l1Cur.ge HI0.out) | refine below_set ?_ GE1586.out | refine below_set ?_ GE1600.out) | exact HB.out))
       (case side3 => repeat (first | exact (Kd.R_reads' HO1630.out).2.2 | (with_reducible refine Kd.C_alloc ?_ _) | (with_reducible refine Kd.C_drewN ?_ _) | (with_reducible refine Kd.C_drew ?_)))
       (case side4 => exact (Kd.R_reads' HO1630.out).2.1)
       (case side5 => exact far_slice (IsS_l1Cur.own_ne HI0.out HO1630.out (by decide)))
       rintro e w102 ⟨rfl, hi, hb, hk⟩
       refine ⟨_, rfl, ?_⟩
       have n0_ := Aside0.mk (KeepBut.blk hk (g' := gb1586) (o := .cells #[.int .i64 0, .slice none 0 0, .slice none 0 0, .slice none 0 0] 26 (0, 0)) (bq_ BK1586.out) NB1586_0.out (by simp))
       have n1_ := Aside0.mk (Kd.R_mono (Kd.R_keep (IsS_l1Cur.apart (show IsS_l1Cur w0 _ g s0_0 t1602 t1603 from is_l1Cur_ HI0.out) (rq_ HO1590.out) (by decide)) hk (fun _ h => h.2)) (fun _ h => h.1))
       have n2_ := Aside0.mk (Kd.R_mono (Kd.R_keep (IsS_l1Cur.apart (show IsS_l1Cur w0 _ g s0_0 t1602 t1603 from is_l1Cur_ HI0.out) (rq_ HO1593.out) (by decide)) hk (fun _ h => h.2)) (fun _ h => h.1))
       have n3_ := Aside0.mk (Kd.R_mono (Kd.R_keep (IsS_l1Cur.apart (show IsS_l1Cur w0 _ g s0_0 t1602 t1603 from is_l1Cur_ HI0.out) (rq_ HO1596.out) (by decide)) hk (fun _ h => h.2)) (fun _ h => h.1))
       have n4_ := Aside0.mk (KeepBut.blk hk (g' := gb1600) (o := .cells #[.int .i64 t1587, .slice Ao94 t1588.length co94, .slice Ao95 t1591.length co95, .slice Ao96 t1594.length co96] 26 (0, 0)) (bq_ BK1600.out) NB1600_0.out (by simp))
       have n5_ := Aside0.mk (Kd.R_mono (Kd.R_keep (IsS_l1Cur.apart (show IsS_l1Cur w0 _ g s0_0 t1602 t1603 from is_l1Cur_ HI0.out) (rq_ HO1630.out) (by decide)) hk (fun _ h => h.2)) (fun _ h => h.1))
       have n6_ := Aside0.mk (KeepBut.trans (hk_ HK.out) hk (.inl rfl))
       have n7_ := Aside0.mk (hb)
       have n8_ := Aside0.mk (hi)
       clear BK1586; clear HO1590
       clear HO1593; clear HO1596
       clear BK1600; clear HO1630
       clear HK; clear HB
       clear HI0
       have BK1586 := n0_
       have HO1590 := n1_
       have HO1593 := n2_
       have HO1596 := n3_
       have BK1600 := n4_
       have HO1630 := n5_
       have HK := n6_
       have HB := n7_
       have HI0 := n8_
       clear n0_ n1_ n2_ n3_ n4_ n5_ n6_ n7_ n8_
       (try clear hb)
       (try clear hb2)
       (try clear hk)
       (try clear hi)
       have p87 : 0 ≤ (0 : Int) := (by omega)
       have q87 : (0 : Int) < ((t1594.length : Int) : Int) := of_decide_eq_true (by first | (with_reducible assumption) | assumption)
       have qi87 : (0 < t1594.length) = True := eq_true (by omega)
       obtain ⟨go87, co87, eo87, gb87, gl87, cl87, HG87⟩ := Kd.R_form HO1596.out (by omega)
       (first | cases eo87 | (injection eo87 with ea_ en_ ec_; (first | subst ea_ | (injection ea_ with ea_; subst ea_)); subst ec_; clear en_))
       have GB87 := Aside0.mk gb87
       have GG87 := Aside0.mk HG87
       clear gb87 gl87 HG87
       obtain ⟨hx87_0, hf87_0⟩ := Kd.R_celln 0 HO1596.out (0 : Int) p87 q87
       (try rw [show ((0 : Int)).toNat = 0 from rfl] at hx87_0)
       (try simp only [Nat.reduceMul, Nat.zero_mul, Nat.zero_add, Nat.reduceAdd] at hx87_0)
       (try rw [show ((0 : Int)).toNat = 0 from rfl] at hf87_0)
       (try simp only [Nat.reduceMul, Nat.zero_mul, Nat.zero_add, Nat.reduceAdd] at hf87_0)
       replace p87 := eq_true p87
       replace q87 := eq_true q87
       have HN0_go87 := Aside0.mk (show g ≠ go87 from by have h_ := IsS_l1Cur.own_ne HI0.out HO1596.out (by decide); intro e_; exact h_ (by rw [e_]; rfl))
       have HP103 := Kd.R_putn HO1596.out (0 : Int) t1631
       rw [← Ny1634.out] at HP103
       have HQ103 := Aside0.mk HP103
       clear HP103
       refine hK.out _ _ ⟨(blk_cell BK1600.out 0).trans rfl, (blk_cell BK1600.out 1).trans rfl, (blk_cell BK1600.out 2).trans rfl, (blk_cell BK1600.out 3).trans rfl⟩ (fun hHeld => ?_)
       clear hK K
       refine norm_ (a' := ?_) ?_ ?_
       rotate_left
       ·
        show Act.put _ (some 48) _ = _
        simp only [Act.put, List.setIfInBounds_toArray, List.set_cons_zero, List.set_cons_succ, i64_w, i32_w]
        rfl
       refine pure_ (i := 5) (N := some 49) (v := ?_) (a' := ?_) #[true, true, true, true, true, true, false] rfl rfl (by kernel_rfl) (fun _ _ _ h => h) (Or.inl ⟨by rfl, ?_⟩) ?_ ?_; rotate_left; (focus intro w'; go_simp; with_reducible rfl); rotate_left; (focus simp only [Act.put, List.setIfInBounds_toArray, List.set_cons_zero, List.set_cons_succ, i64_w, i32_w]; rfl)
       refine last_ (i := 6) (N := none) #[true, true, true, true, true, true, true] rfl rfl (by kernel_rfl) (by decide) (fun K hK => ?_)
       refine skip_ (w1 := ?_) (by rfl) rfl ?_ ?_
       rotate_left; (focus go_simp; rfl)
       refine hK.out _ _ ?_
       clear hK K
       refine done_ (by kernel_rfl) ?_
       have n0_ : Aside0 (Kd.R (Kd.int .i64) 3 (w102.setCell ⟨go87, 0, none⟩ (.int .i64 t1631)) w.heap.size (fun k_ => some k_ ≠ (.slice Ao95 t1591.length co95 : Value).ownBlock ∧ some k_ ≠ (.slice (some ⟨go87, 0, none⟩) t1594.length co96 : Value).ownBlock ∧ some k_ ≠ (.slice Ao101 y1628.length co101 : Value).ownBlock) (.slice Ao94 t1588.length co94) t1588) := ⟨by (with_reducible repeat (first | apply Kd.R_alloc | apply Kd.R_drewN | apply Kd.R_drew)); exact Kd.R_mono (Kd.R_far (p := ⟨go87, 0, none⟩) (Kd.R_mono HO1590.out (fun k_ hk => (⟨hk, fun e_ => hk.1.2 (by rw [e_]; rfl)⟩ : _ ∧ k_ ≠ go87))) (fun _ hk => hk.2) (.int .i64 t1631)) (fun _ hk => ⟨hk.1.1.1, ⟨hk.1.1.2, hk.1.2⟩⟩)⟩
       have n1_ : Aside0 (Kd.R (Kd.int .i64) 3 (w102.setCell ⟨go87, 0, none⟩ (.int .i64 t1631)) w.heap.size (fun k_ => some k_ ≠ (.slice Ao94 t1588.length co94 : Value).ownBlock ∧ some k_ ≠ (.slice (some ⟨go87, 0, none⟩) t1594.length co96 : Value).ownBlock ∧ some k_ ≠ (.slice Ao101 y1628.length co101 : Value).ownBlock) (.slice Ao95 t1591.length co95) t1591) := ⟨by (with_reducible repeat (first | apply Kd.R_alloc | apply Kd.R_drewN | apply Kd.R_drew)); exact Kd.R_mono (Kd.R_far (p := ⟨go87, 0, none⟩) (Kd.R_mono HO1593.out (fun k_ hk => (⟨hk, fun e_ => hk.1.2 (by rw [e_]; rfl)⟩ : _ ∧ k_ ≠ go87))) (fun _ hk => hk.2) (.int .i64 t1631)) (fun _ hk => ⟨hk.1.1.1, ⟨hk.1.1.2, hk.1.2⟩⟩)⟩
       have n2_ : Aside0 (Kd.R (Kd.int .i64) 3 (w102.setCell ⟨go87, 0, none⟩ (.int .i64 t1631)) w.heap.size (fun k_ => some k_ ≠ (.slice Ao94 t1588.length co94 : Value).ownBlock ∧ some k_ ≠ (.slice Ao95 t1591.length co95 : Value).ownBlock ∧ some k_ ≠ (.slice Ao101 y1628.length co101 : Value).ownBlock) (.slice (some ⟨go87, 0, none⟩) t1594.length co96) y1634) := ⟨rm_ HQ103.out⟩
       have n3_ : Aside0 (Kd.R (Kd.int .i64) 3 (w102.setCell ⟨go87, 0, none⟩ (.int .i64 t1631)) w.heap.size (fun k_ => some k_ ≠ (.slice Ao94 t1588.length co94 : Value).ownBlock ∧ some k_ ≠ (.slice Ao95 t1591.length co95 : Value).ownBlock ∧ some k_ ≠ (.slice (some ⟨go87, 0, none⟩) t1594.length co96 : Value).ownBlock) (.slice Ao101 y1628.length co101) y1628) := ⟨by (with_reducible repeat (first | apply Kd.R_alloc | apply Kd.R_drewN | apply Kd.R_drew)); exact Kd.R_mono (Kd.R_far (p := ⟨go87, 0, none⟩) (Kd.R_mono HO1630.out (fun k_ hk => (⟨hk, fun e_ => hk.2 (by rw [e_]; rfl)⟩ : _ ∧ k_ ≠ go87))) (fun _ hk => hk.2) (.int .i64 t1631)) (fun _ hk => ⟨hk.1.1.1.2, ⟨hk.1.1.2, hk.1.2⟩⟩)⟩
       have n4_ : Aside0 ((w102.setCell ⟨go87, 0, none⟩ (.int .i64 t1631)).heap[gb1586]? = some (.cells #[.int .i64 0, .slice none 0 0, .slice none 0 0, .slice none 0 0] 26 (0, 0))) := ⟨by (with_reducible repeat (first | refine blk_drewN ?_ _ | refine blk_drew ?_ | refine blk_alloc ?_ _)); refine blk_far ?_ (by have h_ := Kd.R_ne HO1596.out BK1586.out (by decide); intro e_; exact h_ (by rw [e_]; rfl)) _; (with_reducible repeat (first | refine blk_drewN ?_ _ | refine blk_drew ?_ | refine blk_alloc ?_ _)); exact BK1586.out⟩
       have n5_ : Aside0 ((w102.setCell ⟨go87, 0, none⟩ (.int .i64 t1631)).heap[gb1600]? = some (.cells #[.int .i64 t1587, .slice Ao94 t1588.length co94, .slice Ao95 t1591.length co95, .slice (some ⟨go87, 0, none⟩) t1594.length co96] 26 (0, 0))) := ⟨by (with_reducible repeat (first | refine blk_drewN ?_ _ | refine blk_drew ?_ | refine blk_alloc ?_ _)); refine blk_far ?_ (by have h_ := Kd.R_ne HO1596.out BK1600.out (by decide); intro e_; exact h_ (by rw [e_]; rfl)) _; (with_reducible repeat (first | refine blk_drewN ?_ _ | refine blk_drew ?_ | refine blk_alloc ?_ _)); exact BK1600.out⟩
       have n6_ : Aside0 (IsS_l1Cur w0 (w102.setCell ⟨go87, 0, none⟩ (.int .i64 t1631)) g s0_0 t1632 t1633) := ⟨is_l1Cur_ HI0.out⟩
       have n7_ : Aside0 (KeepBut w (w102.setCell ⟨go87, 0, none⟩ (.int .i64 t1631)) g none) := ⟨by repeat (first | (with_reducible first | exact HK.out | apply KeepBut.set_ | apply keep_drewN | apply keep_drew | apply keep_alloc | refine keep_far ?_ GB87.out _ | refine keep_far ?_ GW1586.out _ | refine keep_far ?_ GW1600.out _) | exact HK.out)⟩
       have n8_ : Aside0 (Below w0.heap.size w0 (w102.setCell ⟨go87, 0, none⟩ (.int .i64 t1631))) := ⟨by repeat (first | (with_reducible first | exact HB.out | apply below_alloc | apply pw_below_drewN | apply below_drew1 | refine below_set ?_ (Nat.le_trans HL.out GB87.out) | refine below_set ?_ (IsS_l1Cur.ge HI0.out) | refine below_set ?_ GE1586.out | refine below_set ?_ GE1600.out) | exact HB.out)⟩
       (try clear HO1590)
       (try clear HO1593)
       (try clear HO1596)
       (try clear HO1630)
       (try clear BK1586)
       (try clear BK1600)
       (try clear HI0)
       (try clear HK)
       (try clear HB)
       generalize (w102.setCell ⟨go87, 0, none⟩ (.int .i64 t1631)) = w104 at n0_ n1_ n2_ n3_ n4_ n5_ n6_ n7_ n8_ ⊢
       have HO1590 := n0_
       have HO1593 := n1_
       have HO1596 := n2_
       have HO1630 := n3_
       have BK1586 := n4_
       have BK1600 := n5_
       have HI0 := n6_
       have HK := n7_
       have HB := n8_
       clear n0_ n1_ n2_ n3_ n4_ n5_ n6_ n7_ n8_
       have hcz105_0 : w104.cell? ⟨gb1600, 0, none⟩ = some (.int .i64 t1587) := (blk_cell BK1600.out 0).trans rfl
       have hcz105_1 : w104.cell? ⟨gb1600, 1, none⟩ = some (.slice Ao94 t1588.length co94) := (blk_cell BK1600.out 1).trans rfl
       have hcz105_2 : w104.cell? ⟨gb1600, 2, none⟩ = some (.slice Ao95 t1591.length co95) := (blk_cell BK1600.out 2).trans rfl
       have hcz105_3 : w104.cell? ⟨gb1600, 3, none⟩ = some (.slice (some ⟨go87, 0, none⟩) t1594.length co96) := (blk_cell BK1600.out 3).trans rfl
       have hfz105_0 := blk_frozen BK1600.out 0
       have hfz105_1 := blk_frozen BK1600.out 1
       have hfz105_2 := blk_frozen BK1600.out 2
       have hfz105_3 := blk_frozen BK1600.out 3
       have hnb106 := NB1586_0.out
       have hnc106 := NB0_1586.out
       have hcz107_0 : w104.cell? ⟨gb1586, 0, none⟩ = some (.int .i64 0) := (blk_cell BK1586.out 0).trans rfl
       have hcz107_1 : w104.cell? ⟨gb1586, 1, none⟩ = some (.slice none 0 0) := (blk_cell BK1586.out 1).trans rfl
       have hcz107_2 : w104.cell? ⟨gb1586, 2, none⟩ = some (.slice none 0 0) := (blk_cell BK1586.out 2).trans rfl
       have hcz107_3 : w104.cell? ⟨gb1586, 3, none⟩ = some (.slice none 0 0) := (blk_cell BK1586.out 3).trans rfl
       have hfz107_0 := blk_frozen BK1586.out 0
       have hfz107_1 := blk_frozen BK1586.out 1
       have hfz107_2 := blk_frozen BK1586.out 2
       have hfz107_3 := blk_frozen BK1586.out 3
       try go_wp2
       refine bodyPost_ret (results_ct rfl _ _ gb1586 26 #[.int .i64 t1587, .slice Ao94 t1588.length co94, .slice Ao95 t1591.length co95, .slice (some ⟨go87, 0, none⟩) t1594.length co96] (0, 0) _ rfl (bp_ BK1586.out) Try.underlying26 rfl (by kernel_rfl)) rfl ?_
       exact ⟨_, _, _, er_, by (with_reducible repeat (first | apply Kd.R_alloc | apply Kd.R_drewN | apply Kd.R_drew)); exact Kd.R_mono (Kd.R_far (p := ⟨gb1586, 3, none⟩) (Kd.R_far (p := ⟨gb1586, 2, none⟩) (Kd.R_far (p := ⟨gb1586, 1, none⟩) (Kd.R_far (p := ⟨gb1586, 0, none⟩) (Kd.R_types HO1590.out BK1586.out (by decide)) (fun _ hk => hk.2) (.int .i64 t1587)) (fun _ hk => hk.2) (.slice Ao94 t1588.length co94)) (fun _ hk => hk.2) (.slice Ao95 t1591.length co95)) (fun _ hk => hk.2) (.slice (some ⟨go87, 0, none⟩) t1594.length co96)) (fun _ hk => ⟨hk.1.1, hk.1.2.1⟩), by (with_reducible repeat (first | apply Kd.R_alloc | apply Kd.R_drewN | apply Kd.R_drew)); exact Kd.R_mono (Kd.R_far (p := ⟨gb1586, 3, none⟩) (Kd.R_far (p := ⟨gb1586, 2, none⟩) (Kd.R_far (p := ⟨gb1586, 1, none⟩) (Kd.R_far (p := ⟨gb1586, 0, none⟩) (Kd.R_types HO1593.out BK1586.out (by decide)) (fun _ hk => hk.2) (.int .i64 t1587)) (fun _ hk => hk.2) (.slice Ao94 t1588.length co94)) (fun _ hk => hk.2) (.slice Ao95 t1591.length co95)) (fun _ hk => hk.2) (.slice (some ⟨go87, 0, none⟩) t1594.length co96)) (fun _ hk => ⟨hk.1.1, hk.1.2.1⟩), by (with_reducible repeat (first | apply Kd.R_alloc | apply Kd.R_drewN | apply Kd.R_drew)); exact Kd.R_mono (Kd.R_far (p := ⟨gb1586, 3, none⟩) (Kd.R_far (p := ⟨gb1586, 2, none⟩) (Kd.R_far (p := ⟨gb1586, 1, none⟩) (Kd.R_far (p := ⟨gb1586, 0, none⟩) (Kd.R_types HO1596.out BK1586.out (by decide)) (fun _ hk => hk.2) (.int .i64 t1587)) (fun _ hk => hk.2) (.slice Ao94 t1588.length co94)) (fun _ hk => hk.2) (.slice Ao95 t1591.length co95)) (fun _ hk => hk.2) (.slice (some ⟨go87, 0, none⟩) t1594.length co96)) (fun _ hk => ⟨hk.1.1, hk.1.2.1⟩), is_l1Cur_ HI0.out, by repeat (first | (with_reducible first | exact HB.out | apply below_alloc | apply pw_below_drewN | apply below_drew1 | refine below_set ?_ (IsS_l1Cur.ge HI0.out) | refine below_set ?_ GE1586.out | refine below_set ?_ GE1600.out) | exact HB.out), by repeat (first | (with_reducible first | exact HK.out | apply KeepBut.set_ | apply keep_drewN | apply keep_drew | apply keep_alloc | refine keep_far ?_ GW1586.out _ | refine keep_far ?_ GW1600.out _) | exact HK.out)⟩
      ·
       rw [if_neg c86] at H
       exact absurd H (by simp)
     ·
      rw [if_neg c84] at H
      have c84b0 : (t1601 == 4) = false := beq_eq_false_iff_ne.mpr c84
      have c84b1 : (t1601 != 4) = true := bne_iff_ne.mpr c84
      simp only [Option.some.injEq, Prod.mk.injEq] at H
      obtain ⟨rfl, rfl, rfl, rfl, rfl, rfl, rfl⟩ := H
      go_enter Try.func77, Try.ntmps77
      go_wp2_with (first | ((with_reducible refine gate_dst (N := 2) rfl ?_); refine box_event ?hg (N := 2) ?hd (cs := #[.int .i64 0, .slice none 0 0, .slice none 0 0, .slice none 0 0]) (t := 26) ?hr ?_; (case hd => rfl); (case hg => rfl); (case hr => first | (go_simp; done) | (go_simp; rfl)); intro gb1586 hg w108 hbox hb; have n0_ := Aside0.mk (IsS_l1Cur.below (is_l1Cur_ HI0.out) hb); have n1_ := Aside0.mk (KeepBut.trans (hk_ HK.out) (KeepBut.of_below hb g none) (.inl rfl)); have n2_ := Aside0.mk (below_step (hi_ HB.out) hb); have n3_ := Aside0.mk (hbox); have n4_ := Aside0.mk ((by rw [hg]; exact (keep_size (w := w) (g := g) (row := none) (hk_ HK.out)) : w.heap.size ≤ gb1586)); have n5_ := Aside0.mk ((Nat.le_trans HW0.out (by rw [hg]; exact (keep_size (w := w) (g := g) (row := none) (hk_ HK.out)) : w.heap.size ≤ gb1586) : w0.heap.size ≤ gb1586)); have n6_ := Aside0.mk ((by rw [hg]; exact Nat.ne_of_lt (IsS_l1Cur.lt (show IsS_l1Cur w0 _ g s0_0 s0_1 s0_2 from is_l1Cur_ HI0.out)) : g ≠ gb1586)); have n7_ := Aside0.mk ((by rw [hg]; exact Nat.ne_of_gt (IsS_l1Cur.lt (show IsS_l1Cur w0 _ g s0_0 s0_1 s0_2 from is_l1Cur_ HI0.out)) : gb1586 ≠ g)); clear HI0; clear HK; clear HB; have HI0 := n0_; have HK := n1_; have HB := n2_; have BK1586 := n3_; have GW1586 := n4_; have GE1586 := n5_; have NB0_1586 := n6_; have NB1586_0 := n7_; clear n0_ n1_ n2_ n3_ n4_ n5_ n6_ n7_; clear hb hbox hg) | ((with_reducible refine gate_callee (f := 145) rfl ?_); refine goesL_ (some 8) rfl rfl Try.func145 (by kernel_rfl) rfl #[.pointer (some ⟨g, 0, none⟩)] rfl sm_ ?_; (with_reducible refine (spec_l5DrawRight.calls k g s0_0 s0_1 s0_2 t1587 t1588 t1591 t1594 t1597 t1598 t1599 w0 _ ?side1 ?side2 A2.out).mono ?_); (case side1 => repeat (first | (with_reducible first | exact HI0.out | apply IsS_l1Cur.alloc | apply IsS_l1Cur.drewN | apply IsS_l1Cur.drew | apply IsS_l1Cur.set_1 | apply IsS_l1Cur.set_2 | refine IsS_l1Cur.far ?_ NB0_1586.out _) | exact HI0.out)); (case side2 => repeat (first | (with_reducible first | exact HB.out | apply below_alloc | apply pw_below_drewN | apply below_drew1 | refine below_set ?_ (IsS_l1Cur.ge HI0.out) | refine below_set ?_ GE1586.out) | exact HB.out)); rintro e w109 ⟨v1589, v1592, v1595, rfl, ho0, ho1, ho2, hi, hb, hk⟩; refine ⟨_, rfl, ?_⟩; have n0_ := Aside0.mk (KeepBut.blk hk (g' := gb1586) (o := .cells #[.int .i64 0, .slice none 0 0, .slice none 0 0, .slice none 0 0] 26 (0, 0)) (bq_ BK1586.out) NB1586_0.out (by simp)); have n1_ := Aside0.mk (Kd.R_lower ho0 (keep_size (w := w) (g := g) (row := none) (hk_ HK.out))); have n2_ := Aside0.mk (Kd.R_lower ho1 (keep_size (w := w) (g := g) (row := none) (hk_ HK.out))); have n3_ := Aside0.mk (Kd.R_lower ho2 (keep_size (w := w) (g := g) (row := none) (hk_ HK.out))); have n4_ := Aside0.mk (KeepBut.trans (hk_ HK.out) hk (.inl rfl)); have n5_ := Aside0.mk (hb); have n6_ := Aside0.mk (hi); clear BK1586; clear HK; clear HB; clear HI0; have BK1586 := n0_; have HO1590 := n1_; have HO1593 := n2_; have HO1596 := n3_; have HK := n4_; have HB := n5_; have HI0 := n6_; clear n0_ n1_ n2_ n3_ n4_ n5_ n6_; (try clear hb); (try clear hb2); (try clear hk); (try clear hi); (try clear ho0); (try clear ho1); (try clear ho2)) | ((with_reducible refine gate_dst (N := 4) rfl ?_); refine box_event ?hg (N := 4) ?hd (cs := #[.int .i64 0, .slice none 0 0, .slice none 0 0, .slice none 0 0]) (t := 26) ?hr ?_; (case hd => rfl); (case hg => rfl); (case hr => first | (go_simp; done) | (go_simp; rfl)); intro gb1600 hg w110 hbox hb; have n0_ := Aside0.mk (Kd.R_below (rq_ HO1590.out) hb); have n1_ := Aside0.mk (Kd.R_below (rq_ HO1593.out) hb); have n2_ := Aside0.mk (Kd.R_below (rq_ HO1596.out) hb); have n3_ := Aside0.mk (IsS_l1Cur.below (is_l1Cur_ HI0.out) hb); have n4_ := Aside0.mk (bb_ BK1586.out hb); have n5_ := Aside0.mk (KeepBut.trans (hk_ HK.out) (KeepBut.of_below hb g none) (.inl rfl)); have n6_ := Aside0.mk (below_step (hi_ HB.out) hb); have n7_ := Aside0.mk (hbox); have n8_ := Aside0.mk ((by rw [hg]; exact (keep_size (w := w) (g := g) (row := none) (hk_ HK.out)) : w.heap.size ≤ gb1600)); have n9_ := Aside0.mk ((Nat.le_trans HW0.out (by rw [hg]; exact (keep_size (w := w) (g := g) (row := none) (hk_ HK.out)) : w.heap.size ≤ gb1600) : w0.heap.size ≤ gb1600)); have n10_ := Aside0.mk ((nl_ BK1586.out hg : gb1586 ≠ gb1600)); have n11_ := Aside0.mk ((ng_ BK1586.out hg : gb1600 ≠ gb1586)); have n12_ := Aside0.mk ((by rw [hg]; exact Nat.ne_of_lt (IsS_l1Cur.lt (show IsS_l1Cur w0 _ g s0_0 t1598 t1599 from is_l1Cur_ HI0.out)) : g ≠ gb1600)); have n13_ := Aside0.mk ((by rw [hg]; exact Nat.ne_of_gt (IsS_l1Cur.lt (show IsS_l1Cur w0 _ g s0_0 t1598 t1599 from is_l1Cur_ HI0.out)) : gb1600 ≠ g)); clear HO1590; clear HO1593; clear HO1596; clear HI0; clear BK1586; clear HK; clear HB; have HO1590 := n0_; have HO1593 := n1_; have HO1596 := n2_; have HI0 := n3_; have BK1586 := n4_; have HK := n5_; have HB := n6_; have BK1600 := n7_; have GW1600 := n8_; have GE1600 := n9_; have NB1586_1600 := n10_; have NB1600_1586 := n11_; have NB0_1600 := n12_; have NB1600_0 := n13_; clear n0_ n1_ n2_ n3_ n4_ n5_ n6_ n7_ n8_ n9_ n10_ n11_ n12_ n13_; clear hb hbox hg; have hnb111 := NB1600_1586.out; have hnc111 := NB1586_1600.out; have hnb112 := NB1600_0.out; have hnc112 := NB0_1600.out; have hcz113_0 : w110.cell? ⟨gb1600, 0, none⟩ = some (.int .i64 0) := (blk_cell BK1600.out 0).trans rfl; have hcz113_1 : w110.cell? ⟨gb1600, 1, none⟩ = some (.slice none 0 0) := (blk_cell BK1600.out 1).trans rfl; have hcz113_2 : w110.cell? ⟨gb1600, 2, none⟩ = some (.slice none 0 0) := (blk_cell BK1600.out 2).trans rfl; have hcz113_3 : w110.cell? ⟨gb1600, 3, none⟩ = some (.slice none 0 0) := (blk_cell BK1600.out 3).trans rfl; have hfz113_0 := blk_frozen BK1600.out 0; have hfz113_1 := blk_frozen BK1600.out 1; have hfz113_2 := blk_frozen BK1600.out 2; have hfz113_3 := blk_frozen BK1600.out 3; obtain ⟨Ao114, co114, eo114⟩ := Kd.R_slice HO1590.out; subst eo114; obtain ⟨Ao115, co115, eo115⟩ := Kd.R_slice HO1593.out; subst eo115; obtain ⟨Ao116, co116, eo116⟩ := Kd.R_slice HO1596.out; subst eo116) | ((with_reducible refine gate_callee (f := 78) rfl ?_); refine goesL_ (some 12) rfl rfl Try.func78 (by kernel_rfl) rfl #[.pointer (some ⟨g, 0, none⟩), .int .i64 12] rfl sm_ ?_; (with_reducible refine (spec_l1Below.calls g s0_0 t1598 t1599 12 t1601 t1602 t1603 w0 _ ?side1 ?side2 A3.out).mono ?_); (case side1 => repeat (first | (with_reducible first | exact HI0.out | apply IsS_l1Cur.alloc | apply IsS_l1Cur.drewN | apply IsS_l1Cur.drew | apply IsS_l1Cur.set_1 | apply IsS_l1Cur.set_2 | refine IsS_l1Cur.far ?_ NB0_1586.out _ | refine IsS_l1Cur.far ?_ NB0_1600.out _) | exact HI0.out)); (case side2 => repeat (first | (with_reducible first | exact HB.out | apply below_alloc | apply pw_below_drewN | apply below_drew1 | refine below_set ?_ (IsS_l1Cur.ge HI0.out) | refine below_set ?_ GE1586.out | refine below_set ?_ GE1600.out) | exact HB.out)); rintro e w117 ⟨rfl, hi, hb, hk⟩; refine ⟨_, rfl, ?_⟩; have n0_ := Aside0.mk (KeepBut.blk hk (g' := gb1586) (o := .cells #[.int .i64 0, .slice none 0 0, .slice none 0 0, .slice none 0 0] 26 (0, 0)) (bf_ NB1586_1600.out BK1586.out) NB1586_0.out (by simp)); have n1_ := Aside0.mk (Kd.R_mono (Kd.R_keep (IsS_l1Cur.apart (show IsS_l1Cur w0 _ g s0_0 t1598 t1599 from is_l1Cur_ HI0.out) (rk_ HO1590.out BK1600.out) (by decide)) hk (fun _ h => h.2)) (fun _ h => h.1)); have n2_ := Aside0.mk (Kd.R_mono (Kd.R_keep (IsS_l1Cur.apart (show IsS_l1Cur w0 _ g s0_0 t1598 t1599 from is_l1Cur_ HI0.out) (rk_ HO1593.out BK1600.out) (by decide)) hk (fun _ h => h.2)) (fun _ h => h.1)); have n3_ := Aside0.mk (Kd.R_mono (Kd.R_keep (IsS_l1Cur.apart (show IsS_l1Cur w0 _ g s0_0 t1598 t1599 from is_l1Cur_ HI0.out) (rk_ HO1596.out BK1600.out) (by decide)) hk (fun _ h => h.2)) (fun _ h => h.1)); have n4_ := Aside0.mk (KeepBut.blk hk (g' := gb1600) (o := .cells #[.int .i64 t1587, .slice Ao114 t1588.length co114, .slice Ao115 t1591.length co115, .slice Ao116 t1594.length co116] 26 (0, 0)) (bp_ BK1600.out) NB1600_0.out (by simp)); have n5_ := Aside0.mk (KeepBut.trans (hk_ HK.out) hk (.inl rfl)); have n6_ := Aside0.mk (hb); have n7_ := Aside0.mk (hi); clear BK1586; clear HO1590; clear HO1593; clear HO1596; clear BK1600; clear HK; clear HB; clear HI0; have BK1586 := n0_; have HO1590 := n1_; have HO1593 := n2_; have HO1596 := n3_; have BK1600 := n4_; have HK := n5_; have HB := n6_; have HI0 := n7_; clear n0_ n1_ n2_ n3_ n4_ n5_ n6_ n7_; (try clear hb); (try clear hb2); (try clear hk); (try clear hi); have hcz118_0 : w117.cell? ⟨gb1600, 0, none⟩ = some (.int .i64 t1587) := (blk_cell BK1600.out 0).trans rfl; have hcz118_1 : w117.cell? ⟨gb1600, 1, none⟩ = some (.slice Ao114 t1588.length co114) := (blk_cell BK1600.out 1).trans rfl; have hcz118_2 : w117.cell? ⟨gb1600, 2, none⟩ = some (.slice Ao115 t1591.length co115) := (blk_cell BK1600.out 2).trans rfl; have hcz118_3 : w117.cell? ⟨gb1600, 3, none⟩ = some (.slice Ao116 t1594.length co116) := (blk_cell BK1600.out 3).trans rfl; have hfz118_0 := blk_frozen BK1600.out 0; have hfz118_1 := blk_frozen BK1600.out 1; have hfz118_2 := blk_frozen BK1600.out 2; have hfz118_3 := blk_frozen BK1600.out 3; have hnb119 := NB1586_0.out; have hnc119 := NB0_1586.out; have hcz120_0 : w117.cell? ⟨gb1586, 0, none⟩ = some (.int .i64 0) := (blk_cell BK1586.out 0).trans rfl; have hcz120_1 : w117.cell? ⟨gb1586, 1, none⟩ = some (.slice none 0 0) := (blk_cell BK1586.out 1).trans rfl; have hcz120_2 : w117.cell? ⟨gb1586, 2, none⟩ = some (.slice none 0 0) := (blk_cell BK1586.out 2).trans rfl; have hcz120_3 : w117.cell? ⟨gb1586, 3, none⟩ = some (.slice none 0 0) := (blk_cell BK1586.out 3).trans rfl; have hfz120_0 := blk_frozen BK1586.out 0; have hfz120_1 := blk_frozen BK1586.out 1; have hfz120_2 := blk_frozen BK1586.out 2; have hfz120_3 := blk_frozen BK1586.out 3))
      refine bodyPost_ret (results_ct rfl _ _ gb1586 26 #[.int .i64 t1587, .slice Ao114 t1588.length co114, .slice Ao115 t1591.length co115, .slice Ao116 t1594.length co116] (0, 0) _ rfl (bp_ BK1586.out) Try.underlying26 rfl (by kernel_rfl)) rfl ?_
      exact ⟨_, _, _, er_, by (with_reducible repeat (first | apply Kd.R_alloc | apply Kd.R_drewN | apply Kd.R_drew)); exact Kd.R_mono (Kd.R_far (p := ⟨gb1586, 3, none⟩) (Kd.R_far (p := ⟨gb1586, 2, none⟩) (Kd.R_far (p := ⟨gb1586, 1, none⟩) (Kd.R_far (p := ⟨gb1586, 0, none⟩) (Kd.R_types HO1590.out BK1586.out (by decide)) (fun _ hk => hk.2) (.int .i64 t1587)) (fun _ hk => hk.2) (.slice Ao114 t1588.length co114)) (fun _ hk => hk.2) (.slice Ao115 t1591.length co115)) (fun _ hk => hk.2) (.slice Ao116 t1594.length co116)) (fun _ hk => ⟨hk.1.1, hk.1.2⟩), by (with_reducible repeat (first | apply Kd.R_alloc | apply Kd.R_drewN | apply Kd.R_drew)); exact Kd.R_mono (Kd.R_far (p := ⟨gb1586, 3, none⟩) (Kd.R_far (p := ⟨gb1586, 2, none⟩) (Kd.R_far (p := ⟨gb1586, 1, none⟩) (Kd.R_far (p := ⟨gb1586, 0, none⟩) (Kd.R_types HO1593.out BK1586.out (by decide)) (fun _ hk => hk.2) (.int .i64 t1587)) (fun _ hk => hk.2) (.slice Ao114 t1588.length co114)) (fun _ hk => hk.2) (.slice Ao115 t1591.length co115)) (fun _ hk => hk.2) (.slice Ao116 t1594.length co116)) (fun _ hk => ⟨hk.1.1, hk.1.2⟩), by (with_reducible repeat (first | apply Kd.R_alloc | apply Kd.R_drewN | apply Kd.R_drew)); exact Kd.R_mono (Kd.R_far (p := ⟨gb1586, 3, none⟩) (Kd.R_far (p := ⟨gb1586, 2, none⟩) (Kd.R_far (p := ⟨gb1586, 1, none⟩) (Kd.R_far (p := ⟨gb1586, 0, none⟩) (Kd.R_types HO1596.out BK1586.out (by decide)) (fun _ hk => hk.2) (.int .i64 t1587)) (fun _ hk => hk.2) (.slice Ao114 t1588.length co114)) (fun _ hk => hk.2) (.slice Ao115 t1591.length co115)) (fun _ hk => hk.2) (.slice Ao116 t1594.length co116)) (fun _ hk => ⟨hk.1.1, hk.1.2⟩), is_l1Cur_ HI0.out, by repeat (first | (with_reducible first | exact HB.out | apply below_alloc | apply pw_below_drewN | apply below_drew1 | refine below_set ?_ (IsS_l1Cur.ge HI0.out) | refine below_set ?_ GE1586.out | refine below_set ?_ GE1600.out) | exact HB.out), by repeat (first | (with_reducible first | exact HK.out | apply KeepBut.set_ | apply keep_drewN | apply keep_drew | apply keep_alloc | refine keep_far ?_ GW1586.out _ | refine keep_far ?_ GW1600.out _) | exact HK.out)⟩
/-! ### spec_DrawGroupMark: function 13 -/
mutual
def spec_DrawGroupMark.j0 : Nat → Int → Int → Int → List Int → Int → Int → Int → List Int → List Int → List Int → Option (Int × List Int × List Int × List Int × Int × Int × Int × Int)
 | 0, _, _, _, _, _, _, _, _, _, _ => none
 | k + 1, x10, x11, x12, x1640000, x1640001, x1640002, x1654000, x1654001, x1654002, x1654003 => (spec_l1Once.f x1640000 x1640001 x1640002 5).bind fun bt1664 => (if bt1664.1 = true then ((spec_l1Below.f x1640000 bt1664.2.1 bt1664.2.2 4).bind fun bt1667 => (spec_DrawGroupMark.j1 k x10 x11 bt1667.1 x1640000 bt1667.2.1 bt1667.2.2 x1654000 x1654001 x1654002 x1654003)) else (spec_DrawGroupMark.j1 k x10 x11 x12 x1640000 bt1664.2.1 bt1664.2.2 x1654000 x1654001 x1654002 x1654003))
def spec_DrawGroupMark.j1 : Nat → Int → Int → Int → List Int → Int → Int → Int → List Int → List Int → List Int → Option (Int × List Int × List Int × List Int × Int × Int × Int × Int)
 | 0, _, _, _, _, _, _, _, _, _, _ => none
 | k + 1, x10, x11, x12, x1640000, x1640001, x1640002, x1654000, x1654001, x1654002, x1654003 => (spec_l1Below.f x1640000 x1640001 x1640002 12).bind fun bt1670 => (some (x1654000, x1654001, x1654002, x1654003, x11, x12, x10, bt1670.1))
end
def spec_DrawGroupMark.f (k : Nat) (l0 : List Int) : Option (Int × List Int × List Int × List Int × Int × Int × Int × Int) := (spec_l1New.f k l0).bind fun bt1636 => ((spec_l5Draw.f k bt1636.1 bt1636.2.1 bt1636.2.2).bind fun bt1640 => ((spec_l1Below.f bt1636.1 bt1640.2.2.2.2.2.1 bt1640.2.2.2.2.2.2 4).bind fun bt1654 => ((spec_OwnerOf.f bt1640.1 bt1640.2.1 bt1640.2.2.1 bt1640.2.2.2.1 (wrap64 (bt1654.1 - 1))).bind fun t1657 => ((spec_l1Once.f bt1636.1 bt1654.2.1 bt1654.2.2 4).bind fun bt1658 => (if bt1658.1 = true then ((spec_l1Below.f bt1636.1 bt1658.2.1 bt1658.2.2 4).bind fun bt1661 => (spec_DrawGroupMark.j0 k (wrap64 (bt1654.1 - 1)) bt1661.1 bt1640.1 bt1636.1 bt1661.2.1 bt1661.2.2 bt1640.1 bt1640.2.1 bt1640.2.2.1 bt1640.2.2.2.1)) else (spec_DrawGroupMark.j0 k (wrap64 (bt1654.1 - 1)) t1657 bt1640.1 bt1636.1 bt1658.2.1 bt1658.2.2 bt1640.1 bt1640.2.1 bt1640.2.2.1 bt1640.2.2.2.1))))))
theorem spec_DrawGroupMark.mono_l : ∀ k, (∀ y0 y1 y2 y3 y4 y5 y6 y7 y8 y9, LeO (spec_DrawGroupMark.j0 k y0 y1 y2 y3 y4 y5 y6 y7 y8 y9) (spec_DrawGroupMark.j0 (k + 1) y0 y1 y2 y3 y4 y5 y6 y7 y8 y9)) ∧ (∀ y0 y1 y2 y3 y4 y5 y6 y7 y8 y9, LeO (spec_DrawGroupMark.j1 k y0 y1 y2 y3 y4 y5 y6 y7 y8 y9) (spec_DrawGroupMark.j1 (k + 1) y0 y1 y2 y3 y4 y5 y6 y7 y8 y9))
 | 0 => ⟨fun _ _ _ _ _ _ _ _ _ _ r h => by simp [spec_DrawGroupMark.j0] at h, fun _ _ _ _ _ _ _ _ _ _ r h => by simp [spec_DrawGroupMark.j1] at h⟩
 | k + 1 => by
  obtain ⟨ih0, ih1⟩ := spec_DrawGroupMark.mono_l k
  refine ⟨?_, ?_⟩
  ·
   intro y0 y1 y2 y3 y4 y5 y6 y7 y8 y9
   unfold spec_DrawGroupMark.j0
   repeat' first
   | (with_reducible exact ih0 _ _ _ _ _ _ _ _ _ _)
   | (with_reducible exact ih1 _ _ _ _ _ _ _ _ _ _)
   | (with_reducible exact spec_l1New.mono _ _)
   | (with_reducible exact spec_l5Draw.mono _ _ _ _)
   | (with_reducible exact LeO.refl _)
   | (with_reducible exact LeO.none _)
   | (with_reducible refine LeO.ite ?_ ?_)
   | (with_reducible refine LeO.bind ?_ (fun _ => ?_))
   | exact ih0 _ _ _ _ _ _ _ _ _ _
   | exact ih1 _ _ _ _ _ _ _ _ _ _
   | exact spec_l1New.mono _ _
   | exact spec_l5Draw.mono _ _ _ _
   | exact LeO.none _
   | refine LeO.ite ?_ ?_
   | refine LeO.bind ?_ (fun _ => ?_)
  ·
   intro y0 y1 y2 y3 y4 y5 y6 y7 y8 y9
   unfold spec_DrawGroupMark.j1
   repeat' first
   | (with_reducible exact ih0 _ _ _ _ _ _ _ _ _ _)
   | (with_reducible exact ih1 _ _ _ _ _ _ _ _ _ _)
   | (with_reducible exact spec_l1New.mono _ _)
   | (with_reducible exact spec_l5Draw.mono _ _ _ _)
   | (with_reducible exact LeO.refl _)
   | (with_reducible exact LeO.none _)
   | (with_reducible refine LeO.ite ?_ ?_)
   | (with_reducible refine LeO.bind ?_ (fun _ => ?_))
   | exact ih0 _ _ _ _ _ _ _ _ _ _
   | exact ih1 _ _ _ _ _ _ _ _ _ _
   | exact spec_l1New.mono _ _
   | exact spec_l5Draw.mono _ _ _ _
   | exact LeO.none _
   | refine LeO.ite ?_ ?_
   | refine LeO.bind ?_ (fun _ => ?_)
theorem spec_DrawGroupMark.mono : ∀ a0 k, LeO (spec_DrawGroupMark.f k a0) (spec_DrawGroupMark.f (k + 1) a0) := by
 intro a0 k
 obtain ⟨ih0, ih1⟩ := spec_DrawGroupMark.mono_l k
 unfold spec_DrawGroupMark.f
 repeat' first
  | (with_reducible exact ih0 _ _ _ _ _ _ _ _ _ _)
  | (with_reducible exact ih1 _ _ _ _ _ _ _ _ _ _)
  | (with_reducible exact spec_l1New.mono _ _)
  | (with_reducible exact spec_l5Draw.mono _ _ _ _)
  | (with_reducible exact LeO.refl _)
  | (with_reducible exact LeO.none _)
  | (with_reducible refine LeO.ite ?_ ?_)
  | (with_reducible refine LeO.bind ?_ (fun _ => ?_))
  | exact ih0 _ _ _ _ _ _ _ _ _ _
  | exact ih1 _ _ _ _ _ _ _ _ _ _
  | exact spec_l1New.mono _ _
  | exact spec_l5Draw.mono _ _ _ _
  | exact LeO.none _
  | refine LeO.ite ?_ ?_
  | refine LeO.bind ?_ (fun _ => ?_)
def spec_DrawGroupMark.T10 : Bool × List (List Nat × List Nat) := (true, [([], []), ([], []), ([], []), ([], []), ([], []), ([4], [4]), ([0, 5, 0], [0]), ([1, 6, 0, 1, 6], [1]), ([2, 7, 0, 1, 2, 6, 7], [2]), ([3, 8, 0, 1, 2, 3, 6, 7, 8], [3]), ([5, 9, 0, 1, 2, 3, 4, 5, 6, 7, 8, 9], [5])])
def spec_DrawGroupMark.B10 : List Nat := [0, 0, 0, 0, 0, 16, 49, 115, 247, 511, 1023]
theorem spec_DrawGroupMark.tab10 : rtab .any (opsOf Try.f13 10) = spec_DrawGroupMark.T10 := by kernel_rfl
theorem spec_DrawGroupMark.bits10 : waitsOk spec_DrawGroupMark.T10.2 spec_DrawGroupMark.B10 = true := by kernel_rfl
set_option maxHeartbeats 8000000 in
set_option maxRecDepth 100000 in
theorem spec_DrawGroupMark.calls (k : Nat) (A0 : Option Addr) (c0 : Nat) (l0 : List Int) (r1 : Int) (r2 : List Int) (r3 : List Int) (r4 : List Int) (r5 : Int) (r6 : Int) (r7 : Int) (r8 : Int) (w : World) (hr0 : Kd.C (Kd.int .u8) w A0 l0.length l0) (hc0 : l0.length ≤ c0) (h : spec_DrawGroupMark.f k l0 = some (r1, r2, r3, r4, r5, r6, r7, r8)) :
 Calls Try.prog 13 #[.slice A0 l0.length c0] w fun e w' => ∃ v1_ v2_ v3_ : Value, e = .returned (.tuple #[.agg #[.int .i64 r1, v1_, v2_, v3_], .int .i64 r5, .int .i64 r6, .int .i64 r7, .int .i64 r8]) ∧ Kd.R (Kd.int .i64) 3 w' w.heap.size (fun k_ => some k_ ≠ (v2_ : Value).ownBlock ∧ some k_ ≠ (v3_ : Value).ownBlock) v1_ r2 ∧ Kd.R (Kd.int .i64) 3 w' w.heap.size (fun k_ => some k_ ≠ (v1_ : Value).ownBlock ∧ some k_ ≠ (v3_ : Value).ownBlock) v2_ r3 ∧ Kd.R (Kd.int .i64) 3 w' w.heap.size (fun k_ => some k_ ≠ (v1_ : Value).ownBlock ∧ some k_ ≠ (v2_ : Value).ownBlock) v3_ r4 ∧ Below w.heap.size w w' := by
 have hu26 := Try.underlying26
 have HR0 := Aside0.mk hr0
 have HC0 := Aside0.mk hc0
 clear hr0 hc0
 have HB := Aside0.mk (Below.refl w.heap.size w)
 have H : ((spec_l1New.f k l0).bind fun bt1636 => ((spec_l5Draw.f k bt1636.1 bt1636.2.1 bt1636.2.2).bind fun bt1640 => ((spec_l1Below.f bt1636.1 bt1640.2.2.2.2.2.1 bt1640.2.2.2.2.2.2 4).bind fun bt1654 => ((spec_OwnerOf.f bt1640.1 bt1640.2.1 bt1640.2.2.1 bt1640.2.2.2.1 (wrap64 (bt1654.1 - 1))).bind fun t1657 => ((spec_l1Once.f bt1636.1 bt1654.2.1 bt1654.2.2 4).bind fun bt1658 => (if bt1658.1 = true then ((spec_l1Below.f bt1636.1 bt1658.2.1 bt1658.2.2 4).bind fun bt1661 => (spec_DrawGroupMark.j0 k (wrap64 (bt1654.1 - 1)) bt1661.1 bt1640.1 bt1636.1 bt1661.2.1 bt1661.2.2 bt1640.1 bt1640.2.1 bt1640.2.2.1 bt1640.2.2.2.1)) else (spec_DrawGroupMark.j0 k (wrap64 (bt1654.1 - 1)) t1657 bt1640.1 bt1636.1 bt1658.2.1 bt1658.2.2 bt1640.1 bt1640.2.1 bt1640.2.2.1 bt1640.2.2.2.1))))))) = some (r1, r2, r3, r4, r5, r6, r7, r8) := h
 clear h
 replace H := Option.bind_eq_some_iff.mp H
 obtain ⟨⟨t1636, t1637, t1638⟩, A20, H⟩ := H
 replace H : ((spec_l5Draw.f k t1636 t1637 t1638).bind fun bt1640 => ((spec_l1Below.f t1636 bt1640.2.2.2.2.2.1 bt1640.2.2.2.2.2.2 4).bind fun bt1654 => ((spec_OwnerOf.f bt1640.1 bt1640.2.1 bt1640.2.2.1 bt1640.2.2.2.1 (wrap64 (bt1654.1 - 1))).bind fun t1657 => ((spec_l1Once.f t1636 bt1654.2.1 bt1654.2.2 4).bind fun bt1658 => (if bt1658.1 = true then ((spec_l1Below.f t1636 bt1658.2.1 bt1658.2.2 4).bind fun bt1661 => (spec_DrawGroupMark.j0 k (wrap64 (bt1654.1 - 1)) bt1661.1 bt1640.1 t1636 bt1661.2.1 bt1661.2.2 bt1640.1 bt1640.2.1 bt1640.2.2.1 bt1640.2.2.2.1)) else (spec_DrawGroupMark.j0 k (wrap64 (bt1654.1 - 1)) t1657 bt1640.1 t1636 bt1658.2.1 bt1658.2.2 bt1640.1 bt1640.2.1 bt1640.2.2.1 bt1640.2.2.2.1)))))) = some (r1, r2, r3, r4, r5, r6, r7, r8) := H
 have A2 := Aside0.mk A20
 clear A20
 replace H := Option.bind_eq_some_iff.mp H
 obtain ⟨⟨t1640, t1641, t1644, t1647, t1650, t1651, t1652⟩, A30, H⟩ := H
 replace H : ((spec_l1Below.f t1636 t1651 t1652 4).bind fun bt1654 => ((spec_OwnerOf.f t1640 t1641 t1644 t1647 (wrap64 (bt1654.1 - 1))).bind fun t1657 => ((spec_l1Once.f t1636 bt1654.2.1 bt1654.2.2 4).bind fun bt1658 => (if bt1658.1 = true then ((spec_l1Below.f t1636 bt1658.2.1 bt1658.2.2 4).bind fun bt1661 => (spec_DrawGroupMark.j0 k (wrap64 (bt1654.1 - 1)) bt1661.1 t1640 t1636 bt1661.2.1 bt1661.2.2 t1640 t1641 t1644 t1647)) else (spec_DrawGroupMark.j0 k (wrap64 (bt1654.1 - 1)) t1657 t1640 t1636 bt1658.2.1 bt1658.2.2 t1640 t1641 t1644 t1647))))) = some (r1, r2, r3, r4, r5, r6, r7, r8) := H
 have A3 := Aside0.mk A30
 clear A30
 replace H := Option.bind_eq_some_iff.mp H
 obtain ⟨⟨t1654, t1655, t1656⟩, A40, H⟩ := H
 replace H : ((spec_OwnerOf.f t1640 t1641 t1644 t1647 (wrap64 (t1654 - 1))).bind fun t1657 => ((spec_l1Once.f t1636 t1655 t1656 4).bind fun bt1658 => (if bt1658.1 = true then ((spec_l1Below.f t1636 bt1658.2.1 bt1658.2.2 4).bind fun bt1661 => (spec_DrawGroupMark.j0 k (wrap64 (t1654 - 1)) bt1661.1 t1640 t1636 bt1661.2.1 bt1661.2.2 t1640 t1641 t1644 t1647)) else (spec_DrawGroupMark.j0 k (wrap64 (t1654 - 1)) t1657 t1640 t1636 bt1658.2.1 bt1658.2.2 t1640 t1641 t1644 t1647)))) = some (r1, r2, r3, r4, r5, r6, r7, r8) := H
 have A4 := Aside0.mk A40
 clear A40
 replace H := Option.bind_eq_some_iff.mp H
 obtain ⟨t1657, A50, H⟩ := H
 replace H : ((spec_l1Once.f t1636 t1655 t1656 4).bind fun bt1658 => (if bt1658.1 = true then ((spec_l1Below.f t1636 bt1658.2.1 bt1658.2.2 4).bind fun bt1661 => (spec_DrawGroupMark.j0 k (wrap64 (t1654 - 1)) bt1661.1 t1640 t1636 bt1661.2.1 bt1661.2.2 t1640 t1641 t1644 t1647)) else (spec_DrawGroupMark.j0 k (wrap64 (t1654 - 1)) t1657 t1640 t1636 bt1658.2.1 bt1658.2.2 t1640 t1641 t1644 t1647))) = some (r1, r2, r3, r4, r5, r6, r7, r8) := H
 have A5 := Aside0.mk A50
 clear A50
 replace H := Option.bind_eq_some_iff.mp H
 obtain ⟨⟨t1658, t1659, t1660⟩, A60, H⟩ := H
 replace H : (if t1658 = true then ((spec_l1Below.f t1636 t1659 t1660 4).bind fun bt1661 => (spec_DrawGroupMark.j0 k (wrap64 (t1654 - 1)) bt1661.1 t1640 t1636 bt1661.2.1 bt1661.2.2 t1640 t1641 t1644 t1647)) else (spec_DrawGroupMark.j0 k (wrap64 (t1654 - 1)) t1657 t1640 t1636 t1659 t1660 t1640 t1641 t1644 t1647)) = some (r1, r2, r3, r4, r5, r6, r7, r8) := H
 have A6 := Aside0.mk A60
 clear A60
 have HC7 := Aside0.mk H
 clear H
 go_enter Try.func13, Try.ntmps13
 go_upto_if 29 with (first | ((with_reducible refine gate_dst (N := 2) rfl ?_); refine box_event ?hg (N := 2) ?hd (cs := #[.int .i64 0, .slice none 0 0, .slice none 0 0, .slice none 0 0]) (t := 26) ?hr ?_; (case hd => rfl); (case hg => rfl); (case hr => first | (go_simp; done) | (go_simp; rfl)); intro gb1635 hg w8 hbox hb; have n0_ := Aside0.mk (below_step (hb_ HB.out) hb); have n1_ := Aside0.mk (hbox); have n2_ := Aside0.mk ((by rw [hg]; exact (below_size (hb_ HB.out)) : w.heap.size ≤ gb1635)); have n3_ := Aside0.mk ((by rw [hg]; exact (below_size (hb_ HB.out)) : w.heap.size ≤ gb1635)); clear HB; have HB := n0_; have BK1635 := n1_; have GW1635 := n2_; have GE1635 := n3_; clear n0_ n1_ n2_ n3_; clear hb hbox hg) | ((with_reducible refine gate_callee (f := 76) rfl ?_); refine goesL_ (some 14) rfl rfl Try.func76 (by kernel_rfl) rfl #[.slice A0 l0.length c0] rfl sm_ ?_; (with_reducible refine (spec_l1New.calls k _ _ l0 t1636 t1637 t1638 w _ ?side1 ?side2 ?side3 A2.out).mono ?_); (case side1 => repeat (first | (with_reducible first | exact HB.out | apply below_alloc | apply pw_below_drewN | apply below_drew1 | refine below_set ?_ GE1635.out) | exact HB.out)); (case side2 => exact HR0.out); (case side3 => exact HC0.out); rintro e w9 ⟨g1639, rfl, hi, hb, hb2⟩; refine ⟨_, rfl, ?_⟩; have n0_ := Aside0.mk (blk_below (g := gb1635) (o := .cells #[.int .i64 0, .slice none 0 0, .slice none 0 0, .slice none 0 0] 26 (0, 0)) (bq_ BK1635.out) hb2); have n1_ := Aside0.mk (hb); have n2_ := Aside0.mk (hi); have n3_ := Aside0.mk (IsS_l1Cur.ne_blk hi (blk_below (g := gb1635) (o := .cells #[.int .i64 0, .slice none 0 0, .slice none 0 0, .slice none 0 0] 26 (0, 0)) (bq_ BK1635.out) hb2) (by decide)); have n4_ := Aside0.mk (Ne.symm (IsS_l1Cur.ne_blk hi (blk_below (g := gb1635) (o := .cells #[.int .i64 0, .slice none 0 0, .slice none 0 0, .slice none 0 0] 26 (0, 0)) (bq_ BK1635.out) hb2) (by decide))); clear BK1635; clear HB; have BK1635 := n0_; have HB := n1_; have HI1639 := n2_; have NB1639_1635 := n3_; have NB1635_1639 := n4_; clear n0_ n1_ n2_ n3_ n4_; (try clear hb); (try clear hb2); (try clear hk); (try clear hi)) | ((with_reducible refine gate_callee (f := 77) rfl ?_); refine goesL_ (some 17) rfl rfl Try.func77 (by kernel_rfl) rfl #[.pointer (some ⟨g1639, 0, none⟩)] rfl sm_ ?_; (with_reducible refine (spec_l5Draw.calls k g1639 t1636 t1637 t1638 t1640 t1641 t1644 t1647 t1650 t1651 t1652 w _ ?side1 ?side2 A3.out).mono ?_); (case side1 => repeat (first | (with_reducible first | exact HI1639.out | apply IsS_l1Cur.alloc | apply IsS_l1Cur.drewN | apply IsS_l1Cur.drew | apply IsS_l1Cur.set_1 | apply IsS_l1Cur.set_2 | refine IsS_l1Cur.far ?_ NB1639_1635.out _) | exact HI1639.out)); (case side2 => repeat (first | (with_reducible first | exact HB.out | apply below_alloc | apply pw_below_drewN | apply below_drew1 | refine below_set ?_ (IsS_l1Cur.ge HI1639.out) | refine below_set ?_ GE1635.out) | exact HB.out)); rintro e w10 ⟨v1642, v1645, v1648, rfl, ho0, ho1, ho2, hi, hb, hk⟩; refine ⟨_, rfl, ?_⟩; have n0_ := Aside0.mk (KeepBut.blk hk (g' := gb1635) (o := .cells #[.int .i64 0, .slice none 0 0, .slice none 0 0, .slice none 0 0] 26 (0, 0)) (bq_ BK1635.out) NB1635_1639.out (by simp)); have n1_ := Aside0.mk (Kd.R_lower ho0 (below_size (hi_ HB.out))); have n2_ := Aside0.mk (Kd.R_lower ho1 (below_size (hi_ HB.out))); have n3_ := Aside0.mk (Kd.R_lower ho2 (below_size (hi_ HB.out))); have n4_ := Aside0.mk (hb); have n5_ := Aside0.mk (hi); clear BK1635; clear HB; clear HI1639; have BK1635 := n0_; have HO1643 := n1_; have HO1646 := n2_; have HO1649 := n3_; have HB := n4_; have HI1639 := n5_; clear n0_ n1_ n2_ n3_ n4_ n5_; (try clear hb); (try clear hb2); (try clear hk); (try clear hi); (try clear ho0); (try clear ho1); (try clear ho2)) | ((with_reducible refine gate_dst (N := 8) rfl ?_); refine box_event ?hg (N := 8) ?hd (cs := #[.int .i64 0, .slice none 0 0, .slice none 0 0, .slice none 0 0]) (t := 26) ?hr ?_; (case hd => rfl); (case hg => rfl); (case hr => first | (go_simp; done) | (go_simp; rfl)); intro gb1653 hg w11 hbox hb; have n0_ := Aside0.mk (Kd.R_below (rq_ HO1643.out) hb); have n1_ := Aside0.mk (Kd.R_below (rq_ HO1646.out) hb); have n2_ := Aside0.mk (Kd.R_below (rq_ HO1649.out) hb); have n3_ := Aside0.mk (bb_ BK1635.out hb); have n4_ := Aside0.mk (IsS_l1Cur.below (is_l1Cur_ HI1639.out) hb); have n5_ := Aside0.mk (below_step (hi_ HB.out) hb); have n6_ := Aside0.mk (hbox); have n7_ := Aside0.mk ((by rw [hg]; exact (below_size (hi_ HB.out)) : w.heap.size ≤ gb1653)); have n8_ := Aside0.mk ((by rw [hg]; exact (below_size (hi_ HB.out)) : w.heap.size ≤ gb1653)); have n9_ := Aside0.mk ((nl_ BK1635.out hg : gb1635 ≠ gb1653)); have n10_ := Aside0.mk ((ng_ BK1635.out hg : gb1653 ≠ gb1635)); have n11_ := Aside0.mk ((by rw [hg]; exact Nat.ne_of_lt (IsS_l1Cur.lt (show IsS_l1Cur w _ g1639 t1636 t1651 t1652 from is_l1Cur_ HI1639.out)) : g1639 ≠ gb1653)); have n12_ := Aside0.mk ((by rw [hg]; exact Nat.ne_of_gt (IsS_l1Cur.lt (show IsS_l1Cur w _ g1639 t1636 t1651 t1652 from is_l1Cur_ HI1639.out)) : gb1653 ≠ g1639)); clear HO1643; clear HO1646; clear HO1649; clear BK1635; clear HI1639; clear HB; have HO1643 := n0_; have HO1646 := n1_; have HO1649 := n2_; have BK1635 := n3_; have HI1639 := n4_; have HB := n5_; have BK1653 := n6_; have GW1653 := n7_; have GE1653 := n8_; have NB1635_1653 := n9_; have NB1653_1635 := n10_; have NB1639_1653 := n11_; have NB1653_1639 := n12_; clear n0_ n1_ n2_ n3_ n4_ n5_ n6_ n7_ n8_ n9_ n10_ n11_ n12_; clear hb hbox hg; have hnb12 := NB1653_1635.out; have hnc12 := NB1635_1653.out; have hnb13 := NB1653_1639.out; have hnc13 := NB1639_1653.out; have hcz14_0 : w11.cell? ⟨gb1653, 0, none⟩ = some (.int .i64 0) := (blk_cell BK1653.out 0).trans rfl; have hcz14_1 : w11.cell? ⟨gb1653, 1, none⟩ = some (.slice none 0 0) := (blk_cell BK1653.out 1).trans rfl; have hcz14_2 : w11.cell? ⟨gb1653, 2, none⟩ = some (.slice none 0 0) := (blk_cell BK1653.out 2).trans rfl; have hcz14_3 : w11.cell? ⟨gb1653, 3, none⟩ = some (.slice none 0 0) := (blk_cell BK1653.out 3).trans rfl; have hfz14_0 := blk_frozen BK1653.out 0; have hfz14_1 := blk_frozen BK1653.out 1; have hfz14_2 := blk_frozen BK1653.out 2; have hfz14_3 := blk_frozen BK1653.out 3; obtain ⟨Ao15, co15, eo15⟩ := Kd.R_slice HO1643.out; subst eo15; obtain ⟨Ao16, co16, eo16⟩ := Kd.R_slice HO1646.out; subst eo16; obtain ⟨Ao17, co17, eo17⟩ := Kd.R_slice HO1649.out; subst eo17) | ((with_reducible refine gate_callee (f := 78) rfl ?_); refine goesL_ (some 21) rfl rfl Try.func78 (by kernel_rfl) rfl #[.pointer (some ⟨g1639, 0, none⟩), .int .i64 4] rfl sm_ ?_; (with_reducible refine (spec_l1Below.calls g1639 t1636 t1651 t1652 4 t1654 t1655 t1656 w _ ?side1 ?side2 A4.out).mono ?_); (case side1 => repeat (first | (with_reducible first | exact HI1639.out | apply IsS_l1Cur.alloc | apply IsS_l1Cur.drewN | apply IsS_l1Cur.drew | apply IsS_l1Cur.set_1 | apply IsS_l1Cur.set_2 | refine IsS_l1Cur.far ?_ NB1639_1635.out _ | refine IsS_l1Cur.far ?_ NB1639_1653.out _) | exact HI1639.out)); (case side2 => repeat (first | (with_reducible first | exact HB.out | apply below_alloc | apply pw_below_drewN | apply below_drew1 | refine below_set ?_ (IsS_l1Cur.ge HI1639.out) | refine below_set ?_ GE1635.out | refine below_set ?_ GE1653.out) | exact HB.out)); rintro e w18 ⟨rfl, hi, hb, hk⟩; refine ⟨_, rfl, ?_⟩; have n0_ := Aside0.mk (KeepBut.blk hk (g' := gb1635) (o := .cells #[.int .i64 0, .slice none 0 0, .slice none 0 0, .slice none 0 0] 26 (0, 0)) (bf_ NB1635_1653.out BK1635.out) NB1635_1639.out (by simp)); have n1_ := Aside0.mk (Kd.R_mono (Kd.R_keep (IsS_l1Cur.apart (show IsS_l1Cur w _ g1639 t1636 t1651 t1652 from is_l1Cur_ HI1639.out) (rk_ HO1643.out BK1653.out) (by decide)) hk (fun _ h => h.2)) (fun _ h => h.1)); have n2_ := Aside0.mk (Kd.R_mono (Kd.R_keep (IsS_l1Cur.apart (show IsS_l1Cur w _ g1639 t1636 t1651 t1652 from is_l1Cur_ HI1639.out) (rk_ HO1646.out BK1653.out) (by decide)) hk (fun _ h => h.2)) (fun _ h => h.1)); have n3_ := Aside0.mk (Kd.R_mono (Kd.R_keep (IsS_l1Cur.apart (show IsS_l1Cur w _ g1639 t1636 t1651 t1652 from is_l1Cur_ HI1639.out) (rk_ HO1649.out BK1653.out) (by decide)) hk (fun _ h => h.2)) (fun _ h => h.1)); have n4_ := Aside0.mk (KeepBut.blk hk (g' := gb1653) (o := .cells #[.int .i64 t1640, .slice Ao15 t1641.length co15, .slice Ao16 t1644.length co16, .slice Ao17 t1647.length co17] 26 (0, 0)) (bp_ BK1653.out) NB1653_1639.out (by simp)); have n5_ := Aside0.mk (hb); have n6_ := Aside0.mk (hi); clear BK1635; clear HO1643; clear HO1646; clear HO1649; clear BK1653; clear HB; clear HI1639; have BK1635 := n0_; have HO1643 := n1_; have HO1646 := n2_; have HO1649 := n3_; have BK1653 := n4_; have HB := n5_; have HI1639 := n6_; clear n0_ n1_ n2_ n3_ n4_ n5_ n6_; (try clear hb); (try clear hb2); (try clear hk); (try clear hi); have hcz19_0 : w18.cell? ⟨gb1653, 0, none⟩ = some (.int .i64 t1640) := (blk_cell BK1653.out 0).trans rfl; have hcz19_1 : w18.cell? ⟨gb1653, 1, none⟩ = some (.slice Ao15 t1641.length co15) := (blk_cell BK1653.out 1).trans rfl; have hcz19_2 : w18.cell? ⟨gb1653, 2, none⟩ = some (.slice Ao16 t1644.length co16) := (blk_cell BK1653.out 2).trans rfl; have hcz19_3 : w18.cell? ⟨gb1653, 3, none⟩ = some (.slice Ao17 t1647.length co17) := (blk_cell BK1653.out 3).trans rfl; have hfz19_0 := blk_frozen BK1653.out 0; have hfz19_1 := blk_frozen BK1653.out 1; have hfz19_2 := blk_frozen BK1653.out 2; have hfz19_3 := blk_frozen BK1653.out 3) | ((with_reducible refine gate_callee (f := 79) rfl ?_); refine goesL_ (some 25) rfl rfl Try.func79 (by kernel_rfl) rfl #[.agg #[.int .i64 t1640, .slice Ao15 t1641.length co15, .slice Ao16 t1644.length co16, .slice Ao17 t1647.length co17], .int .i64 (wrap64 (t1654 - 1))] rfl sm_ ?_; (with_reducible refine (spec_OwnerOf.calls t1640 _ _ t1641 _ _ t1644 _ _ t1647 (wrap64 (t1654 - 1)) t1657 _ ?side1 ?side2 ?side3 ?side4 ?side5 ?side6 A5.out).mono ?_); (case side1 => repeat (first | exact (Kd.R_reads' HO1643.out).2.2 | (with_reducible refine Kd.C_alloc ?_ _) | (with_reducible refine Kd.C_drewN ?_ _) | (with_reducible refine Kd.C_drew ?_))); (case side2 => exact (Kd.R_reads' HO1643.out).2.1); (case side3 => repeat (first | exact (Kd.R_reads' HO1646.out).2.2 | (with_reducible refine Kd.C_alloc ?_ _) | (with_reducible refine Kd.C_drewN ?_ _) | (with_reducible refine Kd.C_drew ?_))); (case side4 => exact (Kd.R_reads' HO1646.out).2.1); (case side5 => repeat (first | exact (Kd.R_reads' HO1649.out).2.2 | (with_reducible refine Kd.C_alloc ?_ _) | (with_reducible refine Kd.C_drewN ?_ _) | (with_reducible refine Kd.C_drew ?_))); (case side6 => exact (Kd.R_reads' HO1649.out).2.1); rintro e w20 ⟨rfl, hb⟩; refine ⟨_, rfl, ?_⟩; have n0_ := Aside0.mk (Kd.R_below (rq_ HO1643.out) hb); have n1_ := Aside0.mk (Kd.R_below (rq_ HO1646.out) hb); have n2_ := Aside0.mk (Kd.R_below (rq_ HO1649.out) hb); have n3_ := Aside0.mk (bb_ BK1635.out hb); have n4_ := Aside0.mk (IsS_l1Cur.below (is_l1Cur_ HI1639.out) hb); have n5_ := Aside0.mk (bb_ BK1653.out hb); have n6_ := Aside0.mk (below_step (hi_ HB.out) hb); clear HO1643; clear HO1646; clear HO1649; clear BK1635; clear HI1639; clear BK1653; clear HB; have HO1643 := n0_; have HO1646 := n1_; have HO1649 := n2_; have BK1635 := n3_; have HI1639 := n4_; have BK1653 := n5_; have HB := n6_; clear n0_ n1_ n2_ n3_ n4_ n5_ n6_; (try clear hb); (try clear hb2); (try clear hk); (try clear hi); have hcz21_0 : w20.cell? ⟨gb1653, 0, none⟩ = some (.int .i64 t1640) := (blk_cell BK1653.out 0).trans rfl; have hcz21_1 : w20.cell? ⟨gb1653, 1, none⟩ = some (.slice Ao15 t1641.length co15) := (blk_cell BK1653.out 1).trans rfl; have hcz21_2 : w20.cell? ⟨gb1653, 2, none⟩ = some (.slice Ao16 t1644.length co16) := (blk_cell BK1653.out 2).trans rfl; have hcz21_3 : w20.cell? ⟨gb1653, 3, none⟩ = some (.slice Ao17 t1647.length co17) := (blk_cell BK1653.out 3).trans rfl; have hfz21_0 := blk_frozen BK1653.out 0; have hfz21_1 := blk_frozen BK1653.out 1; have hfz21_2 := blk_frozen BK1653.out 2; have hfz21_3 := blk_frozen BK1653.out 3) | ((with_reducible refine gate_callee (f := 80) rfl ?_); refine goesL_ (some 29) rfl rfl Try.func80 (by kernel_rfl) rfl #[.pointer (some ⟨g1639, 0, none⟩), .int .i64 4] rfl sm_ ?_; (with_reducible refine (spec_l1Once.calls g1639 t1636 t1655 t1656 4 t1658 t1659 t1660 w _ ?side1 ?side2 A6.out).mono ?_); (case side1 => repeat (first | (with_reducible first | exact HI1639.out | apply IsS_l1Cur.alloc | apply IsS_l1Cur.drewN | apply IsS_l1Cur.drew | apply IsS_l1Cur.set_1 | apply IsS_l1Cur.set_2 | refine IsS_l1Cur.far ?_ NB1639_1635.out _ | refine IsS_l1Cur.far ?_ NB1639_1653.out _) | exact HI1639.out)); (case side2 => repeat (first | (with_reducible first | exact HB.out | apply below_alloc | apply pw_below_drewN | apply below_drew1 | refine below_set ?_ (IsS_l1Cur.ge HI1639.out) | refine below_set ?_ GE1635.out | refine below_set ?_ GE1653.out) | exact HB.out)); rintro e w22 ⟨rfl, hi, hb, hk⟩; refine ⟨_, rfl, ?_⟩; have n0_ := Aside0.mk (KeepBut.blk hk (g' := gb1635) (o := .cells #[.int .i64 0, .slice none 0 0, .slice none 0 0, .slice none 0 0] 26 (0, 0)) (bq_ BK1635.out) NB1635_1639.out (by simp)); have n1_ := Aside0.mk (Kd.R_mono (Kd.R_keep (IsS_l1Cur.apart (show IsS_l1Cur w _ g1639 t1636 t1655 t1656 from is_l1Cur_ HI1639.out) (rq_ HO1643.out) (by decide)) hk (fun _ h => h.2)) (fun _ h => h.1)); have n2_ := Aside0.mk (Kd.R_mono (Kd.R_keep (IsS_l1Cur.apart (show IsS_l1Cur w _ g1639 t1636 t1655 t1656 from is_l1Cur_ HI1639.out) (rq_ HO1646.out) (by decide)) hk (fun _ h => h.2)) (fun _ h => h.1)); have n3_ := Aside0.mk (Kd.R_mono (Kd.R_keep (IsS_l1Cur.apart (show IsS_l1Cur w _ g1639 t1636 t1655 t1656 from is_l1Cur_ HI1639.out) (rq_ HO1649.out) (by decide)) hk (fun _ h => h.2)) (fun _ h => h.1)); have n4_ := Aside0.mk (KeepBut.blk hk (g' := gb1653) (o := .cells #[.int .i64 t1640, .slice Ao15 t1641.length co15, .slice Ao16 t1644.length co16, .slice Ao17 t1647.length co17] 26 (0, 0)) (bq_ BK1653.out) NB1653_1639.out (by simp)); have n5_ := Aside0.mk (hb); have n6_ := Aside0.mk (hi); clear BK1635; clear HO1643; clear HO1646; clear HO1649; clear BK1653; clear HB; clear HI1639; have BK1635 := n0_; have HO1643 := n1_; have HO1646 := n2_; have HO1649 := n3_; have BK1653 := n4_; have HB := n5_; have HI1639 := n6_; clear n0_ n1_ n2_ n3_ n4_ n5_ n6_; (try clear hb); (try clear hb2); (try clear hk); (try clear hi)))
 (try simp only [Act.put, List.setIfInBounds_toArray, List.set_cons_zero, List.set_cons_succ])
 go_cut [11] (fun v11 wc => ∃ (kq : Nat) (x11_6 : Int) (x1640001_6 : Int) (x1640002_6 : Int), v11 = .int .i64 x11_6 ∧ Aside0 (spec_DrawGroupMark.j0 kq (wrap64 (t1654 - 1)) x11_6 t1640 t1636 x1640001_6 x1640002_6 t1640 t1641 t1644 t1647 = some (r1, r2, r3, r4, r5, r6, r7, r8)) ∧ Aside0 (kq ≤ k) ∧ Aside0 (Kd.R (Kd.int .i64) 3 wc w.heap.size (fun k_ => some k_ ≠ ((.slice Ao16 t1644.length co16) : Value).ownBlock ∧ some k_ ≠ ((.slice Ao17 t1647.length co17) : Value).ownBlock) (.slice Ao15 t1641.length co15) t1641) ∧ Aside0 (Kd.R (Kd.int .i64) 3 wc w.heap.size (fun k_ => some k_ ≠ ((.slice Ao15 t1641.length co15) : Value).ownBlock ∧ some k_ ≠ ((.slice Ao17 t1647.length co17) : Value).ownBlock) (.slice Ao16 t1644.length co16) t1644) ∧ Aside0 (Kd.R (Kd.int .i64) 3 wc w.heap.size (fun k_ => some k_ ≠ ((.slice Ao15 t1641.length co15) : Value).ownBlock ∧ some k_ ≠ ((.slice Ao16 t1644.length co16) : Value).ownBlock) (.slice Ao17 t1647.length co17) t1647) ∧ Aside0 (wc.heap[gb1635]? = some (.cells #[.int .i64 0, (.slice none 0 0), (.slice none 0 0), (.slice none 0 0)] 26 (0, 0))) ∧ Aside0 (wc.heap[gb1653]? = some (.cells #[.int .i64 t1640, (.slice Ao15 t1641.length co15), (.slice Ao16 t1644.length co16), (.slice Ao17 t1647.length co17)] 26 (0, 0))) ∧ Aside0 (IsS_l1Cur w wc g1639 t1636 x1640001_6 x1640002_6) ∧ Aside0 (Below w.heap.size w wc))
 case first =>
  have H := HC7.out
  clear HC7
  by_cases c23 : t1658 = true
  ·
   subst c23
   have H1 : ((spec_l1Below.f t1636 t1659 t1660 4).bind fun bt1661 => (spec_DrawGroupMark.j0 k (wrap64 (t1654 - 1)) bt1661.1 t1640 t1636 bt1661.2.1 bt1661.2.2 t1640 t1641 t1644 t1647)) = some (r1, r2, r3, r4, r5, r6, r7, r8) := by rw [if_pos rfl] at H; exact H
   clear H
   have H := H1
   clear H1
   replace H := Option.bind_eq_some_iff.mp H
   obtain ⟨⟨t1661, t1662, t1663⟩, A240, H⟩ := H
   replace H : (spec_DrawGroupMark.j0 k (wrap64 (t1654 - 1)) t1661 t1640 t1636 t1662 t1663 t1640 t1641 t1644 t1647) = some (r1, r2, r3, r4, r5, r6, r7, r8) := H
   have A24 := Aside0.mk A240
   clear A240
   have H' := Aside0.mk H
   clear H
   go_wp2_with (first | ((with_reducible refine gate_callee (f := 78) rfl ?_); refine goesL_ (some 31) rfl rfl Try.func78 (by kernel_rfl) rfl #[.pointer (some ⟨g1639, 0, none⟩), .int .i64 4] rfl sm_ ?_; (with_reducible refine (spec_l1Below.calls g1639 t1636 t1659 t1660 4 t1661 t1662 t1663 w _ ?side1 ?side2 A24.out).mono ?_); (case side1 => repeat (first | (with_reducible first | exact HI1639.out | apply IsS_l1Cur.alloc | apply IsS_l1Cur.drewN | apply IsS_l1Cur.drew | apply IsS_l1Cur.set_1 | apply IsS_l1Cur.set_2 | refine IsS_l1Cur.far ?_ NB1639_1635.out _ | refine IsS_l1Cur.far ?_ NB1639_1653.out _) | exact HI1639.out)); (case side2 => repeat (first | (with_reducible first | exact HB.out | apply below_alloc | apply pw_below_drewN | apply below_drew1 | refine below_set ?_ (IsS_l1Cur.ge HI1639.out) | refine below_set ?_ GE1635.out | refine below_set ?_ GE1653.out) | exact HB.out)); rintro e w25 ⟨rfl, hi, hb, hk⟩; refine ⟨_, rfl, ?_⟩; have n0_ := Aside0.mk (KeepBut.blk hk (g' := gb1635) (o := .cells #[.int .i64 0, .slice none 0 0, .slice none 0 0, .slice none 0 0] 26 (0, 0)) (bq_ BK1635.out) NB1635_1639.out (by simp)); have n1_ := Aside0.mk (Kd.R_mono (Kd.R_keep (IsS_l1Cur.apart (show IsS_l1Cur w _ g1639 t1636 t1659 t1660 from is_l1Cur_ HI1639.out) (rq_ HO1643.out) (by decide)) hk (fun _ h => h.2)) (fun _ h => h.1)); have n2_ := Aside0.mk (Kd.R_mono (Kd.R_keep (IsS_l1Cur.apart (show IsS_l1Cur w _ g1639 t1636 t1659 t1660 from is_l1Cur_ HI1639.out) (rq_ HO1646.out) (by decide)) hk (fun _ h => h.2)) (fun _ h => h.1)); have n3_ := Aside0.mk (Kd.R_mono (Kd.R_keep (IsS_l1Cur.apart (show IsS_l1Cur w _ g1639 t1636 t1659 t1660 from is_l1Cur_ HI1639.out) (rq_ HO1649.out) (by decide)) hk (fun _ h => h.2)) (fun _ h => h.1)); have n4_ := Aside0.mk (KeepBut.blk hk (g' := gb1653) (o := .cells #[.int .i64 t1640, .slice Ao15 t1641.length co15, .slice Ao16 t1644.length co16, .slice Ao17 t1647.length co17] 26 (0, 0)) (bq_ BK1653.out) NB1653_1639.out (by simp)); have n5_ := Aside0.mk (hb); have n6_ := Aside0.mk (hi); clear BK1635; clear HO1643; clear HO1646; clear HO1649; clear BK1653; clear HB; clear HI1639; have BK1635 := n0_; have HO1643 := n1_; have HO1646 := n2_; have HO1649 := n3_; have BK1653 := n4_; have HB := n5_; have HI1639 := n6_; clear n0_ n1_ n2_ n3_ n4_ n5_ n6_; (try clear hb); (try clear hb2); (try clear hk); (try clear hi)))
   go_meet
   case rel => exact ⟨_, (t1661), (t1662), (t1663), (by first | rfl | (simp; done) | (simp [*]; done)), H', ⟨by first | omega | exact Nat.le_refl _⟩, ⟨rq_ HO1643.out⟩, ⟨rq_ HO1646.out⟩, ⟨rq_ HO1649.out⟩, ⟨bq_ BK1635.out⟩, ⟨bq_ BK1653.out⟩, ⟨is_l1Cur_ HI1639.out⟩, ⟨by repeat (first | (with_reducible first | exact HB.out | apply below_alloc | apply pw_below_drewN | apply below_drew1 | refine below_set ?_ (IsS_l1Cur.ge HI1639.out) | refine below_set ?_ GE1635.out | refine below_set ?_ GE1653.out) | exact HB.out)⟩⟩
  ·
   replace c23 := Bool.eq_false_iff.mpr c23
   subst c23
   have H1 : (spec_DrawGroupMark.j0 k (wrap64 (t1654 - 1)) t1657 t1640 t1636 t1659 t1660 t1640 t1641 t1644 t1647) = some (r1, r2, r3, r4, r5, r6, r7, r8) := by rw [if_neg (show ¬ (false = true) by decide)] at H; exact H
   clear H
   have H := H1
   clear H1
   have H' := Aside0.mk H
   clear H
   go_wp2
   go_meet
   case rel => exact ⟨_, (t1657), (t1659), (t1660), (by first | rfl | (simp; done) | (simp [*]; done)), H', ⟨by first | omega | exact Nat.le_refl _⟩, ⟨rq_ HO1643.out⟩, ⟨rq_ HO1646.out⟩, ⟨rq_ HO1649.out⟩, ⟨bq_ BK1635.out⟩, ⟨bq_ BK1653.out⟩, ⟨is_l1Cur_ HI1639.out⟩, ⟨by repeat (first | (with_reducible first | exact HB.out | apply below_alloc | apply pw_below_drewN | apply below_drew1 | refine below_set ?_ (IsS_l1Cur.ge HI1639.out) | refine below_set ?_ GE1635.out | refine below_set ?_ GE1653.out) | exact HB.out)⟩⟩
 case rest =>
  clear HC7
  (try clear c1); (try clear c2); (try clear p2); (try clear p6); (try clear c7); (try clear c8); (try clear c12); (try clear c13); (try clear c23); (try clear hcz14_0); (try clear hcz14_1); (try clear hcz14_2); (try clear hcz14_3); (try clear hcz19_0); (try clear hcz19_1); (try clear hcz19_2); (try clear hcz19_3); (try clear hcz21_0); (try clear hcz21_1); (try clear hcz21_2); (try clear hcz21_3); (try clear hfz14_0); (try clear hfz14_1); (try clear hfz14_2); (try clear hfz14_3); (try clear hfz19_0); (try clear hfz19_1); (try clear hfz19_2); (try clear hfz19_3); (try clear hfz21_0); (try clear hfz21_1); (try clear hfz21_2); (try clear hfz21_3)
  obtain ⟨kq, x11_6, x1640001_6, x1640002_6, rfl, HA, HJ6, HO_1654001, HO_1654002, HO_1654003, BK1635, BK1653, HI1639, HB⟩ := hcut
  cases kq with
  | zero => exact absurd HA.out (by simp [spec_DrawGroupMark.j0])
  | succ kj6 =>
   have H := HA.out
   clear HA
   simp only [spec_DrawGroupMark.j0] at H
   replace H := Option.bind_eq_some_iff.mp H
   obtain ⟨⟨t1664, t1665, t1666⟩, A260, H⟩ := H
   replace H : (if t1664 = true then ((spec_l1Below.f t1636 t1665 t1666 4).bind fun bt1667 => (spec_DrawGroupMark.j1 kj6 (wrap64 (t1654 - 1)) x11_6 bt1667.1 t1636 bt1667.2.1 bt1667.2.2 t1640 t1641 t1644 t1647)) else (spec_DrawGroupMark.j1 kj6 (wrap64 (t1654 - 1)) x11_6 t1640 t1636 t1665 t1666 t1640 t1641 t1644 t1647)) = some (r1, r2, r3, r4, r5, r6, r7, r8) := H
   have A26 := Aside0.mk A260
   clear A260
   have HC27 := Aside0.mk H
   clear H
   go_upto_if 33 with (first | ((with_reducible refine gate_callee (f := 80) rfl ?_); refine goesL_ (some 33) rfl rfl Try.func80 (by kernel_rfl) rfl #[.pointer (some ⟨g1639, 0, none⟩), .int .i64 5] rfl sm_ ?_; (with_reducible refine (spec_l1Once.calls g1639 t1636 x1640001_6 x1640002_6 5 t1664 t1665 t1666 w _ ?side1 ?side2 A26.out).mono ?_); (case side1 => repeat (first | (with_reducible first | exact HI1639.out | apply IsS_l1Cur.alloc | apply IsS_l1Cur.drewN | apply IsS_l1Cur.drew | apply IsS_l1Cur.set_1 | apply IsS_l1Cur.set_2 | refine IsS_l1Cur.far ?_ NB1639_1635.out _ | refine IsS_l1Cur.far ?_ NB1639_1653.out _) | exact HI1639.out)); (case side2 => repeat (first | (with_reducible first | exact HB.out | apply below_alloc | apply pw_below_drewN | apply below_drew1 | refine below_set ?_ (IsS_l1Cur.ge HI1639.out) | refine below_set ?_ GE1635.out | refine below_set ?_ GE1653.out) | exact HB.out)); rintro e w28 ⟨rfl, hi, hb, hk⟩; refine ⟨_, rfl, ?_⟩; have n0_ := Aside0.mk (Kd.R_mono (Kd.R_keep (IsS_l1Cur.apart (show IsS_l1Cur w _ g1639 t1636 x1640001_6 x1640002_6 from is_l1Cur_ HI1639.out) (rq_ HO_1654001.out) (by decide)) hk (fun _ h => h.2)) (fun _ h => h.1)); have n1_ := Aside0.mk (Kd.R_mono (Kd.R_keep (IsS_l1Cur.apart (show IsS_l1Cur w _ g1639 t1636 x1640001_6 x1640002_6 from is_l1Cur_ HI1639.out) (rq_ HO_1654002.out) (by decide)) hk (fun _ h => h.2)) (fun _ h => h.1)); have n2_ := Aside0.mk (Kd.R_mono (Kd.R_keep (IsS_l1Cur.apart (show IsS_l1Cur w _ g1639 t1636 x1640001_6 x1640002_6 from is_l1Cur_ HI1639.out) (rq_ HO_1654003.out) (by decide)) hk (fun _ h => h.2)) (fun _ h => h.1)); have n3_ := Aside0.mk (KeepBut.blk hk (g' := gb1635) (o := .cells #[.int .i64 0, .slice none 0 0, .slice none 0 0, .slice none 0 0] 26 (0, 0)) (bq_ BK1635.out) NB1635_1639.out (by simp)); have n4_ := Aside0.mk (KeepBut.blk hk (g' := gb1653) (o := .cells #[.int .i64 t1640, .slice Ao15 t1641.length co15, .slice Ao16 t1644.length co16, .slice Ao17 t1647.length co17] 26 (0, 0)) (bq_ BK1653.out) NB1653_1639.out (by simp)); have n5_ := Aside0.mk (hb); have n6_ := Aside0.mk (hi); clear HO_1654001; clear HO_1654002; clear HO_1654003; clear BK1635; clear BK1653; clear HB; clear HI1639; have HO_1654001 := n0_; have HO_1654002 := n1_; have HO_1654003 := n2_; have BK1635 := n3_; have BK1653 := n4_; have HB := n5_; have HI1639 := n6_; clear n0_ n1_ n2_ n3_ n4_ n5_ n6_; (try clear hb); (try clear hb2); (try clear hk); (try clear hi)))
   (try simp only [Act.put, List.setIfInBounds_toArray, List.set_cons_zero, List.set_cons_succ])
   go_cut [12] (fun v12 wc => ∃ (kq : Nat) (x12_26 : Int) (x1640001_26 : Int) (x1640002_26 : Int), v12 = .int .i64 x12_26 ∧ Aside0 (spec_DrawGroupMark.j1 kq (wrap64 (t1654 - 1)) x11_6 x12_26 t1636 x1640001_26 x1640002_26 t1640 t1641 t1644 t1647 = some (r1, r2, r3, r4, r5, r6, r7, r8)) ∧ Aside0 (kq ≤ kj6) ∧ Aside0 (Kd.R (Kd.int .i64) 3 wc w.heap.size (fun k_ => some k_ ≠ ((.slice Ao16 t1644.length co16) : Value).ownBlock ∧ some k_ ≠ ((.slice Ao17 t1647.length co17) : Value).ownBlock) (.slice Ao15 t1641.length co15) t1641) ∧ Aside0 (Kd.R (Kd.int .i64) 3 wc w.heap.size (fun k_ => some k_ ≠ ((.slice Ao15 t1641.length co15) : Value).ownBlock ∧ some k_ ≠ ((.slice Ao17 t1647.length co17) : Value).ownBlock) (.slice Ao16 t1644.length co16) t1644) ∧ Aside0 (Kd.R (Kd.int .i64) 3 wc w.heap.size (fun k_ => some k_ ≠ ((.slice Ao15 t1641.length co15) : Value).ownBlock ∧ some k_ ≠ ((.slice Ao16 t1644.length co16) : Value).ownBlock) (.slice Ao17 t1647.length co17) t1647) ∧ Aside0 (wc.heap[gb1635]? = some (.cells #[.int .i64 0, (.slice none 0 0), (.slice none 0 0), (.slice none 0 0)] 26 (0, 0))) ∧ Aside0 (wc.heap[gb1653]? = some (.cells #[.int .i64 t1640, (.slice Ao15 t1641.length co15), (.slice Ao16 t1644.length co16), (.slice Ao17 t1647.length co17)] 26 (0, 0))) ∧ Aside0 (IsS_l1Cur w wc g1639 t1636 x1640001_26 x1640002_26) ∧ Aside0 (Below w.heap.size w wc))
   case first =>
    have H := HC27.out
    clear HC27
    by_cases c29 : t1664 = true
    ·
     subst c29
     have H1 : ((spec_l1Below.f t1636 t1665 t1666 4).bind fun bt1667 => (spec_DrawGroupMark.j1 kj6 (wrap64 (t1654 - 1)) x11_6 bt1667.1 t1636 bt1667.2.1 bt1667.2.2 t1640 t1641 t1644 t1647)) = some (r1, r2, r3, r4, r5, r6, r7, r8) := by rw [if_pos rfl] at H; exact H
     clear H
     have H := H1
     clear H1
     replace H := Option.bind_eq_some_iff.mp H
     obtain ⟨⟨t1667, t1668, t1669⟩, A300, H⟩ := H
     replace H : (spec_DrawGroupMark.j1 kj6 (wrap64 (t1654 - 1)) x11_6 t1667 t1636 t1668 t1669 t1640 t1641 t1644 t1647) = some (r1, r2, r3, r4, r5, r6, r7, r8) := H
     have A30 := Aside0.mk A300
     clear A300
     have H' := Aside0.mk H
     clear H
     go_wp2_with (first | ((with_reducible refine gate_callee (f := 78) rfl ?_); refine goesL_ (some 35) rfl rfl Try.func78 (by kernel_rfl) rfl #[.pointer (some ⟨g1639, 0, none⟩), .int .i64 4] rfl sm_ ?_; (with_reducible refine (spec_l1Below.calls g1639 t1636 t1665 t1666 4 t1667 t1668 t1669 w _ ?side1 ?side2 A30.out).mono ?_); (case side1 => repeat (first | (with_reducible first | exact HI1639.out | apply IsS_l1Cur.alloc | apply IsS_l1Cur.drewN | apply IsS_l1Cur.drew | apply IsS_l1Cur.set_1 | apply IsS_l1Cur.set_2 | refine IsS_l1Cur.far ?_ NB1639_1635.out _ | refine IsS_l1Cur.far ?_ NB1639_1653.out _) | exact HI1639.out)); (case side2 => repeat (first | (with_reducible first | exact HB.out | apply below_alloc | apply pw_below_drewN | apply below_drew1 | refine below_set ?_ (IsS_l1Cur.ge HI1639.out) | refine below_set ?_ GE1635.out | refine below_set ?_ GE1653.out) | exact HB.out)); rintro e w31 ⟨rfl, hi, hb, hk⟩; refine ⟨_, rfl, ?_⟩; have n0_ := Aside0.mk (Kd.R_mono (Kd.R_keep (IsS_l1Cur.apart (show IsS_l1Cur w _ g1639 t1636 t1665 t1666 from is_l1Cur_ HI1639.out) (rq_ HO_1654001.out) (by decide)) hk (fun _ h => h.2)) (fun _ h => h.1)); have n1_ := Aside0.mk (Kd.R_mono (Kd.R_keep (IsS_l1Cur.apart (show IsS_l1Cur w _ g1639 t1636 t1665 t1666 from is_l1Cur_ HI1639.out) (rq_ HO_1654002.out) (by decide)) hk (fun _ h => h.2)) (fun _ h => h.1)); have n2_ := Aside0.mk (Kd.R_mono (Kd.R_keep (IsS_l1Cur.apart (show IsS_l1Cur w _ g1639 t1636 t1665 t1666 from is_l1Cur_ HI1639.out) (rq_ HO_1654003.out) (by decide)) hk (fun _ h => h.2)) (fun _ h => h.1)); have n3_ := Aside0.mk (KeepBut.blk hk (g' := gb1635) (o := .cells #[.int .i64 0, .slice none 0 0, .slice none 0 0, .slice none 0 0] 26 (0, 0)) (bq_ BK1635.out) NB1635_1639.out (by simp)); have n4_ := Aside0.mk (KeepBut.blk hk (g' := gb1653) (o := .cells #[.int .i64 t1640, .slice Ao15 t1641.length co15, .slice Ao16 t1644.length co16, .slice Ao17 t1647.length co17] 26 (0, 0)) (bq_ BK1653.out) NB1653_1639.out (by simp)); have n5_ := Aside0.mk (hb); have n6_ := Aside0.mk (hi); clear HO_1654001; clear HO_1654002; clear HO_1654003; clear BK1635; clear BK1653; clear HB; clear HI1639; have HO_1654001 := n0_; have HO_1654002 := n1_; have HO_1654003 := n2_; have BK1635 := n3_; have BK1653 := n4_; have HB := n5_; have HI1639 := n6_; clear n0_ n1_ n2_ n3_ n4_ n5_ n6_; (try clear hb); (try clear hb2); (try clear hk); (try clear hi)))
     go_meet
     case rel => exact ⟨_, (t1667), (t1668), (t1669), (by first | rfl | (simp; done) | (simp [*]; done)), H', ⟨by have := HJ6.out; first | omega | exact Nat.le_refl _⟩, ⟨rq_ HO_1654001.out⟩, ⟨rq_ HO_1654002.out⟩, ⟨rq_ HO_1654003.out⟩, ⟨bq_ BK1635.out⟩, ⟨bq_ BK1653.out⟩, ⟨is_l1Cur_ HI1639.out⟩, ⟨by repeat (first | (with_reducible first | exact HB.out | apply below_alloc | apply pw_below_drewN | apply below_drew1 | refine below_set ?_ (IsS_l1Cur.ge HI1639.out) | refine below_set ?_ GE1635.out | refine below_set ?_ GE1653.out) | exact HB.out)⟩⟩
    ·
     replace c29 := Bool.eq_false_iff.mpr c29
     subst c29
     have H1 : (spec_DrawGroupMark.j1 kj6 (wrap64 (t1654 - 1)) x11_6 t1640 t1636 t1665 t1666 t1640 t1641 t1644 t1647) = some (r1, r2, r3, r4, r5, r6, r7, r8) := by rw [if_neg (show ¬ (false = true) by decide)] at H; exact H
     clear H
     have H := H1
     clear H1
     have H' := Aside0.mk H
     clear H
     go_wp2
     go_meet
     case rel => exact ⟨_, (t1640), (t1665), (t1666), (by first | rfl | (simp; done) | (simp [*]; done)), H', ⟨by have := HJ6.out; first | omega | exact Nat.le_refl _⟩, ⟨rq_ HO_1654001.out⟩, ⟨rq_ HO_1654002.out⟩, ⟨rq_ HO_1654003.out⟩, ⟨bq_ BK1635.out⟩, ⟨bq_ BK1653.out⟩, ⟨is_l1Cur_ HI1639.out⟩, ⟨by repeat (first | (with_reducible first | exact HB.out | apply below_alloc | apply pw_below_drewN | apply below_drew1 | refine below_set ?_ (IsS_l1Cur.ge HI1639.out) | refine below_set ?_ GE1635.out | refine below_set ?_ GE1653.out) | exact HB.out)⟩⟩
   case rest =>
    clear HC27
    (try clear c1); (try clear c2); (try clear p2); (try clear p6); (try clear c7); (try clear c8); (try clear c12); (try clear c13); (try clear c23); (try clear c29); (try clear hcz14_0); (try clear hcz14_1); (try clear hcz14_2); (try clear hcz14_3); (try clear hcz19_0); (try clear hcz19_1); (try clear hcz19_2); (try clear hcz19_3); (try clear hcz21_0); (try clear hcz21_1); (try clear hcz21_2); (try clear hcz21_3); (try clear hfz14_0); (try clear hfz14_1); (try clear hfz14_2); (try clear hfz14_3); (try clear hfz19_0); (try clear hfz19_1); (try clear hfz19_2); (try clear hfz19_3); (try clear hfz21_0); (try clear hfz21_1); (try clear hfz21_2); (try clear hfz21_3); (try clear p2); (try clear p6)
    obtain ⟨kq, x12_26, x1640001_26, x1640002_26, rfl, HA, HJ26, HO_1654001, HO_1654002, HO_1654003, BK1635, BK1653, HI1639, HB⟩ := hcut
    cases kq with
    | zero => exact absurd HA.out (by simp [spec_DrawGroupMark.j1])
    | succ kj26 =>
     have H := HA.out
     clear HA
     simp only [spec_DrawGroupMark.j1] at H
     replace H := Option.bind_eq_some_iff.mp H
     obtain ⟨⟨t1670, t1671, t1672⟩, A320, H⟩ := H
     replace H : (some (t1640, t1641, t1644, t1647, x11_6, x12_26, (wrap64 (t1654 - 1)), t1670)) = some (r1, r2, r3, r4, r5, r6, r7, r8) := H
     have A32 := Aside0.mk A320
     clear A320
     simp only [Option.some.injEq, Prod.mk.injEq] at H
     obtain ⟨rfl, rfl, rfl, rfl, rfl, rfl, rfl, rfl⟩ := H
     try go_wp2
     have n0_ := Aside0.mk (Kd.R_drew HO_1654001.out)
     have n1_ := Aside0.mk (Kd.R_drew HO_1654002.out)
     have n2_ := Aside0.mk (Kd.R_drew HO_1654003.out)
     have n3_ := Aside0.mk (blk_drew BK1635.out)
     have n4_ := Aside0.mk (blk_drew BK1653.out)
     have n5_ := Aside0.mk (IsS_l1Cur.drew HI1639.out)
     have n6_ := Aside0.mk (below_drew1 HB.out)
     clear HO_1654001; clear HO_1654002
     clear HO_1654003; clear BK1635
     clear BK1653; clear HI1639
     clear HB
     have HO_1654001 := n0_
     have HO_1654002 := n1_
     have HO_1654003 := n2_
     have BK1635 := n3_
     have BK1653 := n4_
     have HI1639 := n5_
     have HB := n6_
     clear n0_ n1_ n2_ n3_ n4_ n5_ n6_
     refine start_ (n := 11) (S := fun w' => w'.cell? ⟨gb1653, 0, none⟩ = some (.int .i64 t1640) ∧ w'.cell? ⟨gb1653, 1, none⟩ = some (.slice Ao15 t1641.length co15) ∧ w'.cell? ⟨gb1653, 2, none⟩ = some (.slice Ao16 t1644.length co16) ∧ w'.cell? ⟨gb1653, 3, none⟩ = some (.slice Ao17 t1647.length co17)) (ds := []) #[false, false, false, false, false, false, false, false, false, false, false] (by kernel_rfl) rfl rfl ⟨(blk_cell BK1653.out 0).trans rfl, (blk_cell BK1653.out 1).trans rfl, (blk_cell BK1653.out 2).trans rfl, (blk_cell BK1653.out 3).trans rfl⟩ (fun hHeld => ?_); refine with_tabW spec_DrawGroupMark.tab10 spec_DrawGroupMark.bits10 (fun HT_ HW_ => ?_)
     generalize wc.drew = w33 at HO_1654001 HO_1654002 HO_1654003 BK1635 BK1653 HI1639 HB hHeld ⊢
     refine pI_ 1 37 HT_ #[false, true, false, false, false, false, false, false, false, false, false] rfl rfl ?_
     refine pI_ 2 38 HT_ #[false, true, true, false, false, false, false, false, false, false, false] rfl rfl ?_
     refine pI_ 3 39 HT_ #[false, true, true, true, false, false, false, false, false, false, false] rfl rfl ?_
     refine pI_ 4 40 HT_ #[false, true, true, true, true, false, false, false, false, false, false] rfl rfl ?_
     refine take_ (i := 0) (N := some 36) (v := ?_) (a' := ?_) #[true, true, true, true, true, false, false, false, false, false, false] rfl rfl (take_ofW HT_.out HW_.out (by kernel_rfl)) (fun _ _ _ h => h) (Or.inl ⟨by rfl, ?_⟩) hHeld ?_ ?_
     rotate_left
     ·
      rintro w' ⟨s0, s1, s2, s3⟩
      go_simp
      with_reducible rfl
     rotate_left; (focus simp only [Act.put, List.setIfInBounds_toArray, List.set_cons_zero, List.set_cons_succ, i64_w, i32_w]; rfl)
     refine one_ (i := 5) (N := some 41) #[true, true, true, true, true, true, false, false, false, false, false] rfl rfl (one_of HT_.out (by kernel_rfl)) (by decide) (fun K hK => ?_)
     refine goes_ Try.func78 (by kernel_rfl) rfl #[.pointer (some ⟨g1639, 0, none⟩), .int .i64 12] (by rfl) rfl rfl sm_ ?_
     with_reducible refine (spec_l1Below.calls g1639 t1636 x1640001_26 x1640002_26 12 t1670 t1671 t1672 w _ ?side1 ?side2 A32.out).mono ?_
     (case side1 => repeat (first | (with_reducible first | exact HI1639.out | apply IsS_l1Cur.alloc | apply IsS_l1Cur.drewN | apply IsS_l1Cur.drew | apply IsS_l1Cur.set_1 | apply IsS_l1Cur.set_2 | refine IsS_l1Cur.far ?_ NB1639_1635.out _ | refine IsS_l1Cur.far ?_ NB1639_1653.out _) | exact HI1639.out))
     (case side2 => repeat (first | (with_reducible first | exact HB.out | apply below_alloc | apply pw_below_drewN | apply below_drew1 | refine below_set ?_ (IsS_l1Cur.ge HI1639.out) | refine below_set ?_ GE1635.out | refine below_set ?_ GE1653.out) | exact HB.out))
     rintro e w34 ⟨rfl, hi, hb, hk⟩
     refine ⟨_, rfl, ?_⟩
     have n0_ := Aside0.mk (Kd.R_mono (Kd.R_keep (IsS_l1Cur.apart (show IsS_l1Cur w _ g1639 t1636 x1640001_26 x1640002_26 from is_l1Cur_ HI1639.out) (rq_ HO_1654001.out) (by decide)) hk (fun _ h => h.2)) (fun _ h => h.1))
     have n1_ := Aside0.mk (Kd.R_mono (Kd.R_keep (IsS_l1Cur.apart (show IsS_l1Cur w _ g1639 t1636 x1640001_26 x1640002_26 from is_l1Cur_ HI1639.out) (rq_ HO_1654002.out) (by decide)) hk (fun _ h => h.2)) (fun _ h => h.1))
     have n2_ := Aside0.mk (Kd.R_mono (Kd.R_keep (IsS_l1Cur.apart (show IsS_l1Cur w _ g1639 t1636 x1640001_26 x1640002_26 from is_l1Cur_ HI1639.out) (rq_ HO_1654003.out) (by decide)) hk (fun _ h => h.2)) (fun _ h => h.1))
     have n3_ := Aside0.mk (KeepBut.blk hk (g' := gb1635) (o := .cells #[.int .i64 0, .slice none 0 0, .slice none 0 0, .slice none 0 0] 26 (0, 0)) (bq_ BK1635.out) NB1635_1639.out (by simp))
     have n4_ := Aside0.mk (KeepBut.blk hk (g' := gb1653) (o := .cells #[.int .i64 t1640, .slice Ao15 t1641.length co15, .slice Ao16 t1644.length co16, .slice Ao17 t1647.length co17] 26 (0, 0)) (bq_ BK1653.out) NB1653_1639.out (by simp))
     have n5_ := Aside0.mk (hb)
     have n6_ := Aside0.mk (hi)
     clear HO_1654001; clear HO_1654002
     clear HO_1654003; clear BK1635
     clear BK1653; clear HB
     clear HI1639
     have HO_1654001 := n0_
     have HO_1654002 := n1_
     have HO_1654003 := n2_
     have BK1635 := n3_
     have BK1653 := n4_
     have HB := n5_
     have HI1639 := n6_
     clear n0_ n1_ n2_ n3_ n4_ n5_ n6_
     (try clear hb)
     (try clear hb2)
     (try clear hk)
     (try clear hi)
     refine hK.out _ _ ⟨(blk_cell BK1653.out 0).trans rfl, (blk_cell BK1653.out 1).trans rfl, (blk_cell BK1653.out 2).trans rfl, (blk_cell BK1653.out 3).trans rfl⟩ (fun hHeld => ?_)
     clear hK K
     refine norm_ (a' := ?_) ?_ ?_
     rotate_left
     ·
      show Act.put _ (some 41) _ = _
      simp only [Act.put, List.setIfInBounds_toArray, List.set_cons_zero, List.set_cons_succ, i64_w, i32_w]
      rfl
     refine one_ (i := 6) (N := none) #[true, true, true, true, true, true, true, false, false, false, false] rfl rfl (one_of HT_.out (by kernel_rfl)) (by decide) (fun K hK => ?_)
     have hs35 : w34.cell? ⟨gb1635, 0, none⟩ = some (.int .i64 0) := (blk_cell BK1635.out 0).trans rfl
     have hfs35 := blk_frozen BK1635.out 0
     have hns35_1 := NB1653_1635.out
     have hms35_1 := NB1635_1653.out
     have hs36 : w34.cell? ⟨gb1635, 1, none⟩ = some (.slice none 0 0) := (blk_cell BK1635.out 1).trans rfl
     have hfs36 := blk_frozen BK1635.out 1
     have hns36_1 := NB1653_1635.out
     have hms36_1 := NB1635_1653.out
     have hs37 : w34.cell? ⟨gb1635, 2, none⟩ = some (.slice none 0 0) := (blk_cell BK1635.out 2).trans rfl
     have hfs37 := blk_frozen BK1635.out 2
     have hns37_1 := NB1653_1635.out
     have hms37_1 := NB1635_1653.out
     have hs38 : w34.cell? ⟨gb1635, 3, none⟩ = some (.slice none 0 0) := (blk_cell BK1635.out 3).trans rfl
     have hfs38 := blk_frozen BK1635.out 3
     have hns38_1 := NB1653_1635.out
     have hms38_1 := NB1635_1653.out
     refine skip_ (w1 := ?_) (by rfl) rfl ?_ ?_
     rotate_left; (focus go_simp; rfl)
     refine hK.out _ _ ⟨((cell_far (p := ⟨gb1635, _, none⟩) NB1653_1635.out _).trans (((cell_far (p := ⟨gb1635, _, none⟩) NB1653_1635.out _).trans (((cell_far (p := ⟨gb1635, _, none⟩) NB1653_1635.out _).trans (((cell_far (p := ⟨gb1635, _, none⟩) NB1653_1635.out _).trans (hHeld.1)))))))), ((cell_far (p := ⟨gb1635, _, none⟩) NB1653_1635.out _).trans (((cell_far (p := ⟨gb1635, _, none⟩) NB1653_1635.out _).trans (((cell_far (p := ⟨gb1635, _, none⟩) NB1653_1635.out _).trans (((cell_far (p := ⟨gb1635, _, none⟩) NB1653_1635.out _).trans (hHeld.2.1)))))))), ((cell_far (p := ⟨gb1635, _, none⟩) NB1653_1635.out _).trans (((cell_far (p := ⟨gb1635, _, none⟩) NB1653_1635.out _).trans (((cell_far (p := ⟨gb1635, _, none⟩) NB1653_1635.out _).trans (((cell_far (p := ⟨gb1635, _, none⟩) NB1653_1635.out _).trans (hHeld.2.2.1)))))))), ((cell_far (p := ⟨gb1635, _, none⟩) NB1653_1635.out _).trans (((cell_far (p := ⟨gb1635, _, none⟩) NB1653_1635.out _).trans (((cell_far (p := ⟨gb1635, _, none⟩) NB1653_1635.out _).trans (((cell_far (p := ⟨gb1635, _, none⟩) NB1653_1635.out _).trans (hHeld.2.2.2))))))))⟩ (fun hHeld => ?_)
     clear hK K
     refine pI_ 7 3 HT_ #[true, true, true, true, true, true, true, true, false, false, false] rfl rfl ?_
     refine pI_ 8 4 HT_ #[true, true, true, true, true, true, true, true, true, false, false] rfl rfl ?_
     refine pI_ 9 5 HT_ #[true, true, true, true, true, true, true, true, true, true, false] rfl rfl ?_
     refine pI_ 10 6 HT_ #[true, true, true, true, true, true, true, true, true, true, true] rfl rfl ?_
     refine done_ (done_of HT_.out (by kernel_rfl)) ?_
     try go_wp2
     refine bodyPost_ret (results_list (rs := [.cell 2 26, .tmp 3, .tmp 4, .tmp 5, .tmp 6]) rfl (by simp) (.cell gb1635 26 #[.int .i64 t1640, .slice Ao15 t1641.length co15, .slice Ao16 t1644.length co16, .slice Ao17 t1647.length co17] (0, 0) _ rfl (bp_ BK1635.out) Try.underlying26 rfl (by kernel_rfl) (.tmp (.tmp (.tmp (.tmp .nil)))))) rfl ?_
     exact ⟨_, _, _, er_, by (with_reducible repeat (first | apply Kd.R_alloc | apply Kd.R_drewN | apply Kd.R_drew)); exact Kd.R_mono (Kd.R_far (p := ⟨gb1635, 3, none⟩) (Kd.R_far (p := ⟨gb1635, 2, none⟩) (Kd.R_far (p := ⟨gb1635, 1, none⟩) (Kd.R_far (p := ⟨gb1635, 0, none⟩) (Kd.R_types HO_1654001.out BK1635.out (by decide)) (fun _ hk => hk.2) (.int .i64 t1640)) (fun _ hk => hk.2) (.slice Ao15 t1641.length co15)) (fun _ hk => hk.2) (.slice Ao16 t1644.length co16)) (fun _ hk => hk.2) (.slice Ao17 t1647.length co17)) (fun _ hk => ⟨hk.1.1, hk.1.2⟩), by (with_reducible repeat (first | apply Kd.R_alloc | apply Kd.R_drewN | apply Kd.R_drew)); exact Kd.R_mono (Kd.R_far (p := ⟨gb1635, 3, none⟩) (Kd.R_far (p := ⟨gb1635, 2, none⟩) (Kd.R_far (p := ⟨gb1635, 1, none⟩) (Kd.R_far (p := ⟨gb1635, 0, none⟩) (Kd.R_types HO_1654002.out BK1635.out (by decide)) (fun _ hk => hk.2) (.int .i64 t1640)) (fun _ hk => hk.2) (.slice Ao15 t1641.length co15)) (fun _ hk => hk.2) (.slice Ao16 t1644.length co16)) (fun _ hk => hk.2) (.slice Ao17 t1647.length co17)) (fun _ hk => ⟨hk.1.1, hk.1.2⟩), by (with_reducible repeat (first | apply Kd.R_alloc | apply Kd.R_drewN | apply Kd.R_drew)); exact Kd.R_mono (Kd.R_far (p := ⟨gb1635, 3, none⟩) (Kd.R_far (p := ⟨gb1635, 2, none⟩) (Kd.R_far (p := ⟨gb1635, 1, none⟩) (Kd.R_far (p := ⟨gb1635, 0, none⟩) (Kd.R_types HO_1654003.out BK1635.out (by decide)) (fun _ hk => hk.2) (.int .i64 t1640)) (fun _ hk => hk.2) (.slice Ao15 t1641.length co15)) (fun _ hk => hk.2) (.slice Ao16 t1644.length co16)) (fun _ hk => hk.2) (.slice Ao17 t1647.length co17)) (fun _ hk => ⟨hk.1.1, hk.1.2⟩), by repeat (first | (with_reducible first | exact HB.out | apply below_alloc | apply pw_below_drewN | apply below_drew1 | refine below_set ?_ (IsS_l1Cur.ge HI1639.out) | refine below_set ?_ GE1635.out | refine below_set ?_ GE1653.out) | exact HB.out)⟩
/-! ### impl_OwnerOf: function 17 -/
def impl_OwnerOf.f (a0_0 : Int) (l0_1 : List Int) (l0_2 : List Int) (l0_3 : List Int) (a1 : Int) : Option (Int) := if (l0_1.length : Int) = 0 then (some (-1)) else (if a1 < 0 then (some (-1)) else (if 0 ≤ (Int.tmod a1 (l0_1.length : Int)) then (if (Int.tmod a1 (l0_1.length : Int)) < (l0_1.length : Int) then (some (rd l0_1 (Int.tmod a1 (l0_1.length : Int)))) else (none)) else (none)))
set_option maxHeartbeats 8000000 in
set_option maxRecDepth 100000 in
theorem impl_OwnerOf.calls (a0_0 : Int) (A0_1 : Option Addr) (c0_1 : Nat) (l0_1 : List Int) (A0_2 : Option Addr) (c0_2 : Nat) (l0_2 : List Int) (A0_3 : Option Addr) (c0_3 : Nat) (l0_3 : List Int) (a1 : Int) (r : Int) (w : World) (hr0_1 : Kd.C (Kd.int .i64) w A0_1 l0_1.length l0_1) (hc0_1 : l0_1.length ≤ c0_1) (hr0_2 : Kd.C (Kd.int .i64) w A0_2 l0_2.length l0_2) (hc0_2 : l0_2.length ≤ c0_2) (hr0_3 : Kd.C (Kd.int .i64) w A0_3 l0_3.length l0_3) (hc0_3 : l0_3.length ≤ c0_3) (h : impl_OwnerOf.f a0_0 l0_1 l0_2 l0_3 a1 = some r) :
 Calls Try.prog 17 #[.agg #[.int .i64 a0_0, .slice A0_1 l0_1.length c0_1, .slice A0_2 l0_2.length c0_2, .slice A0_3 l0_3.length c0_3], .int .i64 a1] w fun e w' => e = .returned (.int .i64 r) ∧ Below w.heap.size w w' := by
 have hu26 := Try.underlying26
 have HR0_1 := Aside0.mk hr0_1
 have HC0_1 := Aside0.mk hc0_1
 clear hr0_1 hc0_1
 have HR0_2 := Aside0.mk hr0_2
 have HC0_2 := Aside0.mk hc0_2
 clear hr0_2 hc0_2
 have HR0_3 := Aside0.mk hr0_3
 have HC0_3 := Aside0.mk hc0_3
 clear hr0_3 hc0_3
 have HB := Aside0.mk (Below.refl w.heap.size w)
 have H : (if (l0_1.length : Int) = 0 then (some (-1)) else (if a1 < 0 then (some (-1)) else (if 0 ≤ (Int.tmod a1 (l0_1.length : Int)) then (if (Int.tmod a1 (l0_1.length : Int)) < (l0_1.length : Int) then (some (rd l0_1 (Int.tmod a1 (l0_1.length : Int)))) else (none)) else (none)))) = some r := h
 clear h
 by_cases c3 : (l0_1.length : Int) = 0
 ·
  rw [if_pos c3] at H
  have c3b0 : ((l0_1.length : Int) == 0) = true := beq_iff_eq.mpr c3
  have c3b1 : ((l0_1.length : Int) != 0) = false := bne_eq_false_iff_eq.mpr c3
  clear c3
  obtain rfl := Option.some.inj H
  go_enter Try.func17, Try.ntmps17
  go_wp2_with (first | ((with_reducible refine gate_dst (N := 2) rfl ?_); refine box_event ?hg (N := 2) ?hd (cs := #[.int .i64 a0_0, .slice A0_1 l0_1.length c0_1, .slice A0_2 l0_2.length c0_2, .slice A0_3 l0_3.length c0_3]) (t := 26) ?hr ?_; (case hd => rfl); (case hg => rfl); (case hr => first | (go_simp; done) | (go_simp; rfl)); intro gb1673 hg w4 hbox hb; have n0_ := Aside0.mk (below_step (hb_ HB.out) hb); have n1_ := Aside0.mk (hbox); have n2_ := Aside0.mk ((by rw [hg]; exact (below_size (hb_ HB.out)) : w.heap.size ≤ gb1673)); have n3_ := Aside0.mk ((by rw [hg]; exact (below_size (hb_ HB.out)) : w.heap.size ≤ gb1673)); clear HB; have HB := n0_; have BK1673 := n1_; have GW1673 := n2_; have GE1673 := n3_; clear n0_ n1_ n2_ n3_; clear hb hbox hg; have hcz5_0 : w4.cell? ⟨gb1673, 0, none⟩ = some (.int .i64 a0_0) := (blk_cell BK1673.out 0).trans rfl; have hcz5_1 : w4.cell? ⟨gb1673, 1, none⟩ = some (.slice A0_1 l0_1.length c0_1) := (blk_cell BK1673.out 1).trans rfl; have hcz5_2 : w4.cell? ⟨gb1673, 2, none⟩ = some (.slice A0_2 l0_2.length c0_2) := (blk_cell BK1673.out 2).trans rfl; have hcz5_3 : w4.cell? ⟨gb1673, 3, none⟩ = some (.slice A0_3 l0_3.length c0_3) := (blk_cell BK1673.out 3).trans rfl; have hfz5_0 := blk_frozen BK1673.out 0; have hfz5_1 := blk_frozen BK1673.out 1; have hfz5_2 := blk_frozen BK1673.out 2; have hfz5_3 := blk_frozen BK1673.out 3))
  repeat (go_quiet (first | ((with_reducible refine gate_dst (N := 2) rfl ?_); refine box_event ?hg (N := 2) ?hd (cs := #[.int .i64 a0_0, .slice A0_1 l0_1.length c0_1, .slice A0_2 l0_2.length c0_2, .slice A0_3 l0_3.length c0_3]) (t := 26) ?hr ?_; (case hd => rfl); (case hg => rfl); (case hr => first | (go_simp; done) | (go_simp; rfl)); intro gb1673 hg w4 hbox hb; have n0_ := Aside0.mk (below_step (hb_ HB.out) hb); have n1_ := Aside0.mk (hbox); have n2_ := Aside0.mk ((by rw [hg]; exact (below_size (hb_ HB.out)) : w.heap.size ≤ gb1673)); have n3_ := Aside0.mk ((by rw [hg]; exact (below_size (hb_ HB.out)) : w.heap.size ≤ gb1673)); clear HB; have HB := n0_; have BK1673 := n1_; have GW1673 := n2_; have GE1673 := n3_; clear n0_ n1_ n2_ n3_; clear hb hbox hg; have hcz5_0 : w4.cell? ⟨gb1673, 0, none⟩ = some (.int .i64 a0_0) := (blk_cell BK1673.out 0).trans rfl; have hcz5_1 : w4.cell? ⟨gb1673, 1, none⟩ = some (.slice A0_1 l0_1.length c0_1) := (blk_cell BK1673.out 1).trans rfl; have hcz5_2 : w4.cell? ⟨gb1673, 2, none⟩ = some (.slice A0_2 l0_2.length c0_2) := (blk_cell BK1673.out 2).trans rfl; have hcz5_3 : w4.cell? ⟨gb1673, 3, none⟩ = some (.slice A0_3 l0_3.length c0_3) := (blk_cell BK1673.out 3).trans rfl; have hfz5_0 := blk_frozen BK1673.out 0; have hfz5_1 := blk_frozen BK1673.out 1; have hfz5_2 := blk_frozen BK1673.out 2; have hfz5_3 := blk_frozen BK1673.out 3)); try go_wp2_with (first | ((with_reducible refine gate_dst (N := 2) rfl ?_); refine box_event ?hg (N := 2) ?hd (cs := #[.int .i64 a0_0, .slice A0_1 l0_1.length c0_1, .slice A0_2 l0_2.length c0_2, .slice A0_3 l0_3.length c0_3]) (t := 26) ?hr ?_; (case hd => rfl); (case hg => rfl); (case hr => first | (go_simp; done) | (go_simp; rfl)); intro gb1673 hg w4 hbox hb; have n0_ := Aside0.mk (below_step (hb_ HB.out) hb); have n1_ := Aside0.mk (hbox); have n2_ := Aside0.mk ((by rw [hg]; exact (below_size (hb_ HB.out)) : w.heap.size ≤ gb1673)); have n3_ := Aside0.mk ((by rw [hg]; exact (below_size (hb_ HB.out)) : w.heap.size ≤ gb1673)); clear HB; have HB := n0_; have BK1673 := n1_; have GW1673 := n2_; have GE1673 := n3_; clear n0_ n1_ n2_ n3_; clear hb hbox hg; have hcz5_0 : w4.cell? ⟨gb1673, 0, none⟩ = some (.int .i64 a0_0) := (blk_cell BK1673.out 0).trans rfl; have hcz5_1 : w4.cell? ⟨gb1673, 1, none⟩ = some (.slice A0_1 l0_1.length c0_1) := (blk_cell BK1673.out 1).trans rfl; have hcz5_2 : w4.cell? ⟨gb1673, 2, none⟩ = some (.slice A0_2 l0_2.length c0_2) := (blk_cell BK1673.out 2).trans rfl; have hcz5_3 : w4.cell? ⟨gb1673, 3, none⟩ = some (.slice A0_3 l0_3.length c0_3) := (blk_cell BK1673.out 3).trans rfl; have hfz5_0 := blk_frozen BK1673.out 0; have hfz5_1 := blk_frozen BK1673.out 1; have hfz5_2 := blk_frozen BK1673.out 2; have hfz5_3 := blk_frozen BK1673.out 3)))
  go_ret
  exact ⟨er_, hb_ HB.out⟩
 ·
  rw [if_neg c3] at H
  have c3b0 : ((l0_1.length : Int) == 0) = false := beq_eq_false_iff_ne.mpr c3
  have c3b1 : ((l0_1.length : Int) != 0) = true := bne_iff_ne.mpr c3
  have c3b2 : ¬ (l0_1 = []) := fun h_ => c3 (by rw [h_]; rfl)
  by_cases c6 : a1 < 0
  ·
   rw [if_pos c6] at H
   have c6b0 : decide (a1 < 0) = true := decide_eq_true c6
   clear c6
   obtain rfl := Option.some.inj H
   go_enter Try.func17, Try.ntmps17
   go_wp2_with (first | ((with_reducible refine gate_dst (N := 2) rfl ?_); refine box_event ?hg (N := 2) ?hd (cs := #[.int .i64 a0_0, .slice A0_1 l0_1.length c0_1, .slice A0_2 l0_2.length c0_2, .slice A0_3 l0_3.length c0_3]) (t := 26) ?hr ?_; (case hd => rfl); (case hg => rfl); (case hr => first | (go_simp; done) | (go_simp; rfl)); intro gb1673 hg w7 hbox hb; have n0_ := Aside0.mk (below_step (hb_ HB.out) hb); have n1_ := Aside0.mk (hbox); have n2_ := Aside0.mk ((by rw [hg]; exact (below_size (hb_ HB.out)) : w.heap.size ≤ gb1673)); have n3_ := Aside0.mk ((by rw [hg]; exact (below_size (hb_ HB.out)) : w.heap.size ≤ gb1673)); clear HB; have HB := n0_; have BK1673 := n1_; have GW1673 := n2_; have GE1673 := n3_; clear n0_ n1_ n2_ n3_; clear hb hbox hg; have hcz8_0 : w7.cell? ⟨gb1673, 0, none⟩ = some (.int .i64 a0_0) := (blk_cell BK1673.out 0).trans rfl; have hcz8_1 : w7.cell? ⟨gb1673, 1, none⟩ = some (.slice A0_1 l0_1.length c0_1) := (blk_cell BK1673.out 1).trans rfl; have hcz8_2 : w7.cell? ⟨gb1673, 2, none⟩ = some (.slice A0_2 l0_2.length c0_2) := (blk_cell BK1673.out 2).trans rfl; have hcz8_3 : w7.cell? ⟨gb1673, 3, none⟩ = some (.slice A0_3 l0_3.length c0_3) := (blk_cell BK1673.out 3).trans rfl; have hfz8_0 := blk_frozen BK1673.out 0; have hfz8_1 := blk_frozen BK1673.out 1; have hfz8_2 := blk_frozen BK1673.out 2; have hfz8_3 := blk_frozen BK1673.out 3))
   repeat (go_quiet (first | ((with_reducible refine gate_dst (N := 2) rfl ?_); refine box_event ?hg (N := 2) ?hd (cs := #[.int .i64 a0_0, .slice A0_1 l0_1.length c0_1, .slice A0_2 l0_2.length c0_2, .slice A0_3 l0_3.length c0_3]) (t := 26) ?hr ?_; (case hd => rfl); (case hg => rfl); (case hr => first | (go_simp; done) | (go_simp; rfl)); intro gb1673 hg w7 hbox hb; have n0_ := Aside0.mk (below_step (hb_ HB.out) hb); have n1_ := Aside0.mk (hbox); have n2_ := Aside0.mk ((by rw [hg]; exact (below_size (hb_ HB.out)) : w.heap.size ≤ gb1673)); have n3_ := Aside0.mk ((by rw [hg]; exact (below_size (hb_ HB.out)) : w.heap.size ≤ gb1673)); clear HB; have HB := n0_; have BK1673 := n1_; have GW1673 := n2_; have GE1673 := n3_; clear n0_ n1_ n2_ n3_; clear hb hbox hg; have hcz8_0 : w7.cell? ⟨gb1673, 0, none⟩ = some (.int .i64 a0_0) := (blk_cell BK1673.out 0).trans rfl; have hcz8_1 : w7.cell? ⟨gb1673, 1, none⟩ = some (.slice A0_1 l0_1.length c0_1) := (blk_cell BK1673.out 1).trans rfl; have hcz8_2 : w7.cell? ⟨gb1673, 2, none⟩ = some (.slice A0_2 l0_2.length c0_2) := (blk_cell BK1673.out 2).trans rfl; have hcz8_3 : w7.cell? ⟨gb1673, 3, none⟩ = some (.slice A0_3 l0_3.length c0_3) := (blk_cell BK1673.out 3).trans rfl; have hfz8_0 := blk_frozen BK1673.out 0; have hfz8_1 := blk_frozen BK1673.out 1; have hfz8_2 := blk_frozen BK1673.out 2; have hfz8_3 := blk_frozen BK1673.out 3)); try go_wp2_with (first | ((with_reducible refine gate_dst (N := 2) rfl ?_); refine box_event ?hg (N := 2) ?hd (cs := #[.int .i64 a0_0, .slice A0_1 l0_1.length c0_1, .slice A0_2 l0_2.length c0_2, .slice A0_3 l0_3.length c0_3]) (t := 26) ?hr ?_; (case hd => rfl); (case hg => rfl); (case hr => first | (go_simp; done) | (go_simp; rfl)); intro gb1673 hg w7 hbox hb; have n0_ := Aside0.mk (below_step (hb_ HB.out) hb); have n1_ := Aside0.mk (hbox); have n2_ := Aside0.mk ((by rw [hg]; exact (below_size (hb_ HB.out)) : w.heap.size ≤ gb1673)); have n3_ := Aside0.mk ((by rw [hg]; exact (below_size (hb_ HB.out)) : w.heap.size ≤ gb1673)); clear HB; have HB := n0_; have BK1673 := n1_; have GW1673 := n2_; have GE1673 := n3_; clear n0_ n1_ n2_ n3_; clear hb hbox hg; have hcz8_0 : w7.cell? ⟨gb1673, 0, none⟩ = some (.int .i64 a0_0) := (blk_cell BK1673.out 0).trans rfl; have hcz8_1 : w7.cell? ⟨gb1673, 1, none⟩ = some (.slice A0_1 l0_1.length c0_1) := (blk_cell BK1673.out 1).trans rfl; have hcz8_2 : w7.cell? ⟨gb1673, 2, none⟩ = some (.slice A0_2 l0_2.length c0_2) := (blk_cell BK1673.out 2).trans rfl; have hcz8_3 : w7.cell? ⟨gb1673, 3, none⟩ = some (.slice A0_3 l0_3.length c0_3) := (blk_cell BK1673.out 3).trans rfl; have hfz8_0 := blk_frozen BK1673.out 0; have hfz8_1 := blk_frozen BK1673.out 1; have hfz8_2 := blk_frozen BK1673.out 2; have hfz8_3 := blk_frozen BK1673.out 3)))
   go_ret
   exact ⟨er_, hb_ HB.out⟩
  ·
   rw [if_neg c6] at H
   have c6b0 : decide (a1 < 0) = false := decide_eq_false c6
   clear c6
   obtain ⟨ji9, hji9⟩ : ∃ j_ : Int, (Int.tmod a1 (l0_1.length : Int)) = j_ := ⟨_, rfl⟩
   replace H : (if 0 ≤ (ji9) then (if (ji9) < (l0_1.length : Int) then (some (rd l0_1 (ji9))) else (none)) else (none)) = some r := by first | (rw [hji9] at H; exact H) | (simp only [hji9] at H ⊢; exact H)
   by_cases c10 : 0 ≤ (ji9)
   ·
    rw [if_pos c10] at H
    have c10b0 : decide (0 ≤ (ji9)) = true := decide_eq_true c10
    clear c10
    by_cases c11 : (ji9) < (l0_1.length : Int)
    ·
     rw [if_pos c11] at H
     have c11b0 : decide ((ji9) < (l0_1.length : Int)) = true := decide_eq_true c11
     clear c11
     obtain rfl := Option.some.inj H
     go_enter Try.func17, Try.ntmps17
     go_wp2_with (first | ((with_reducible refine gate_dst (N := 2) rfl ?_); refine box_event ?hg (N := 2) ?hd (cs := #[.int .i64 a0_0, .slice A0_1 l0_1.length c0_1, .slice A0_2 l0_2.length c0_2, .slice A0_3 l0_3.length c0_3]) (t := 26) ?hr ?_; (case hd => rfl); (case hg => rfl); (case hr => first | (go_simp; done) | (go_simp; rfl)); intro gb1673 hg w12 hbox hb; have n0_ := Aside0.mk (below_step (hb_ HB.out) hb); have n1_ := Aside0.mk (hbox); have n2_ := Aside0.mk ((by rw [hg]; exact (below_size (hb_ HB.out)) : w.heap.size ≤ gb1673)); have n3_ := Aside0.mk ((by rw [hg]; exact (below_size (hb_ HB.out)) : w.heap.size ≤ gb1673)); clear HB; have HB := n0_; have BK1673 := n1_; have GW1673 := n2_; have GE1673 := n3_; clear n0_ n1_ n2_ n3_; clear hb hbox hg; have hcz13_0 : w12.cell? ⟨gb1673, 0, none⟩ = some (.int .i64 a0_0) := (blk_cell BK1673.out 0).trans rfl; have hcz13_1 : w12.cell? ⟨gb1673, 1, none⟩ = some (.slice A0_1 l0_1.length c0_1) := (blk_cell BK1673.out 1).trans rfl; have hcz13_2 : w12.cell? ⟨gb1673, 2, none⟩ = some (.slice A0_2 l0_2.length c0_2) := (blk_cell BK1673.out 2).trans rfl; have hcz13_3 : w12.cell? ⟨gb1673, 3, none⟩ = some (.slice A0_3 l0_3.length c0_3) := (blk_cell BK1673.out 3).trans rfl; have hfz13_0 := blk_frozen BK1673.out 0; have hfz13_1 := blk_frozen BK1673.out 1; have hfz13_2 := blk_frozen BK1673.out 2; have hfz13_3 := blk_frozen BK1673.out 3; have p1674 : 0 ≤ ((ji9) : Int) := of_decide_eq_true (by first | (with_reducible assumption) | assumption); have q1674 : (ji9) < (l0_1.length : Int) := of_decide_eq_true (by first | (with_reducible assumption) | assumption); obtain ⟨ad1674, e1674, hx1674_0⟩ := Kd.at_int HR0_1.out (ji9) p1674 q1674; cases e1674; replace hx1674_0 := (HB.out.cell (World.block_lt_of_cell? w _ hx1674_0)).trans hx1674_0; replace p1674 := eq_true p1674; replace q1674 := eq_true q1674))
     repeat (go_quiet (first | ((with_reducible refine gate_dst (N := 2) rfl ?_); refine box_event ?hg (N := 2) ?hd (cs := #[.int .i64 a0_0, .slice A0_1 l0_1.length c0_1, .slice A0_2 l0_2.length c0_2, .slice A0_3 l0_3.length c0_3]) (t := 26) ?hr ?_; (case hd => rfl); (case hg => rfl); (case hr => first | (go_simp; done) | (go_simp; rfl)); intro gb1673 hg w12 hbox hb; have n0_ := Aside0.mk (below_step (hb_ HB.out) hb); have n1_ := Aside0.mk (hbox); have n2_ := Aside0.mk ((by rw [hg]; exact (below_size (hb_ HB.out)) : w.heap.size ≤ gb1673)); have n3_ := Aside0.mk ((by rw [hg]; exact (below_size (hb_ HB.out)) : w.heap.size ≤ gb1673)); clear HB; have HB := n0_; have BK1673 := n1_; have GW1673 := n2_; have GE1673 := n3_; clear n0_ n1_ n2_ n3_; clear hb hbox hg; have hcz13_0 : w12.cell? ⟨gb1673, 0, none⟩ = some (.int .i64 a0_0) := (blk_cell BK1673.out 0).trans rfl; have hcz13_1 : w12.cell? ⟨gb1673, 1, none⟩ = some (.slice A0_1 l0_1.length c0_1) := (blk_cell BK1673.out 1).trans rfl; have hcz13_2 : w12.cell? ⟨gb1673, 2, none⟩ = some (.slice A0_2 l0_2.length c0_2) := (blk_cell BK1673.out 2).trans rfl; have hcz13_3 : w12.cell? ⟨gb1673, 3, none⟩ = some (.slice A0_3 l0_3.length c0_3) := (blk_cell BK1673.out 3).trans rfl; have hfz13_0 := blk_frozen BK1673.out 0; have hfz13_1 := blk_frozen BK1673.out 1; have hfz13_2 := blk_frozen BK1673.out 2; have hfz13_3 := blk_frozen BK1673.out 3; have p1674 : 0 ≤ ((ji9) : Int) := of_decide_eq_true (by first | (with_reducible assumption) | assumption); have q1674 : (ji9) < (l0_1.length : Int) := of_decide_eq_true (by first | (with_reducible assumption) | assumption); obtain ⟨ad1674, e1674, hx1674_0⟩ := Kd.at_int HR0_1.out (ji9) p1674 q1674; cases e1674; replace hx1674_0 := (HB.out.cell (World.block_lt_of_cell? w _ hx1674_0)).trans hx1674_0; replace p1674 := eq_true p1674; replace q1674 := eq_true q1674)); try go_wp2_with (first | ((with_reducible refine gate_dst (N := 2) rfl ?_); refine box_event ?hg (N := 2) ?hd (cs := #[.int .i64 a0_0, .slice A0_1 l0_1.length c0_1, .slice A0_2 l0_2.length c0_2, .slice A0_3 l0_3.length c0_3]) (t := 26) ?hr ?_; (case hd => rfl); (case hg => rfl); (case hr => first | (go_simp; done) | (go_simp; rfl)); intro gb1673 hg w12 hbox hb; have n0_ := Aside0.mk (below_step (hb_ HB.out) hb); have n1_ := Aside0.mk (hbox); have n2_ := Aside0.mk ((by rw [hg]; exact (below_size (hb_ HB.out)) : w.heap.size ≤ gb1673)); have n3_ := Aside0.mk ((by rw [hg]; exact (below_size (hb_ HB.out)) : w.heap.size ≤ gb1673)); clear HB; have HB := n0_; have BK1673 := n1_; have GW1673 := n2_; have GE1673 := n3_; clear n0_ n1_ n2_ n3_; clear hb hbox hg; have hcz13_0 : w12.cell? ⟨gb1673, 0, none⟩ = some (.int .i64 a0_0) := (blk_cell BK1673.out 0).trans rfl; have hcz13_1 : w12.cell? ⟨gb1673, 1, none⟩ = some (.slice A0_1 l0_1.length c0_1) := (blk_cell BK1673.out 1).trans rfl; have hcz13_2 : w12.cell? ⟨gb1673, 2, none⟩ = some (.slice A0_2 l0_2.length c0_2) := (blk_cell BK1673.out 2).trans rfl; have hcz13_3 : w12.cell? ⟨gb1673, 3, none⟩ = some (.slice A0_3 l0_3.length c0_3) := (blk_cell BK1673.out 3).trans rfl; have hfz13_0 := blk_frozen BK1673.out 0; have hfz13_1 := blk_frozen BK1673.out 1; have hfz13_2 := blk_frozen BK1673.out 2; have hfz13_3 := blk_frozen BK1673.out 3; have p1674 : 0 ≤ ((ji9) : Int) := of_decide_eq_true (by first | (with_reducible assumption) | assumption); have q1674 : (ji9) < (l0_1.length : Int) := of_decide_eq_true (by first | (with_reducible assumption) | assumption); obtain ⟨ad1674, e1674, hx1674_0⟩ := Kd.at_int HR0_1.out (ji9) p1674 q1674; cases e1674; replace hx1674_0 := (HB.out.cell (World.block_lt_of_cell? w _ hx1674_0)).trans hx1674_0; replace p1674 := eq_true p1674; replace q1674 := eq_true q1674)))
     go_ret
     exact ⟨by first | rfl | (simp [errW_none, errW_some] <;> rfl) | (simp only [← hji9]; first | rfl | (simp [errW_none, errW_some] <;> rfl)) | (simp [*, errW_none, errW_some] <;> rfl), hb_ HB.out⟩
    ·
     rw [if_neg c11] at H
     exact absurd H (by simp)
   ·
    rw [if_neg c10] at H
    exact absurd H (by simp)

/-! ### impl_copyInts: function 147 -/
def impl_copyInts.f (l0 : List Int) : Option (List Int) := if ([] : List Int).length + l0.length < 17592186044416 then (some (([] : List Int) ++ l0)) else (none)
set_option maxHeartbeats 8000000 in
set_option maxRecDepth 100000 in
theorem impl_copyInts.calls (A0 : Option Addr) (c0 : Nat) (l0 : List Int) (r : List Int) (w : World) (hr0 : Kd.C (Kd.int .i64) w A0 l0.length l0) (hc0 : l0.length ≤ c0) (h : impl_copyInts.f l0 = some r) :
 Calls Try.prog 147 #[.slice A0 l0.length c0] w fun e w' => ∃ v0_ : Value, e = .returned (v0_) ∧ Kd.R (Kd.int .i64) 3 w' w.heap.size (fun _ => True) v0_ r ∧ Below w.heap.size w w' := by
 have HR0 := Aside0.mk hr0
 have HC0 := Aside0.mk hc0
 clear hr0 hc0
 have HB := Aside0.mk (Below.refl w.heap.size w)
 have H : (if ([] : List Int).length + l0.length < 17592186044416 then (some (([] : List Int) ++ l0)) else (none)) = some r := h
 clear h
 by_cases c2 : ([] : List Int).length + l0.length < 17592186044416
 ·
  rw [if_pos c2] at H
  have LMc2 := Aside0.mk c2
  clear c2
  obtain ⟨y1675, hy1675⟩ : ∃ y_ : List Int, y_ = (([] : List Int) ++ l0) := ⟨_, rfl⟩
  replace H : (some y1675) = some r := by first | (rw [hy1675]; with_reducible exact H) | (have H2_ := (Option.bind_some _ _).symm.trans H; rw [hy1675]; with_reducible exact H2_) | (have H2_ := (Option.bind_some _ _).symm.trans H; with_reducible exact H2_) | with_reducible exact H | (rw [hy1675]; exact H) | exact H
  have Ny1675 := Aside0.mk hy1675
  clear hy1675
  obtain rfl := Option.some.inj H
  go_enter Try.func147, Try.ntmps147
  go_wp2_with (first | ((with_reducible refine gate_builtin (b := .append) (xs := #[.const (.slice none 0 0), .tmp 3]) rfl ?_); at_builtin; refine Kd.R_append_rows (Kd.int .i64) (w0 := w) w.heap.size rfl (.const (.slice none 0 0)) (.tmp 3) 24 3 (.int .i64 0) 8 rfl Try.underlying24 info3 rfl (by decide) (by omega) (.slice none 0 0) ([] : List Int) l0 _ _ _ (fun _ => True) (fun _ => False) rfl rfl ?aO ?aR (fun _ _ h => h) (fun _ h => h.elim) ?aF ?aB ?aS ?aL ?_; (case aR => repeat (first | exact HR0.out | (with_reducible refine Kd.C_alloc ?_ _) | (with_reducible refine Kd.C_drewN ?_ _) | (with_reducible refine Kd.C_drew ?_))); (case aB => exact (hb_ HB.out)); (case aF => exact (fun _ _ => trivial)); (case aO => exact ((Kd.R_nil _ _ _ _ (fun _ => True)))); (case aS => exact (below_size (hb_ HB.out))); (case aL => have := LMc2.out; omega); intro v1676 w3 ho hb hg hat; rw [← Ny1675.out] at ho; have n0_ := Aside0.mk (hb); have n1_ := Aside0.mk (ho); clear HB; have HB := n0_; have HO1677 := n1_; clear n0_ n1_; clear ho hb hg hat))
  go_ret
  exact ⟨_, er_, by (with_reducible repeat (first | apply Kd.R_alloc | apply Kd.R_drewN | apply Kd.R_drew)); exact HO1677.out, hb_ HB.out⟩
 ·
  rw [if_neg c2] at H
  exact absurd H (by simp)

/-! ### impl_copyGroup: function 81 -/
def impl_copyGroup.f (a0_0 : Int) (l0_1 : List Int) (l0_2 : List Int) (l0_3 : List Int) : Option (Int × List Int × List Int × List Int) := (impl_copyInts.f l0_1).bind fun t1680 => ((impl_copyInts.f l0_2).bind fun t1683 => ((impl_copyInts.f l0_3).bind fun t1686 => (some (a0_0, t1680, t1683, t1686))))
def impl_copyGroup.T1 : Bool × List (List Nat × List Nat) := (true, [([], []), ([0], [0]), ([1], [1]), ([], []), ([3], [3]), ([4, 2], [4]), ([], []), ([6], [6]), ([7, 5], [7]), ([0, 1, 2, 3, 4, 6, 7], []), ([9, 2, 8, 0, 1, 2, 3, 4, 6, 7], [2, 9]), ([0, 1, 2, 3, 4, 5, 6, 7, 9, 10], []), ([11, 5, 10, 0, 1, 2, 3, 4, 5, 6, 7, 9, 10], [5, 11]), ([0, 1, 2, 3, 4, 5, 6, 7, 8, 9, 10, 11, 12], []), ([13, 8, 12, 0, 1, 2, 3, 4, 5, 6, 7, 8, 9, 10, 11, 12], [8, 13])])
def impl_copyGroup.B1 : List Nat := [0, 1, 3, 0, 8, 31, 0, 64, 255, 223, 1023, 2047, 4095, 8191, 16383]
theorem impl_copyGroup.tab1 : rtab .any (opsOf Try.f81 1) = impl_copyGroup.T1 := by kernel_rfl
theorem impl_copyGroup.bits1 : waitsOk impl_copyGroup.T1.2 impl_copyGroup.B1 = true := by kernel_rfl
set_option maxHeartbeats 8000000 in
set_option maxRecDepth 100000 in
theorem impl_copyGroup.calls (a0_0 : Int) (A0_1 : Option Addr) (c0_1 : Nat) (l0_1 : List Int) (A0_2 : Option Addr) (c0_2 : Nat) (l0_2 : List Int) (A0_3 : Option Addr) (c0_3 : Nat) (l0_3 : List Int) (r1 : Int) (r2 : List Int) (r3 : List Int) (r4 : List Int) (w : World) (hr0_1 : Kd.C (Kd.int .i64) w A0_1 l0_1.length l0_1) (hc0_1 : l0_1.length ≤ c0_1) (hr0_2 : Kd.C (Kd.int .i64) w A0_2 l0_2.length l0_2) (hc0_2 : l0_2.length ≤ c0_2) (hr0_3 : Kd.C (Kd.int .i64) w A0_3 l0_3.length l0_3) (hc0_3 : l0_3.length ≤ c0_3) (h : impl_copyGroup.f a0_0 l0_1 l0_2 l0_3 = some (r1, r2, r3, r4)) :
 Calls Try.prog 81 #[.agg #[.int .i64 a0_0, .slice A0_1 l0_1.length c0_1, .slice A0_2 l0_2.length c0_2, .slice A0_3 l0_3.length c0_3]] w fun e w' => ∃ v1_ v2_ v3_ : Value, e = .returned (.agg #[.int .i64 r1, v1_, v2_, v3_]) ∧ Kd.R (Kd.int .i64) 3 w' w.heap.size (fun k_ => some k_ ≠ (v2_ : Value).ownBlock ∧ some k_ ≠ (v3_ : Value).ownBlock) v1_ r2 ∧ Kd.R (Kd.int .i64) 3 w' w.heap.size (fun k_ => some k_ ≠ (v1_ : Value).ownBlock ∧ some k_ ≠ (v3_ : Value).ownBlock) v2_ r3 ∧ Kd.R (Kd.int .i64) 3 w' w.heap.size (fun k_ => some k_ ≠ (v1_ : Value).ownBlock ∧ some k_ ≠ (v2_ : Value).ownBlock) v3_ r4 ∧ Below w.heap.size w w' := by
 have hu26 := Try.underlying26
 have HR0_1 := Aside0.mk hr0_1
 have HC0_1 := Aside0.mk hc0_1
 clear hr0_1 hc0_1
 have HR0_2 := Aside0.mk hr0_2
 have HC0_2 := Aside0.mk hc0_2
 clear hr0_2 hc0_2
 have HR0_3 := Aside0.mk hr0_3
 have HC0_3 := Aside0.mk hc0_3
 clear hr0_3 hc0_3
 have HB := Aside0.mk (Below.refl w.heap.size w)
 have H : ((impl_copyInts.f l0_1).bind fun t1680 => ((impl_copyInts.f l0_2).bind fun t1683 => ((impl_copyInts.f l0_3).bind fun t1686 => (some (a0_0, t1680, t1683, t1686))))) = some (r1, r2, r3, r4) := h
 clear h
 replace H := Option.bind_eq_some_iff.mp H
 obtain ⟨t1680, A20, H⟩ := H
 replace H : ((impl_copyInts.f l0_2).bind fun t1683 => ((impl_copyInts.f l0_3).bind fun t1686 => (some (a0_0, t1680, t1683, t1686)))) = some (r1, r2, r3, r4) := H
 have A2 := Aside0.mk A20
 clear A20
 replace H := Option.bind_eq_some_iff.mp H
 obtain ⟨t1683, A30, H⟩ := H
 replace H : ((impl_copyInts.f l0_3).bind fun t1686 => (some (a0_0, t1680, t1683, t1686))) = some (r1, r2, r3, r4) := H
 have A3 := Aside0.mk A30
 clear A30
 replace H := Option.bind_eq_some_iff.mp H
 obtain ⟨t1686, A40, H⟩ := H
 replace H : (some (a0_0, t1680, t1683, t1686)) = some (r1, r2, r3, r4) := H
 have A4 := Aside0.mk A40
 clear A40
 simp only [Option.some.injEq, Prod.mk.injEq] at H
 obtain ⟨rfl, rfl, rfl, rfl⟩ := H
 go_enter Try.func81, Try.ntmps81
 try go_wp2_with (first | ((with_reducible refine gate_dst (N := 1) rfl ?_); refine box_event ?hg (N := 1) ?hd (cs := #[.int .i64 a0_0, .slice A0_1 l0_1.length c0_1, .slice A0_2 l0_2.length c0_2, .slice A0_3 l0_3.length c0_3]) (t := 26) ?hr ?_; (case hd => rfl); (case hg => rfl); (case hr => first | (go_simp; done) | (go_simp; rfl)); intro gb1678 hg w5 hbox hb; have n0_ := Aside0.mk (below_step (hb_ HB.out) hb); have n1_ := Aside0.mk (hbox); have n2_ := Aside0.mk ((by rw [hg]; exact (below_size (hb_ HB.out)) : w.heap.size ≤ gb1678)); have n3_ := Aside0.mk ((by rw [hg]; exact (below_size (hb_ HB.out)) : w.heap.size ≤ gb1678)); clear HB; have HB := n0_; have BK1678 := n1_; have GW1678 := n2_; have GE1678 := n3_; clear n0_ n1_ n2_ n3_; clear hb hbox hg) | ((with_reducible refine gate_dst (N := 2) rfl ?_); refine box_event ?hg (N := 2) ?hd (cs := #[.int .i64 0, .slice none 0 0, .slice none 0 0, .slice none 0 0]) (t := 26) ?hr ?_; (case hd => rfl); (case hg => rfl); (case hr => first | (go_simp; done) | (go_simp; rfl)); intro gb1679 hg w6 hbox hb; have n0_ := Aside0.mk (bb_ BK1678.out hb); have n1_ := Aside0.mk (below_step (hb_ HB.out) hb); have n2_ := Aside0.mk (hbox); have n3_ := Aside0.mk ((by rw [hg]; exact (below_size (hb_ HB.out)) : w.heap.size ≤ gb1679)); have n4_ := Aside0.mk ((by rw [hg]; exact (below_size (hb_ HB.out)) : w.heap.size ≤ gb1679)); have n5_ := Aside0.mk ((nl_ BK1678.out hg : gb1678 ≠ gb1679)); have n6_ := Aside0.mk ((ng_ BK1678.out hg : gb1679 ≠ gb1678)); clear BK1678; clear HB; have BK1678 := n0_; have HB := n1_; have BK1679 := n2_; have GW1679 := n3_; have GE1679 := n4_; have NB1678_1679 := n5_; have NB1679_1678 := n6_; clear n0_ n1_ n2_ n3_ n4_ n5_ n6_; clear hb hbox hg))
 have n0_ := Aside0.mk (blk_drew BK1678.out)
 have n1_ := Aside0.mk (blk_drew BK1679.out)
 have n2_ := Aside0.mk (below_drew1 HB.out)
 clear BK1678; clear BK1679
 clear HB
 have BK1678 := n0_
 have BK1679 := n1_
 have HB := n2_
 clear n0_ n1_ n2_
 refine start_ (n := 15) (S := fun w' => w'.cell? ⟨gb1678, 0, none⟩ = some (.int .i64 a0_0) ∧ w'.cell? ⟨gb1678, 1, none⟩ = some (.slice A0_1 l0_1.length c0_1) ∧ w'.cell? ⟨gb1678, 2, none⟩ = some (.slice A0_2 l0_2.length c0_2) ∧ w'.cell? ⟨gb1678, 3, none⟩ = some (.slice A0_3 l0_3.length c0_3)) (ds := [10, 12, 14]) #[false, false, false, false, false, false, false, false, false, false, false, false, false, false, false] (by kernel_rfl) rfl rfl ⟨(blk_cell BK1678.out 0).trans rfl, (blk_cell BK1678.out 1).trans rfl, (blk_cell BK1678.out 2).trans rfl, (blk_cell BK1678.out 3).trans rfl⟩ (fun hHeld => ?_); refine with_tabW impl_copyGroup.tab1 impl_copyGroup.bits1 (fun HT_ HW_ => ?_)
 generalize w6.drew = w7 at BK1678 BK1679 HB hHeld ⊢
 refine pI_ 0 3 HT_ #[true, false, false, false, false, false, false, false, false, false, false, false, false, false, false] rfl rfl ?_
 refine pI_ 3 6 HT_ #[true, false, false, true, false, false, false, false, false, false, false, false, false, false, false] rfl rfl ?_
 refine pI_ 6 9 HT_ #[true, false, false, true, false, false, true, false, false, false, false, false, false, false, false] rfl rfl ?_
 refine take_ (i := 1) (N := some 4) (v := ?_) (a' := ?_) #[true, true, false, true, false, false, true, false, false, false, false, false, false, false, false] rfl rfl (take_ofW HT_.out HW_.out (by kernel_rfl)) (fun _ _ _ h => h) (Or.inl ⟨by rfl, ?_⟩) hHeld ?_ ?_
 rotate_left
 ·
  rintro w' ⟨s0, s1, s2, s3⟩
  go_simp
  with_reducible rfl
 rotate_left; (focus simp only [Act.put, List.setIfInBounds_toArray, List.set_cons_zero, List.set_cons_succ, i64_w, i32_w]; rfl)
 refine take_ (i := 4) (N := some 7) (v := ?_) (a' := ?_) #[true, true, false, true, true, false, true, false, false, false, false, false, false, false, false] rfl rfl (take_ofW HT_.out HW_.out (by kernel_rfl)) (fun _ _ _ h => h) (Or.inl ⟨by rfl, ?_⟩) hHeld ?_ ?_
 rotate_left
 ·
  rintro w' ⟨s0, s1, s2, s3⟩
  go_simp
  with_reducible rfl
 rotate_left; (focus simp only [Act.put, List.setIfInBounds_toArray, List.set_cons_zero, List.set_cons_succ, i64_w, i32_w]; rfl)
 refine take_ (i := 7) (N := some 10) (v := ?_) (a' := ?_) #[true, true, false, true, true, false, true, true, false, false, false, false, false, false, false] rfl rfl (take_ofW HT_.out HW_.out (by kernel_rfl)) (fun _ _ _ h => h) (Or.inl ⟨by rfl, ?_⟩) hHeld ?_ ?_
 rotate_left
 ·
  rintro w' ⟨s0, s1, s2, s3⟩
  go_simp
  with_reducible rfl
 rotate_left; (focus simp only [Act.put, List.setIfInBounds_toArray, List.set_cons_zero, List.set_cons_succ, i64_w, i32_w]; rfl)
 refine one_ (i := 2) (N := some 5) #[true, true, true, true, true, false, true, true, false, false, false, false, false, false, false] rfl rfl (one_of HT_.out (by kernel_rfl)) (by decide) (fun K hK => ?_)
 refine goes_ Try.func147 (by kernel_rfl) rfl #[.slice A0_1 l0_1.length c0_1] (by rfl) rfl rfl sm_ ?_
 with_reducible refine (impl_copyInts.calls _ _ l0_1 t1680 _ ?side1 ?side2 A2.out).mono ?_
 (case side1 => repeat (first | exact (Kd.C_below HR0_1.out HB.out) | (with_reducible refine Kd.C_alloc ?_ _) | (with_reducible refine Kd.C_drewN ?_ _) | (with_reducible refine Kd.C_drew ?_)))
 (case side2 => exact HC0_1.out)
 rintro e w8 ⟨v1681, rfl, ho0, hb⟩
 refine ⟨_, rfl, ?_⟩
 have n0_ := Aside0.mk (Kd.R_lower ho0 (below_size (hb_ HB.out)))
 have n1_ := Aside0.mk (bb_ BK1678.out hb)
 have n2_ := Aside0.mk (bb_ BK1679.out hb)
 have n3_ := Aside0.mk (below_step (hb_ HB.out) hb)
 clear BK1678; clear BK1679
 clear HB
 have HO1682 := n0_
 have BK1678 := n1_
 have BK1679 := n2_
 have HB := n3_
 clear n0_ n1_ n2_ n3_
 (try clear hb)
 (try clear hb2)
 (try clear hk)
 (try clear hi)
 (try clear ho0)
 refine hK.out _ _ ⟨(blk_cell BK1678.out 0).trans rfl, (blk_cell BK1678.out 1).trans rfl, (blk_cell BK1678.out 2).trans rfl, (blk_cell BK1678.out 3).trans rfl⟩ (fun hHeld => ?_)
 clear hK K
 refine norm_ (a' := ?_) ?_ ?_
 rotate_left
 ·
  show Act.put _ (some 5) _ = _
  simp only [Act.put, List.setIfInBounds_toArray, List.set_cons_zero, List.set_cons_succ, i64_w, i32_w]
  rfl
 refine pI_ 9 12 HT_ #[true, true, true, true, true, false, true, true, false, true, false, false, false, false, false] rfl rfl ?_
 refine one_ (i := 5) (N := some 8) #[true, true, true, true, true, true, true, true, false, true, false, false, false, false, false] rfl rfl (one_of HT_.out (by kernel_rfl)) (by decide) (fun K hK => ?_)
 refine goes_ Try.func147 (by kernel_rfl) rfl #[.slice A0_2 l0_2.length c0_2] (by rfl) rfl rfl sm_ ?_
 with_reducible refine (impl_copyInts.calls _ _ l0_2 t1683 _ ?side1 ?side2 A3.out).mono ?_
 (case side1 => repeat (first | exact (Kd.C_below HR0_2.out HB.out) | (with_reducible refine Kd.C_alloc ?_ _) | (with_reducible refine Kd.C_drewN ?_ _) | (with_reducible refine Kd.C_drew ?_)))
 (case side2 => exact HC0_2.out)
 rintro e w9 ⟨v1684, rfl, ho0, hb⟩
 refine ⟨_, rfl, ?_⟩
 have n0_ := Aside0.mk (Kd.R_elder' (rq_ HO1682.out) (Kd.R_base ho0) hb)
 have n1_ := Aside0.mk (Kd.R_lower (Kd.R_new' ho0 (Kd.R_lt (rq_ HO1682.out))) (below_size (hb_ HB.out)))
 have n2_ := Aside0.mk (bb_ BK1678.out hb)
 have n3_ := Aside0.mk (bb_ BK1679.out hb)
 have n4_ := Aside0.mk (below_step (hb_ HB.out) hb)
 clear HO1682; clear BK1678
 clear BK1679; clear HB
 have HO1682 := n0_
 have HO1685 := n1_
 have BK1678 := n2_
 have BK1679 := n3_
 have HB := n4_
 clear n0_ n1_ n2_ n3_ n4_
 (try clear hb)
 (try clear hb2)
 (try clear hk)
 (try clear hi)
 (try clear ho0)
 refine hK.out _ _ ⟨(blk_cell BK1678.out 0).trans rfl, (blk_cell BK1678.out 1).trans rfl, (blk_cell BK1678.out 2).trans rfl, (blk_cell BK1678.out 3).trans rfl⟩ (fun hHeld => ?_)
 clear hK K
 refine norm_ (a' := ?_) ?_ ?_
 rotate_left
 ·
  show Act.put _ (some 8) _ = _
  simp only [Act.put, List.setIfInBounds_toArray, List.set_cons_zero, List.set_cons_succ, i64_w, i32_w]
  rfl
 refine one_ (i := 8) (N := some 11) #[true, true, true, true, true, true, true, true, true, true, false, false, false, false, false] rfl rfl (one_of HT_.out (by kernel_rfl)) (by decide) (fun K hK => ?_)
 refine goes_ Try.func147 (by kernel_rfl) rfl #[.slice A0_3 l0_3.length c0_3] (by rfl) rfl rfl sm_ ?_
 with_reducible refine (impl_copyInts.calls _ _ l0_3 t1686 _ ?side1 ?side2 A4.out).mono ?_
 (case side1 => repeat (first | exact (Kd.C_below HR0_3.out HB.out) | (with_reducible refine Kd.C_alloc ?_ _) | (with_reducible refine Kd.C_drewN ?_ _) | (with_reducible refine Kd.C_drew ?_)))
 (case side2 => exact HC0_3.out)
 rintro e w10 ⟨v1687, rfl, ho0, hb⟩
 refine ⟨_, rfl, ?_⟩
 have n0_ := Aside0.mk (Kd.R_elder' (rq_ HO1682.out) (Kd.R_base ho0) hb)
 have n1_ := Aside0.mk (Kd.R_elder' (rq_ HO1685.out) (Kd.R_base ho0) hb)
 have n2_ := Aside0.mk (Kd.R_lower (Kd.R_new' (Kd.R_new' ho0 (Kd.R_lt (rq_ HO1682.out))) (Kd.R_lt (rq_ HO1685.out))) (below_size (hb_ HB.out)))
 have n3_ := Aside0.mk (bb_ BK1678.out hb)
 have n4_ := Aside0.mk (bb_ BK1679.out hb)
 have n5_ := Aside0.mk (below_step (hb_ HB.out) hb)
 clear HO1682; clear HO1685
 clear BK1678; clear BK1679
 clear HB
 have HO1682 := n0_
 have HO1685 := n1_
 have HO1688 := n2_
 have BK1678 := n3_
 have BK1679 := n4_
 have HB := n5_
 clear n0_ n1_ n2_ n3_ n4_ n5_
 (try clear hb)
 (try clear hb2)
 (try clear hk)
 (try clear hi)
 (try clear ho0)
 obtain ⟨Ao11, co11, eo11⟩ := Kd.R_slice HO1682.out
 (first | subst eo11 | (injection eo11 with f1_ f2_ f3_; have f4_ := f1_.symm; have f5_ := f3_.symm; clear f1_ f2_ f3_; subst f4_; subst f5_))
 obtain ⟨Ao13, co13, eo13⟩ := Kd.R_slice HO1685.out
 (first | subst eo13 | (injection eo13 with f1_ f2_ f3_; have f4_ := f1_.symm; have f5_ := f3_.symm; clear f1_ f2_ f3_; subst f4_; subst f5_))
 obtain ⟨Ao15, co15, eo15⟩ := Kd.R_slice HO1688.out
 (first | subst eo15 | (injection eo15 with f1_ f2_ f3_; have f4_ := f1_.symm; have f5_ := f3_.symm; clear f1_ f2_ f3_; subst f4_; subst f5_))
 refine hK.out _ _ ⟨(blk_cell BK1678.out 0).trans rfl, (blk_cell BK1678.out 1).trans rfl, (blk_cell BK1678.out 2).trans rfl, (blk_cell BK1678.out 3).trans rfl⟩ (fun hHeld => ?_)
 clear hK K
 refine norm_ (a' := ?_) ?_ ?_
 rotate_left
 ·
  show Act.put _ (some 11) _ = _
  simp only [Act.put, List.setIfInBounds_toArray, List.set_cons_zero, List.set_cons_succ, i64_w, i32_w]
  rfl
 refine last_ (i := 10) (N := none) #[true, true, true, true, true, true, true, true, true, true, true, false, false, false, false] rfl rfl (one_of HT_.out (by kernel_rfl)) (by decide) (fun K hK => ?_)
 have hs12 : w10.cell? ⟨gb1678, 1, none⟩ = some (.slice A0_1 l0_1.length c0_1) := (blk_cell BK1678.out 1).trans rfl
 have hfs12 := blk_frozen BK1678.out 1
 have hns12_1 := NB1679_1678.out
 have hms12_1 := NB1678_1679.out
 refine skip_ (w1 := ?_) (by rfl) rfl ?_ ?_
 rotate_left; (focus go_simp; rfl)
 refine hK.out _ _ ?_
 clear hK K
 refine pI_ 11 13 HT_ #[true, true, true, true, true, true, true, true, true, true, true, true, false, false, false] rfl rfl ?_
 refine last_ (i := 12) (N := none) #[true, true, true, true, true, true, true, true, true, true, true, true, true, false, false] rfl rfl (one_of HT_.out (by kernel_rfl)) (by decide) (fun K hK => ?_)
 have hs14 : w10.cell? ⟨gb1678, 2, none⟩ = some (.slice A0_2 l0_2.length c0_2) := (blk_cell BK1678.out 2).trans rfl
 have hfs14 := blk_frozen BK1678.out 2
 have hns14_1 := NB1679_1678.out
 have hms14_1 := NB1678_1679.out
 refine skip_ (w1 := ?_) (by rfl) rfl ?_ ?_
 rotate_left; (focus go_simp; rfl)
 refine hK.out _ _ ?_
 clear hK K
 refine pI_ 13 14 HT_ #[true, true, true, true, true, true, true, true, true, true, true, true, true, true, false] rfl rfl ?_
 refine last_ (i := 14) (N := none) #[true, true, true, true, true, true, true, true, true, true, true, true, true, true, true] rfl rfl (one_of HT_.out (by kernel_rfl)) (by decide) (fun K hK => ?_)
 have hs16 : w10.cell? ⟨gb1678, 3, none⟩ = some (.slice A0_3 l0_3.length c0_3) := (blk_cell BK1678.out 3).trans rfl
 have hfs16 := blk_frozen BK1678.out 3
 have hns16_1 := NB1679_1678.out
 have hms16_1 := NB1678_1679.out
 refine skip_ (w1 := ?_) (by rfl) rfl ?_ ?_
 rotate_left; (focus go_simp; rfl)
 refine hK.out _ _ ?_
 clear hK K
 refine done_ (done_of HT_.out (by kernel_rfl)) ?_
 have hnb17 := NB1678_1679.out
 have hnc17 := NB1679_1678.out
 have hcz18_0 : w10.cell? ⟨gb1678, 0, none⟩ = some (.int .i64 a0_0) := (blk_cell BK1678.out 0).trans rfl
 have hcz18_1 : w10.cell? ⟨gb1678, 1, none⟩ = some (.slice A0_1 l0_1.length c0_1) := (blk_cell BK1678.out 1).trans rfl
 have hcz18_2 : w10.cell? ⟨gb1678, 2, none⟩ = some (.slice A0_2 l0_2.length c0_2) := (blk_cell BK1678.out 2).trans rfl
 have hcz18_3 : w10.cell? ⟨gb1678, 3, none⟩ = some (.slice A0_3 l0_3.length c0_3) := (blk_cell BK1678.out 3).trans rfl
 have hfz18_0 := blk_frozen BK1678.out 0
 have hfz18_1 := blk_frozen BK1678.out 1
 have hfz18_2 := blk_frozen BK1678.out 2
 have hfz18_3 := blk_frozen BK1678.out 3
 have hcz19_0 : w10.cell? ⟨gb1679, 0, none⟩ = some (.int .i64 0) := (blk_cell BK1679.out 0).trans rfl
 have hcz19_1 : w10.cell? ⟨gb1679, 1, none⟩ = some (.slice none 0 0) := (blk_cell BK1679.out 1).trans rfl
 have hcz19_2 : w10.cell? ⟨gb1679, 2, none⟩ = some (.slice none 0 0) := (blk_cell BK1679.out 2).trans rfl
 have hcz19_3 : w10.cell? ⟨gb1679, 3, none⟩ = some (.slice none 0 0) := (blk_cell BK1679.out 3).trans rfl
 have hfz19_0 := blk_frozen BK1679.out 0
 have hfz19_1 := blk_frozen BK1679.out 1
 have hfz19_2 := blk_frozen BK1679.out 2
 have hfz19_3 := blk_frozen BK1679.out 3
 try go_wp2
 refine bodyPost_ret (results_cell_row rfl _ _ gb1679 26 #[.int .i64 a0_0, .slice Ao11 t1680.length co11, .slice Ao13 t1683.length co13, .slice Ao15 t1686.length co15] (0, 0) _ rfl (by (with_reducible repeat (first | refine blk_drewN ?_ _ | refine blk_drew ?_ | refine blk_alloc ?_ _)); refine blk_put (cs := #[.int .i64 a0_0, .slice Ao11 t1680.length co11, .slice Ao13 t1683.length co13, .slice none 0 0]) ?_ 3 _ rfl; (with_reducible repeat (first | refine blk_drewN ?_ _ | refine blk_drew ?_ | refine blk_alloc ?_ _)); refine blk_put (cs := #[.int .i64 a0_0, .slice Ao11 t1680.length co11, .slice none 0 0, .slice none 0 0]) ?_ 2 _ rfl; (with_reducible repeat (first | refine blk_drewN ?_ _ | refine blk_drew ?_ | refine blk_alloc ?_ _)); refine blk_put (cs := #[.int .i64 a0_0, .slice none 0 0, .slice none 0 0, .slice none 0 0]) ?_ 1 _ rfl; (with_reducible repeat (first | refine blk_drewN ?_ _ | refine blk_drew ?_ | refine blk_alloc ?_ _)); refine blk_put (cs := #[.int .i64 0, .slice none 0 0, .slice none 0 0, .slice none 0 0]) ?_ 0 _ rfl; (with_reducible repeat (first | refine blk_drewN ?_ _ | refine blk_drew ?_ | refine blk_alloc ?_ _)); refine blk_far ?_ NB1679_1678.out _; (with_reducible repeat (first | refine blk_drewN ?_ _ | refine blk_drew ?_ | refine blk_alloc ?_ _)); refine blk_far ?_ NB1679_1678.out _; (with_reducible repeat (first | refine blk_drewN ?_ _ | refine blk_drew ?_ | refine blk_alloc ?_ _)); refine blk_far ?_ NB1679_1678.out _; (with_reducible repeat (first | refine blk_drewN ?_ _ | refine blk_drew ?_ | refine blk_alloc ?_ _)); exact BK1679.out) Try.underlying26 rfl (by kernel_rfl)) rfl ?_
 exact ⟨_, _, _, er_, by (with_reducible repeat (first | apply Kd.R_alloc | apply Kd.R_drewN | apply Kd.R_drew)); exact Kd.R_mono (Kd.R_far (p := ⟨gb1679, 3, none⟩) (Kd.R_far (p := ⟨gb1679, 2, none⟩) (Kd.R_far (p := ⟨gb1679, 1, none⟩) (Kd.R_far (p := ⟨gb1679, 0, none⟩) (Kd.R_far (p := ⟨gb1678, 3, none⟩) (Kd.R_far (p := ⟨gb1678, 2, none⟩) (Kd.R_far (p := ⟨gb1678, 1, none⟩) (Kd.R_types (Kd.R_types HO1682.out BK1678.out (by decide)) BK1679.out (by decide)) (fun _ hk => hk.1.2) (.slice Ao11 t1680.length co11)) (fun _ hk => hk.1.2) (.slice Ao13 t1683.length co13)) (fun _ hk => hk.1.2) (.slice Ao15 t1686.length co15)) (fun _ hk => hk.2) (.int .i64 a0_0)) (fun _ hk => hk.2) (.slice Ao11 t1680.length co11)) (fun _ hk => hk.2) (.slice Ao13 t1683.length co13)) (fun _ hk => hk.2) (.slice Ao15 t1686.length co15)) (fun _ hk => ⟨hk.1.1.1.2, hk.1.1.2⟩), by (with_reducible repeat (first | apply Kd.R_alloc | apply Kd.R_drewN | apply Kd.R_drew)); exact Kd.R_mono (Kd.R_far (p := ⟨gb1679, 3, none⟩) (Kd.R_far (p := ⟨gb1679, 2, none⟩) (Kd.R_far (p := ⟨gb1679, 1, none⟩) (Kd.R_far (p := ⟨gb1679, 0, none⟩) (Kd.R_far (p := ⟨gb1678, 3, none⟩) (Kd.R_far (p := ⟨gb1678, 2, none⟩) (Kd.R_far (p := ⟨gb1678, 1, none⟩) (Kd.R_types (Kd.R_types HO1685.out BK1678.out (by decide)) BK1679.out (by decide)) (fun _ hk => hk.1.2) (.slice Ao11 t1680.length co11)) (fun _ hk => hk.1.2) (.slice Ao13 t1683.length co13)) (fun _ hk => hk.1.2) (.slice Ao15 t1686.length co15)) (fun _ hk => hk.2) (.int .i64 a0_0)) (fun _ hk => hk.2) (.slice Ao11 t1680.length co11)) (fun _ hk => hk.2) (.slice Ao13 t1683.length co13)) (fun _ hk => hk.2) (.slice Ao15 t1686.length co15)) (fun _ hk => ⟨hk.1.1.1.2, hk.1.1.2⟩), by (with_reducible repeat (first | apply Kd.R_alloc | apply Kd.R_drewN | apply Kd.R_drew)); exact Kd.R_mono (Kd.R_far (p := ⟨gb1679, 3, none⟩) (Kd.R_far (p := ⟨gb1679, 2, none⟩) (Kd.R_far (p := ⟨gb1679, 1, none⟩) (Kd.R_far (p := ⟨gb1679, 0, none⟩) (Kd.R_far (p := ⟨gb1678, 3, none⟩) (Kd.R_far (p := ⟨gb1678, 2, none⟩) (Kd.R_far (p := ⟨gb1678, 1, none⟩) (Kd.R_types (Kd.R_types HO1688.out BK1678.out (by decide)) BK1679.out (by decide)) (fun _ hk => hk.1.2) (.slice Ao11 t1680.length co11)) (fun _ hk => hk.1.2) (.slice Ao13 t1683.length co13)) (fun _ hk => hk.1.2) (.slice Ao15 t1686.length co15)) (fun _ hk => hk.2) (.int .i64 a0_0)) (fun _ hk => hk.2) (.slice Ao11 t1680.length co11)) (fun _ hk => hk.2) (.slice Ao13 t1683.length co13)) (fun _ hk => hk.2) (.slice Ao15 t1686.length co15)) (fun _ hk => ⟨hk.1.1.1.2, hk.1.1.2⟩), hb_ HB.out⟩
end Go.Proofs.Ytiknkolclcdajaa.Q
