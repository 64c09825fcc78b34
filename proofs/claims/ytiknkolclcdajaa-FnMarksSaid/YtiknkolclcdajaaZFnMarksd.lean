/- Made by a program of ours out of the print of the loaded functions: for each of some functions a plain function, and the walk that shows that a call comes to what it says. No condition but those of each theorem. -/
import Derived.Test.YtiknkolclcdajaaZFnMarks0
import Derived.Test.YtiknkolclcdajaaZFnMarksa
import Derived.Test.YtiknkolclcdajaaZFnMarksb
import Derived.Test.YtiknkolclcdajaaZFnMarksc
namespace Go.Proofs.Ytiknkolclcdajaa.Q
open Go.RowKit Go.Proofs.YtiknkolclcdajaaW.PrintWords Go.Proofs.YtiknkolclcdajaaW.PrintLast Go.Proofs.YtiknkolclcdajaaW.PrintMore
attribute [local go_sem] max2_int min2_int max_two min_two max_three min_three max_four min_four   -- for this text's walks alone
set_option linter.unusedVariables false
set_option linter.unusedSimpArgs false

/-! ### spec_l5DrawRight: function 145 -/
mutual
def spec_l5DrawRight.l0 : Nat → Int → Int → Int → List Int → Int → Int → Int → List Int → List Int → List Int → Option (Int × List Int × List Int × List Int × Int × Int × Int)
 | 0, _, _, _, _, _, _, _, _, _, _ => none
 | k + 1, x4, x6, x7, x1000, x1001, x1002, x1518000, x1518001, x1518002, x1518003 => (spec_l1Below.f x1000 x1001 x1002 7).bind fun bt1518 => (if x7 < bt1518.1 then (spec_l5DrawRight.j1 k x4 x6 x7 x1000 bt1518.2.1 bt1518.2.2 x1518000 x1518001 x1518002 x1518003) else (some (x1518000, x1518001, x1518002, x1518003, x4, bt1518.2.1, bt1518.2.2)))
def spec_l5DrawRight.j1 : Nat → Int → Int → Int → List Int → Int → Int → Int → List Int → List Int → List Int → Option (Int × List Int × List Int × List Int × Int × Int × Int)
 | 0, _, _, _, _, _, _, _, _, _, _ => none
 | k + 1, x4, x6, x7, x1000, x1001, x1002, x1518000, x1518001, x1518002, x1518003 => (spec_l1PickInt.f x1000 x1001 x1002 (([0, 10, 60] : List Int))).bind fun bt1524 => ((spec_l1Below.f x1000 bt1524.2.1 bt1524.2.2 5).bind fun bt1527 => (if bt1527.1 = 0 then ((spec_l1Below.f x1000 bt1527.2.1 bt1527.2.2 4).bind fun bt1530 => ((spec_GroupLeave.f k x1518000 x1518001 x1518002 x1518003 bt1530.1).bind fun bt1533 => (spec_l5DrawRight.l0 k x4 (wrap64 (x6 + bt1524.1)) (wrap64 (x7 + 1)) x1000 bt1530.2.1 bt1530.2.2 bt1533.1 bt1533.2.1 bt1533.2.2.1 bt1533.2.2.2))) else (if bt1527.1 = 1 then ((spec_GroupTick.f k x1518000 x1518001 x1518002 x1518003 (wrap64 (x6 + bt1524.1))).bind fun bt1543 => (spec_l5DrawRight.l0 k x4 (wrap64 (x6 + bt1524.1)) (wrap64 (x7 + 1)) x1000 bt1527.2.1 bt1527.2.2 bt1543.1 bt1543.2.1 bt1543.2.2.1 bt1543.2.2.2)) else (if bt1527.1 = 2 then ((spec_l1Below.f x1000 bt1527.2.1 bt1527.2.2 4).bind fun bt1553 => ((spec_l1Below.f x1000 bt1553.2.1 bt1553.2.2 x4).bind fun bt1556 => ((spec_l1Below.f x1000 bt1556.2.1 bt1556.2.2 9).bind fun bt1559 => ((spec_GroupMark.f k x1518000 x1518001 x1518002 x1518003 bt1553.1 x1518000 bt1556.1 bt1559.1).bind fun bt1562 => (spec_l5DrawRight.l0 k x4 (wrap64 (x6 + bt1524.1)) (wrap64 (x7 + 1)) x1000 bt1559.2.1 bt1559.2.2 bt1562.1 bt1562.2.1 bt1562.2.2.1 bt1562.2.2.2.1))))) else ((spec_l1Below.f x1000 bt1527.2.1 bt1527.2.2 4).bind fun bt1573 => ((spec_GroupJoin.f k x1518000 x1518001 x1518002 x1518003 bt1573.1 (wrap64 (x6 + bt1524.1))).bind fun bt1576 => (spec_l5DrawRight.l0 k x4 (wrap64 (x6 + bt1524.1)) (wrap64 (x7 + 1)) x1000 bt1573.2.1 bt1573.2.2 bt1576.1 bt1576.2.1 bt1576.2.2.1 bt1576.2.2.2)))))))
end
def spec_l5DrawRight.f (k : Nat) (s0_0 : List Int) (s0_1 : Int) (s0_2 : Int) : Option (Int × List Int × List Int × List Int × Int × Int × Int) := (spec_l1Below.f s0_0 s0_1 s0_2 3).bind fun bt1504 => ((spec_GroupNew.f (wrap64 (1 + bt1504.1))).bind fun bt1507 => (spec_l5DrawRight.l0 k (wrap64 (1 + bt1504.1)) 0 0 s0_0 bt1504.2.1 bt1504.2.2 bt1507.1 bt1507.2.1 bt1507.2.2.1 bt1507.2.2.2))
theorem spec_l5DrawRight.mono_l : ∀ k, (∀ y0 y1 y2 y3 y4 y5 y6 y7 y8 y9, LeO (spec_l5DrawRight.l0 k y0 y1 y2 y3 y4 y5 y6 y7 y8 y9) (spec_l5DrawRight.l0 (k + 1) y0 y1 y2 y3 y4 y5 y6 y7 y8 y9)) ∧ (∀ y0 y1 y2 y3 y4 y5 y6 y7 y8 y9, LeO (spec_l5DrawRight.j1 k y0 y1 y2 y3 y4 y5 y6 y7 y8 y9) (spec_l5DrawRight.j1 (k + 1) y0 y1 y2 y3 y4 y5 y6 y7 y8 y9))
 | 0 => ⟨fun _ _ _ _ _ _ _ _ _ _ r h => by simp [spec_l5DrawRight.l0] at h, fun _ _ _ _ _ _ _ _ _ _ r h => by simp [spec_l5DrawRight.j1] at h⟩
 | k + 1 => by
  obtain ⟨ih0, ih1⟩ := spec_l5DrawRight.mono_l k
  refine ⟨?_, ?_⟩
  ·
   intro y0 y1 y2 y3 y4 y5 y6 y7 y8 y9
   unfold spec_l5DrawRight.l0
   repeat' first
   | (with_reducible exact ih0 _ _ _ _ _ _ _ _ _ _)
   | (with_reducible exact ih1 _ _ _ _ _ _ _ _ _ _)
   | (with_reducible exact spec_GroupJoin.mono _ _ _ _ _ _ _)
   | (with_reducible exact spec_GroupLeave.mono _ _ _ _ _ _)
   | (with_reducible exact spec_GroupMark.mono _ _ _ _ _ _ _ _ _)
   | (with_reducible exact spec_GroupTick.mono _ _ _ _ _ _)
   | (with_reducible exact LeO.refl _)
   | (with_reducible exact LeO.none _)
   | (with_reducible refine LeO.ite ?_ ?_)
   | (with_reducible refine LeO.bind ?_ (fun _ => ?_))
   | exact ih0 _ _ _ _ _ _ _ _ _ _
   | exact ih1 _ _ _ _ _ _ _ _ _ _
   | exact spec_GroupJoin.mono _ _ _ _ _ _ _
   | exact spec_GroupLeave.mono _ _ _ _ _ _
   | exact spec_GroupMark.mono _ _ _ _ _ _ _ _ _
   | exact spec_GroupTick.mono _ _ _ _ _ _
   | exact LeO.none _
   | refine LeO.ite ?_ ?_
   | refine LeO.bind ?_ (fun _ => ?_)
  ·
   intro y0 y1 y2 y3 y4 y5 y6 y7 y8 y9
   unfold spec_l5DrawRight.j1
   repeat' first
   | (with_reducible exact ih0 _ _ _ _ _ _ _ _ _ _)
   | (with_reducible exact ih1 _ _ _ _ _ _ _ _ _ _)
   | (with_reducible exact spec_GroupJoin.mono _ _ _ _ _ _ _)
   | (with_reducible exact spec_GroupLeave.mono _ _ _ _ _ _)
   | (with_reducible exact spec_GroupMark.mono _ _ _ _ _ _ _ _ _)
   | (with_reducible exact spec_GroupTick.mono _ _ _ _ _ _)
   | (with_reducible exact LeO.refl _)
   | (with_reducible exact LeO.none _)
   | (with_reducible refine LeO.ite ?_ ?_)
   | (with_reducible refine LeO.bind ?_ (fun _ => ?_))
   | exact ih0 _ _ _ _ _ _ _ _ _ _
   | exact ih1 _ _ _ _ _ _ _ _ _ _
   | exact spec_GroupJoin.mono _ _ _ _ _ _ _
   | exact spec_GroupLeave.mono _ _ _ _ _ _
   | exact spec_GroupMark.mono _ _ _ _ _ _ _ _ _
   | exact spec_GroupTick.mono _ _ _ _ _ _
   | exact LeO.none _
   | refine LeO.ite ?_ ?_
   | refine LeO.bind ?_ (fun _ => ?_)
theorem spec_l5DrawRight.mono : ∀ a0 a1 a2 k, LeO (spec_l5DrawRight.f k a0 a1 a2) (spec_l5DrawRight.f (k + 1) a0 a1 a2) := by
 intro a0 a1 a2 k
 obtain ⟨ih0, ih1⟩ := spec_l5DrawRight.mono_l k
 unfold spec_l5DrawRight.f
 repeat' first
  | (with_reducible exact ih0 _ _ _ _ _ _ _ _ _ _)
  | (with_reducible exact ih1 _ _ _ _ _ _ _ _ _ _)
  | (with_reducible exact spec_GroupJoin.mono _ _ _ _ _ _ _)
  | (with_reducible exact spec_GroupLeave.mono _ _ _ _ _ _)
  | (with_reducible exact spec_GroupMark.mono _ _ _ _ _ _ _ _ _)
  | (with_reducible exact spec_GroupTick.mono _ _ _ _ _ _)
  | (with_reducible exact LeO.refl _)
  | (with_reducible exact LeO.none _)
  | (with_reducible refine LeO.ite ?_ ?_)
  | (with_reducible refine LeO.bind ?_ (fun _ => ?_))
  | exact ih0 _ _ _ _ _ _ _ _ _ _
  | exact ih1 _ _ _ _ _ _ _ _ _ _
  | exact spec_GroupJoin.mono _ _ _ _ _ _ _
  | exact spec_GroupLeave.mono _ _ _ _ _ _
  | exact spec_GroupMark.mono _ _ _ _ _ _ _ _ _
  | exact spec_GroupTick.mono _ _ _ _ _ _
  | exact LeO.none _
  | refine LeO.ite ?_ ?_
  | refine LeO.bind ?_ (fun _ => ?_)
def spec_l5DrawRight.T15 : Bool × List (List Nat × List Nat) := (true, [([], []), ([], []), ([1], [1]), ([], []), ([3], [3]), ([], []), ([], []), ([5, 6, 2], [5, 6]), ([], []), ([8, 7], [8]), ([0, 2, 4, 7, 9, 9], [0, 2, 4, 7, 9]), ([10], [10]), ([11], [11]), ([11], [11]), ([12, 10, 0, 1, 2, 3, 4, 5, 6, 7, 8, 9, 10, 11, 12], [12])])
def spec_l5DrawRight.B15 : List Nat := [0, 0, 2, 0, 8, 0, 0, 102, 0, 486, 1023, 2047, 4095, 4095, 8191]
theorem spec_l5DrawRight.tab15 : rtab .any (opsOf Try.f145 15) = spec_l5DrawRight.T15 := by kernel_rfl
theorem spec_l5DrawRight.bits15 : waitsOk spec_l5DrawRight.T15.2 spec_l5DrawRight.B15 = true := by kernel_rfl
set_option maxHeartbeats 8000000 in
set_option maxRecDepth 100000 in
theorem spec_l5DrawRight.calls (k : Nat) (g : Nat) (s0_0 : List Int) (s0_1 : Int) (s0_2 : Int) (r1 : Int) (r2 : List Int) (r3 : List Int) (r4 : List Int) (r5 : Int) (r6 : Int) (r7 : Int) (w0 w : World) (hI : IsS_l1Cur w0 w g s0_0 s0_1 s0_2) (hB : Below w0.heap.size w0 w) (h : spec_l5DrawRight.f k s0_0 s0_1 s0_2 = some (r1, r2, r3, r4, r5, r6, r7)) :
 Calls Try.prog 145 #[.pointer (some ⟨g, 0, none⟩)] w fun e w' => ∃ v1_ v2_ v3_ : Value, e = .returned (.tuple #[.agg #[.int .i64 r1, v1_, v2_, v3_], .int .i64 r5]) ∧ Kd.R (Kd.int .i64) 3 w' w.heap.size (fun k_ => some k_ ≠ (v2_ : Value).ownBlock ∧ some k_ ≠ (v3_ : Value).ownBlock) v1_ r2 ∧ Kd.R (Kd.int .i64) 3 w' w.heap.size (fun k_ => some k_ ≠ (v1_ : Value).ownBlock ∧ some k_ ≠ (v3_ : Value).ownBlock) v2_ r3 ∧ Kd.R (Kd.int .i64) 3 w' w.heap.size (fun k_ => some k_ ≠ (v1_ : Value).ownBlock ∧ some k_ ≠ (v2_ : Value).ownBlock) v3_ r4 ∧ IsS_l1Cur w0 w' g s0_0 r6 r7 ∧ Below w0.heap.size w0 w' ∧ KeepBut w w' g none := by
 have hu26 := Try.underlying26
 have HI0 := Aside0.mk hI
 have HK := Aside0.mk (KeepBut.refl w g none)
 have HL := Aside0.mk hB.size
 clear hI
 have HW0 := Aside0.mk hB.size
 have HB := Aside0.mk hB
 clear hB
 have H : ((spec_l1Below.f s0_0 s0_1 s0_2 3).bind fun bt1504 => ((spec_GroupNew.f (wrap64 (1 + bt1504.1))).bind fun bt1507 => (spec_l5DrawRight.l0 k (wrap64 (1 + bt1504.1)) 0 0 s0_0 bt1504.2.1 bt1504.2.2 bt1507.1 bt1507.2.1 bt1507.2.2.1 bt1507.2.2.2))) = some (r1, r2, r3, r4, r5, r6, r7) := h
 clear h
 replace H := Option.bind_eq_some_iff.mp H
 obtain ⟨⟨t1504, t1505, t1506⟩, A20, H⟩ := H
 replace H : ((spec_GroupNew.f (wrap64 (1 + t1504))).bind fun bt1507 => (spec_l5DrawRight.l0 k (wrap64 (1 + t1504)) 0 0 s0_0 t1505 t1506 bt1507.1 bt1507.2.1 bt1507.2.2.1 bt1507.2.2.2)) = some (r1, r2, r3, r4, r5, r6, r7) := H
 have A2 := Aside0.mk A20
 clear A20
 replace H := Option.bind_eq_some_iff.mp H
 obtain ⟨⟨t1507, t1508, t1511, t1514⟩, A30, H⟩ := H
 replace H : (spec_l5DrawRight.l0 k (wrap64 (1 + t1504)) 0 0 s0_0 t1505 t1506 t1507 t1508 t1511 t1514) = some (r1, r2, r3, r4, r5, r6, r7) := H
 have A3 := Aside0.mk A30
 clear A30
 have H' := Aside0.mk H
 clear H
 go_enter Try.func145, Try.ntmps145
 go_wp2_with (first | ((with_reducible refine gate_dst (N := 2) rfl ?_); refine box_event ?hg (N := 2) ?hd (cs := #[.int .i64 0, .slice none 0 0, .slice none 0 0, .slice none 0 0]) (t := 26) ?hr ?_; (case hd => rfl); (case hg => rfl); (case hr => first | (go_simp; done) | (go_simp; rfl)); intro gb1503 hg w4 hbox hb; have n0_ := Aside0.mk (IsS_l1Cur.below (is_l1Cur_ HI0.out) hb); have n1_ := Aside0.mk (KeepBut.trans (hk_ HK.out) (KeepBut.of_below hb g none) (.inl rfl)); have n2_ := Aside0.mk (below_step (hi_ HB.out) hb); have n3_ := Aside0.mk (hbox); have n4_ := Aside0.mk ((by rw [hg]; exact (keep_size (w := w) (g := g) (row := none) (hk_ HK.out)) : w.heap.size ≤ gb1503)); have n5_ := Aside0.mk ((Nat.le_trans HW0.out (by rw [hg]; exact (keep_size (w := w) (g := g) (row := none) (hk_ HK.out)) : w.heap.size ≤ gb1503) : w0.heap.size ≤ gb1503)); have n6_ := Aside0.mk ((by rw [hg]; exact Nat.ne_of_lt (IsS_l1Cur.lt (show IsS_l1Cur w0 _ g s0_0 s0_1 s0_2 from is_l1Cur_ HI0.out)) : g ≠ gb1503)); have n7_ := Aside0.mk ((by rw [hg]; exact Nat.ne_of_gt (IsS_l1Cur.lt (show IsS_l1Cur w0 _ g s0_0 s0_1 s0_2 from is_l1Cur_ HI0.out)) : gb1503 ≠ g)); clear HI0; clear HK; clear HB; have HI0 := n0_; have HK := n1_; have HB := n2_; have BK1503 := n3_; have GW1503 := n4_; have GE1503 := n5_; have NB0_1503 := n6_; have NB1503_0 := n7_; clear n0_ n1_ n2_ n3_ n4_ n5_ n6_ n7_; clear hb hbox hg) | ((with_reducible refine gate_callee (f := 78) rfl ?_); refine goesL_ (some 9) rfl rfl Try.func78 (by kernel_rfl) rfl #[.pointer (some ⟨g, 0, none⟩), .int .i64 3] rfl sm_ ?_; (with_reducible refine (spec_l1Below.calls g s0_0 s0_1 s0_2 3 t1504 t1505 t1506 w0 _ ?side1 ?side2 A2.out).mono ?_); (case side1 => repeat (first | (with_reducible first | exact HI0.out | apply IsS_l1Cur.alloc | apply IsS_l1Cur.drewN | apply IsS_l1Cur.drew | apply IsS_l1Cur.set_1 | apply IsS_l1Cur.set_2 | refine IsS_l1Cur.far ?_ NB0_1503.out _) | exact HI0.out)); (case side2 => repeat (first | (with_reducible first | exact HB.out | apply below_alloc | apply pw_below_drewN | apply below_drew1 | refine below_set ?_ (IsS_l1Cur.ge HI0.out) | refine below_set ?_ GE1503.out) | exact HB.out)); rintro e w5 ⟨rfl, hi, hb, hk⟩; refine ⟨_, rfl, ?_⟩; have n0_ := Aside0.mk (KeepBut.blk hk (g' := gb1503) (o := .cells #[.int .i64 0, .slice none 0 0, .slice none 0 0, .slice none 0 0] 26 (0, 0)) (bq_ BK1503.out) NB1503_0.out (by simp)); have n1_ := Aside0.mk (KeepBut.trans (hk_ HK.out) hk (.inl rfl)); have n2_ := Aside0.mk (hb); have n3_ := Aside0.mk (hi); clear BK1503; clear HK; clear HB; clear HI0; have BK1503 := n0_; have HK := n1_; have HB := n2_; have HI0 := n3_; clear n0_ n1_ n2_ n3_; (try clear hb); (try clear hb2); (try clear hk); (try clear hi)) | ((with_reducible refine gate_callee (f := 130) rfl ?_); refine goesL_ (some 12) rfl rfl Try.func130 (by kernel_rfl) rfl #[.int .i64 (wrap64 (1 + t1504))] rfl sm_ ?_; (with_reducible refine (spec_GroupNew.calls (wrap64 (1 + t1504)) t1507 t1508 t1511 t1514 _ A3.out).mono ?_); rintro e w6 ⟨v1509, v1512, v1515, rfl, ho0, ho1, ho2, hb⟩; refine ⟨_, rfl, ?_⟩; have n0_ := Aside0.mk (Kd.R_lower ho0 (keep_size (w := w) (g := g) (row := none) (hk_ HK.out))); have n1_ := Aside0.mk (Kd.R_lower ho1 (keep_size (w := w) (g := g) (row := none) (hk_ HK.out))); have n2_ := Aside0.mk (Kd.R_lower ho2 (keep_size (w := w) (g := g) (row := none) (hk_ HK.out))); have n3_ := Aside0.mk (IsS_l1Cur.below (is_l1Cur_ HI0.out) hb); have n4_ := Aside0.mk (bb_ BK1503.out hb); have n5_ := Aside0.mk (KeepBut.trans (hk_ HK.out) (KeepBut.of_below hb g none) (.inl rfl)); have n6_ := Aside0.mk (below_step (hi_ HB.out) hb); clear HI0; clear BK1503; clear HK; clear HB; have HO1510 := n0_; have HO1513 := n1_; have HO1516 := n2_; have HI0 := n3_; have BK1503 := n4_; have HK := n5_; have HB := n6_; clear n0_ n1_ n2_ n3_ n4_ n5_ n6_; (try clear hb); (try clear hb2); (try clear hk); (try clear hi); (try clear ho0); (try clear ho1); (try clear ho2)) | ((with_reducible refine gate_dst (N := 5) rfl ?_); refine box_event ?hg (N := 5) ?hd (cs := #[.int .i64 0, .slice none 0 0, .slice none 0 0, .slice none 0 0]) (t := 26) ?hr ?_; (case hd => rfl); (case hg => rfl); (case hr => first | (go_simp; done) | (go_simp; rfl)); intro gb1517 hg w7 hbox hb; have n0_ := Aside0.mk (Kd.R_below (rq_ HO1510.out) hb); have n1_ := Aside0.mk (Kd.R_below (rq_ HO1513.out) hb); have n2_ := Aside0.mk (Kd.R_below (rq_ HO1516.out) hb); have n3_ := Aside0.mk (IsS_l1Cur.below (is_l1Cur_ HI0.out) hb); have n4_ := Aside0.mk (bb_ BK1503.out hb); have n5_ := Aside0.mk (KeepBut.trans (hk_ HK.out) (KeepBut.of_below hb g none) (.inl rfl)); have n6_ := Aside0.mk (below_step (hi_ HB.out) hb); have n7_ := Aside0.mk (hbox); have n8_ := Aside0.mk ((by rw [hg]; exact (keep_size (w := w) (g := g) (row := none) (hk_ HK.out)) : w.heap.size ≤ gb1517)); have n9_ := Aside0.mk ((Nat.le_trans HW0.out (by rw [hg]; exact (keep_size (w := w) (g := g) (row := none) (hk_ HK.out)) : w.heap.size ≤ gb1517) : w0.heap.size ≤ gb1517)); have n10_ := Aside0.mk ((nl_ BK1503.out hg : gb1503 ≠ gb1517)); have n11_ := Aside0.mk ((ng_ BK1503.out hg : gb1517 ≠ gb1503)); have n12_ := Aside0.mk ((by rw [hg]; exact Nat.ne_of_lt (IsS_l1Cur.lt (show IsS_l1Cur w0 _ g s0_0 t1505 t1506 from is_l1Cur_ HI0.out)) : g ≠ gb1517)); have n13_ := Aside0.mk ((by rw [hg]; exact Nat.ne_of_gt (IsS_l1Cur.lt (show IsS_l1Cur w0 _ g s0_0 t1505 t1506 from is_l1Cur_ HI0.out)) : gb1517 ≠ g)); clear HO1510; clear HO1513; clear HO1516; clear HI0; clear BK1503; clear HK; clear HB; have HO1510 := n0_; have HO1513 := n1_; have HO1516 := n2_; have HI0 := n3_; have BK1503 := n4_; have HK := n5_; have HB := n6_; have BK1517 := n7_; have GW1517 := n8_; have GE1517 := n9_; have NB1503_1517 := n10_; have NB1517_1503 := n11_; have NB0_1517 := n12_; have NB1517_0 := n13_; clear n0_ n1_ n2_ n3_ n4_ n5_ n6_ n7_ n8_ n9_ n10_ n11_ n12_ n13_; clear hb hbox hg; have hnb8 := NB1517_1503.out; have hnc8 := NB1503_1517.out; have hnb9 := NB1517_0.out; have hnc9 := NB0_1517.out; have hcz10_0 : w7.cell? ⟨gb1517, 0, none⟩ = some (.int .i64 0) := (blk_cell BK1517.out 0).trans rfl; have hcz10_1 : w7.cell? ⟨gb1517, 1, none⟩ = some (.slice none 0 0) := (blk_cell BK1517.out 1).trans rfl; have hcz10_2 : w7.cell? ⟨gb1517, 2, none⟩ = some (.slice none 0 0) := (blk_cell BK1517.out 2).trans rfl; have hcz10_3 : w7.cell? ⟨gb1517, 3, none⟩ = some (.slice none 0 0) := (blk_cell BK1517.out 3).trans rfl; have hfz10_0 := blk_frozen BK1517.out 0; have hfz10_1 := blk_frozen BK1517.out 1; have hfz10_2 := blk_frozen BK1517.out 2; have hfz10_3 := blk_frozen BK1517.out 3; obtain ⟨Ao11, co11, eo11⟩ := Kd.R_slice HO1510.out; subst eo11; obtain ⟨Ao12, co12, eo12⟩ := Kd.R_slice HO1513.out; subst eo12; obtain ⟨Ao13, co13, eo13⟩ := Kd.R_slice HO1516.out; subst eo13))
 go_loopg [6, 7] k (fun kq v6 v7 w' => ∃ (x6_1 : Int) (x7_1 : Int) (x1001_1 : Int) (x1002_1 : Int) (x1518000_1 : Int) (x1518001_1 : List Int) (x1518002_1 : List Int) (x1518003_1 : List Int) (u1518001 : Value) (u1518002 : Value) (u1518003 : Value), v6 = .int .i64 x6_1 ∧ v7 = .int .i64 x7_1 ∧ Aside0 (spec_l5DrawRight.l0 kq (wrap64 (1 + t1504)) x6_1 x7_1 s0_0 x1001_1 x1002_1 x1518000_1 x1518001_1 x1518002_1 x1518003_1 = some (r1, r2, r3, r4, r5, r6, r7)) ∧ Aside0 (kq ≤ k) ∧ Aside0 (Kd.R (Kd.int .i64) 3 w' w.heap.size (fun k_ => some k_ ≠ (u1518002 : Value).ownBlock ∧ some k_ ≠ (u1518003 : Value).ownBlock) u1518001 x1518001_1) ∧ Aside0 (Kd.R (Kd.int .i64) 3 w' w.heap.size (fun k_ => some k_ ≠ (u1518001 : Value).ownBlock ∧ some k_ ≠ (u1518003 : Value).ownBlock) u1518002 x1518002_1) ∧ Aside0 (Kd.R (Kd.int .i64) 3 w' w.heap.size (fun k_ => some k_ ≠ (u1518001 : Value).ownBlock ∧ some k_ ≠ (u1518002 : Value).ownBlock) u1518003 x1518003_1) ∧ Aside0 (w'.heap[gb1503]? = some (.cells #[.int .i64 0, (.slice none 0 0), (.slice none 0 0), (.slice none 0 0)] 26 (0, 0))) ∧ Aside0 (w'.heap[gb1517]? = some (.cells #[.int .i64 x1518000_1, u1518001, u1518002, u1518003] 26 (0, 0))) ∧ Aside0 (IsS_l1Cur w0 w' g s0_0 x1001_1 x1002_1) ∧ Aside0 (KeepBut w w' g none) ∧ Aside0 (Below w0.heap.size w0 w'))
 case atStart => exact ⟨(0), (0), (t1505), (t1506), (t1507), (t1508), (t1511), (t1514), (.slice Ao11 t1508.length co11), (.slice Ao12 t1511.length co12), (.slice Ao13 t1514.length co13), (by first | rfl | (simp; done) | (simp [*]; done)), (by first | rfl | (simp; done) | (simp [*]; done)), H', ⟨Nat.le_refl _⟩, ⟨by (with_reducible repeat (first | apply Kd.R_alloc | apply Kd.R_drewN | apply Kd.R_drew)); exact Kd.R_mono (Kd.R_far (p := ⟨gb1517, 3, none⟩) (Kd.R_far (p := ⟨gb1517, 2, none⟩) (Kd.R_far (p := ⟨gb1517, 1, none⟩) (Kd.R_far (p := ⟨gb1517, 0, none⟩) (Kd.R_types HO1510.out BK1517.out (by decide)) (fun _ hk => hk.2) (.int .i64 t1507)) (fun _ hk => hk.2) (.slice Ao11 t1508.length co11)) (fun _ hk => hk.2) (.slice Ao12 t1511.length co12)) (fun _ hk => hk.2) (.slice Ao13 t1514.length co13)) (fun _ hk => ⟨hk.1.1, hk.1.2⟩)⟩, ⟨by (with_reducible repeat (first | apply Kd.R_alloc | apply Kd.R_drewN | apply Kd.R_drew)); exact Kd.R_mono (Kd.R_far (p := ⟨gb1517, 3, none⟩) (Kd.R_far (p := ⟨gb1517, 2, none⟩) (Kd.R_far (p := ⟨gb1517, 1, none⟩) (Kd.R_far (p := ⟨gb1517, 0, none⟩) (Kd.R_types HO1513.out BK1517.out (by decide)) (fun _ hk => hk.2) (.int .i64 t1507)) (fun _ hk => hk.2) (.slice Ao11 t1508.length co11)) (fun _ hk => hk.2) (.slice Ao12 t1511.length co12)) (fun _ hk => hk.2) (.slice Ao13 t1514.length co13)) (fun _ hk => ⟨hk.1.1, hk.1.2⟩)⟩, ⟨by (with_reducible repeat (first | apply Kd.R_alloc | apply Kd.R_drewN | apply Kd.R_drew)); exact Kd.R_mono (Kd.R_far (p := ⟨gb1517, 3, none⟩) (Kd.R_far (p := ⟨gb1517, 2, none⟩) (Kd.R_far (p := ⟨gb1517, 1, none⟩) (Kd.R_far (p := ⟨gb1517, 0, none⟩) (Kd.R_types HO1516.out BK1517.out (by decide)) (fun _ hk => hk.2) (.int .i64 t1507)) (fun _ hk => hk.2) (.slice Ao11 t1508.length co11)) (fun _ hk => hk.2) (.slice Ao12 t1511.length co12)) (fun _ hk => hk.2) (.slice Ao13 t1514.length co13)) (fun _ hk => ⟨hk.1.1, hk.1.2⟩)⟩, ⟨by (with_reducible repeat (first | refine blk_drewN ?_ _ | refine blk_drew ?_ | refine blk_alloc ?_ _)); refine blk_far ?_ NB1503_1517.out _; (with_reducible repeat (first | refine blk_drewN ?_ _ | refine blk_drew ?_ | refine blk_alloc ?_ _)); refine blk_far ?_ NB1503_1517.out _; (with_reducible repeat (first | refine blk_drewN ?_ _ | refine blk_drew ?_ | refine blk_alloc ?_ _)); refine blk_far ?_ NB1503_1517.out _; (with_reducible repeat (first | refine blk_drewN ?_ _ | refine blk_drew ?_ | refine blk_alloc ?_ _)); refine blk_far ?_ NB1503_1517.out _; (with_reducible repeat (first | refine blk_drewN ?_ _ | refine blk_drew ?_ | refine blk_alloc ?_ _)); exact BK1503.out⟩, ⟨by (with_reducible repeat (first | refine blk_drewN ?_ _ | refine blk_drew ?_ | refine blk_alloc ?_ _)); refine blk_put (cs := #[.int .i64 t1507, .slice Ao11 t1508.length co11, .slice Ao12 t1511.length co12, .slice none 0 0]) ?_ 3 _ rfl; (with_reducible repeat (first | refine blk_drewN ?_ _ | refine blk_drew ?_ | refine blk_alloc ?_ _)); refine blk_put (cs := #[.int .i64 t1507, .slice Ao11 t1508.length co11, .slice none 0 0, .slice none 0 0]) ?_ 2 _ rfl; (with_reducible repeat (first | refine blk_drewN ?_ _ | refine blk_drew ?_ | refine blk_alloc ?_ _)); refine blk_put (cs := #[.int .i64 t1507, .slice none 0 0, .slice none 0 0, .slice none 0 0]) ?_ 1 _ rfl; (with_reducible repeat (first | refine blk_drewN ?_ _ | refine blk_drew ?_ | refine blk_alloc ?_ _)); refine blk_put (cs := #[.int .i64 0, .slice none 0 0, .slice none 0 0, .slice none 0 0]) ?_ 0 _ rfl; (with_reducible repeat (first | refine blk_drewN ?_ _ | refine blk_drew ?_ | refine blk_alloc ?_ _)); exact BK1517.out⟩, ⟨is_l1Cur_ HI0.out⟩, ⟨by repeat (first | (with_reducible first | exact HK.out | apply KeepBut.set_ | apply keep_drewN | apply keep_drew | apply keep_alloc | refine keep_far ?_ GW1503.out _ | refine keep_far ?_ GW1517.out _) | exact HK.out)⟩, ⟨by repeat (first | (with_reducible first | exact HB.out | apply below_alloc | apply pw_below_drewN | apply below_drew1 | refine below_set ?_ (IsS_l1Cur.ge HI0.out) | refine below_set ?_ GE1503.out | refine below_set ?_ GE1517.out) | exact HB.out)⟩⟩
 case round =>
  clear H'
  (try clear c1); (try clear p2); (try clear p6); (try clear c7); (try clear c8); (try clear c9); (try clear c13); (try clear hcz10_0); (try clear hcz10_1); (try clear hcz10_2); (try clear hcz10_3); (try clear hfz10_0); (try clear hfz10_1); (try clear hfz10_2); (try clear hfz10_3)
  obtain ⟨x6_1, x7_1, x1001_1, x1002_1, x1518000_1, x1518001_1, x1518002_1, x1518003_1, u1518001, u1518002, u1518003, rfl, rfl, HA, HK1, HO_1518001, HO_1518002, HO_1518003, BK1503, BK1517, HI0, HK, HB⟩ := hrel
  cases gk with
  | zero => exact absurd HA.out (by simp [spec_l5DrawRight.l0])
  | succ k1 =>
   have H := HA.out
   clear HA
   simp only [spec_l5DrawRight.l0] at H
   replace H := Option.bind_eq_some_iff.mp H
   obtain ⟨⟨t1518, t1519, t1520⟩, A140, H⟩ := H
   replace H : (if x7_1 < t1518 then (spec_l5DrawRight.j1 k1 (wrap64 (1 + t1504)) x6_1 x7_1 s0_0 t1519 t1520 x1518000_1 x1518001_1 x1518002_1 x1518003_1) else (some (x1518000_1, x1518001_1, x1518002_1, x1518003_1, (wrap64 (1 + t1504)), t1519, t1520))) = some (r1, r2, r3, r4, r5, r6, r7) := H
   have A14 := Aside0.mk A140
   clear A140
   have HC15 := Aside0.mk H
   clear H
   go_upto_if 16 with (first | ((with_reducible refine gate_callee (f := 78) rfl ?_); refine goesL_ (some 15) rfl rfl Try.func78 (by kernel_rfl) rfl #[.pointer (some ⟨g, 0, none⟩), .int .i64 7] rfl sm_ ?_; (with_reducible refine (spec_l1Below.calls g s0_0 x1001_1 x1002_1 7 t1518 t1519 t1520 w0 _ ?side1 ?side2 A14.out).mono ?_); (case side1 => repeat (first | (with_reducible first | exact HI0.out | apply IsS_l1Cur.alloc | apply IsS_l1Cur.drewN | apply IsS_l1Cur.drew | apply IsS_l1Cur.set_1 | apply IsS_l1Cur.set_2 | refine IsS_l1Cur.far ?_ NB0_1503.out _ | refine IsS_l1Cur.far ?_ NB0_1517.out _) | exact HI0.out)); (case side2 => repeat (first | (with_reducible first | exact HB.out | apply below_alloc | apply pw_below_drewN | apply below_drew1 | refine below_set ?_ (IsS_l1Cur.ge HI0.out) | refine below_set ?_ GE1503.out | refine below_set ?_ GE1517.out) | exact HB.out)); rintro e w16 ⟨rfl, hi, hb, hk⟩; refine ⟨_, rfl, ?_⟩; have n0_ := Aside0.mk (Kd.R_mono (Kd.R_keep (IsS_l1Cur.apart (show IsS_l1Cur w0 _ g s0_0 x1001_1 x1002_1 from is_l1Cur_ HI0.out) (rq_ HO_1518001.out) (by decide)) hk (fun _ h => h.2)) (fun _ h => h.1)); have n1_ := Aside0.mk (Kd.R_mono (Kd.R_keep (IsS_l1Cur.apart (show IsS_l1Cur w0 _ g s0_0 x1001_1 x1002_1 from is_l1Cur_ HI0.out) (rq_ HO_1518002.out) (by decide)) hk (fun _ h => h.2)) (fun _ h => h.1)); have n2_ := Aside0.mk (Kd.R_mono (Kd.R_keep (IsS_l1Cur.apart (show IsS_l1Cur w0 _ g s0_0 x1001_1 x1002_1 from is_l1Cur_ HI0.out) (rq_ HO_1518003.out) (by decide)) hk (fun _ h => h.2)) (fun _ h => h.1)); have n3_ := Aside0.mk (KeepBut.blk hk (g' := gb1503) (o := .cells #[.int .i64 0, .slice none 0 0, .slice none 0 0, .slice none 0 0] 26 (0, 0)) (bq_ BK1503.out) NB1503_0.out (by simp)); have n4_ := Aside0.mk (KeepBut.blk hk (g' := gb1517) (o := .cells #[.int .i64 x1518000_1, u1518001, u1518002, u1518003] 26 (0, 0)) (bq_ BK1517.out) NB1517_0.out (by simp)); have n5_ := Aside0.mk (KeepBut.trans (hk_ HK.out) hk (.inl rfl)); have n6_ := Aside0.mk (hb); have n7_ := Aside0.mk (hi); clear HO_1518001; clear HO_1518002; clear HO_1518003; clear BK1503; clear BK1517; clear HK; clear HB; clear HI0; have HO_1518001 := n0_; have HO_1518002 := n1_; have HO_1518003 := n2_; have BK1503 := n3_; have BK1517 := n4_; have HK := n5_; have HB := n6_; have HI0 := n7_; clear n0_ n1_ n2_ n3_ n4_ n5_ n6_ n7_; (try clear hb); (try clear hb2); (try clear hk); (try clear hi)))
   (try simp only [Act.put, List.setIfInBounds_toArray, List.set_cons_zero, List.set_cons_succ])
   go_cut [] (fun wc => ∃ (kq : Nat), Aside0 (spec_l5DrawRight.j1 kq (wrap64 (1 + t1504)) x6_1 x7_1 s0_0 t1519 t1520 x1518000_1 x1518001_1 x1518002_1 x1518003_1 = some (r1, r2, r3, r4, r5, r6, r7)) ∧ Aside0 (kq ≤ k1) ∧ Aside0 (Kd.R (Kd.int .i64) 3 wc w.heap.size (fun k_ => some k_ ≠ (u1518002 : Value).ownBlock ∧ some k_ ≠ (u1518003 : Value).ownBlock) u1518001 x1518001_1) ∧ Aside0 (Kd.R (Kd.int .i64) 3 wc w.heap.size (fun k_ => some k_ ≠ (u1518001 : Value).ownBlock ∧ some k_ ≠ (u1518003 : Value).ownBlock) u1518002 x1518002_1) ∧ Aside0 (Kd.R (Kd.int .i64) 3 wc w.heap.size (fun k_ => some k_ ≠ (u1518001 : Value).ownBlock ∧ some k_ ≠ (u1518002 : Value).ownBlock) u1518003 x1518003_1) ∧ Aside0 (wc.heap[gb1503]? = some (.cells #[.int .i64 0, (.slice none 0 0), (.slice none 0 0), (.slice none 0 0)] 26 (0, 0))) ∧ Aside0 (wc.heap[gb1517]? = some (.cells #[.int .i64 x1518000_1, u1518001, u1518002, u1518003] 26 (0, 0))) ∧ Aside0 (IsS_l1Cur w0 wc g s0_0 t1519 t1520) ∧ Aside0 (KeepBut w wc g none) ∧ Aside0 (Below w0.heap.size w0 wc))
   case first =>
    have H := HC15.out
    clear HC15
    by_cases c17 : x7_1 < t1518
    ·
     rw [if_pos c17] at H
     have c17b0 : decide (x7_1 < t1518) = true := decide_eq_true c17
     clear c17
     (first | rw [c17b0] | (simp only [i64_w, i32_w]; rw [c17b0]) | rw [c17b4] | rw [c17b3] | skip)
     have H' := Aside0.mk H
     clear H
     go_wp2
     go_meet
     case rel => exact ⟨_, H', ⟨by have := HK1.out; first | omega | exact Nat.le_refl _⟩, ⟨rq_ HO_1518001.out⟩, ⟨rq_ HO_1518002.out⟩, ⟨rq_ HO_1518003.out⟩, ⟨bq_ BK1503.out⟩, ⟨bq_ BK1517.out⟩, ⟨is_l1Cur_ HI0.out⟩, ⟨by repeat (first | (with_reducible first | exact HK.out | apply KeepBut.set_ | apply keep_drewN | apply keep_drew | apply keep_alloc | refine keep_far ?_ GW1503.out _ | refine keep_far ?_ GW1517.out _) | exact HK.out)⟩, ⟨by repeat (first | (with_reducible first | exact HB.out | apply below_alloc | apply pw_below_drewN | apply below_drew1 | refine below_set ?_ (IsS_l1Cur.ge HI0.out) | refine below_set ?_ GE1503.out | refine below_set ?_ GE1517.out) | exact HB.out)⟩⟩
    ·
     rw [if_neg c17] at H
     have c17b0 : decide (x7_1 < t1518) = false := decide_eq_false c17
     clear c17
     (first | rw [c17b0] | (simp only [i64_w, i32_w]; rw [c17b0]) | rw [c17b4] | rw [c17b3] | skip)
     simp only [Option.some.injEq, Prod.mk.injEq] at H
     obtain ⟨rfl, rfl, rfl, rfl, rfl, rfl, rfl⟩ := H
     have hnb18 := NB1517_1503.out
     have hnc18 := NB1503_1517.out
     have hnb19 := NB1517_0.out
     have hnc19 := NB0_1517.out
     have hcz20_0 : w16.cell? ⟨gb1517, 0, none⟩ = some (.int .i64 x1518000_1) := (blk_cell BK1517.out 0).trans rfl
     have hcz20_1 : w16.cell? ⟨gb1517, 1, none⟩ = some (u1518001) := (blk_cell BK1517.out 1).trans rfl
     have hcz20_2 : w16.cell? ⟨gb1517, 2, none⟩ = some (u1518002) := (blk_cell BK1517.out 2).trans rfl
     have hcz20_3 : w16.cell? ⟨gb1517, 3, none⟩ = some (u1518003) := (blk_cell BK1517.out 3).trans rfl
     have hfz20_0 := blk_frozen BK1517.out 0
     have hfz20_1 := blk_frozen BK1517.out 1
     have hfz20_2 := blk_frozen BK1517.out 2
     have hfz20_3 := blk_frozen BK1517.out 3
     have hnb21 := NB1503_0.out
     have hnc21 := NB0_1503.out
     have hcz22_0 : w16.cell? ⟨gb1503, 0, none⟩ = some (.int .i64 0) := (blk_cell BK1503.out 0).trans rfl
     have hcz22_1 : w16.cell? ⟨gb1503, 1, none⟩ = some (.slice none 0 0) := (blk_cell BK1503.out 1).trans rfl
     have hcz22_2 : w16.cell? ⟨gb1503, 2, none⟩ = some (.slice none 0 0) := (blk_cell BK1503.out 2).trans rfl
     have hcz22_3 : w16.cell? ⟨gb1503, 3, none⟩ = some (.slice none 0 0) := (blk_cell BK1503.out 3).trans rfl
     have hfz22_0 := blk_frozen BK1503.out 0
     have hfz22_1 := blk_frozen BK1503.out 1
     have hfz22_2 := blk_frozen BK1503.out 2
     have hfz22_3 := blk_frozen BK1503.out 3
     obtain ⟨Ao23, co23, eo23⟩ := Kd.R_slice HO_1518001.out
     subst eo23
     obtain ⟨Ao24, co24, eo24⟩ := Kd.R_slice HO_1518002.out
     subst eo24
     obtain ⟨Ao25, co25, eo25⟩ := Kd.R_slice HO_1518003.out
     subst eo25
     go_wp2
     refine bodyPost_ret (results_ct rfl _ _ gb1503 26 #[.int .i64 x1518000_1, .slice Ao23 x1518001_1.length co23, .slice Ao24 x1518002_1.length co24, .slice Ao25 x1518003_1.length co25] (0, 0) _ rfl (bp_ BK1503.out) Try.underlying26 rfl (by kernel_rfl)) rfl ?_
     exact ⟨_, _, _, er_, by (with_reducible repeat (first | apply Kd.R_alloc | apply Kd.R_drewN | apply Kd.R_drew)); exact Kd.R_mono (Kd.R_far (p := ⟨gb1503, 3, none⟩) (Kd.R_far (p := ⟨gb1503, 2, none⟩) (Kd.R_far (p := ⟨gb1503, 1, none⟩) (Kd.R_far (p := ⟨gb1503, 0, none⟩) (Kd.R_types HO_1518001.out BK1503.out (by decide)) (fun _ hk => hk.2) (.int .i64 x1518000_1)) (fun _ hk => hk.2) (.slice Ao23 x1518001_1.length co23)) (fun _ hk => hk.2) (.slice Ao24 x1518002_1.length co24)) (fun _ hk => hk.2) (.slice Ao25 x1518003_1.length co25)) (fun _ hk => ⟨hk.1.1, hk.1.2⟩), by (with_reducible repeat (first | apply Kd.R_alloc | apply Kd.R_drewN | apply Kd.R_drew)); exact Kd.R_mono (Kd.R_far (p := ⟨gb1503, 3, none⟩) (Kd.R_far (p := ⟨gb1503, 2, none⟩) (Kd.R_far (p := ⟨gb1503, 1, none⟩) (Kd.R_far (p := ⟨gb1503, 0, none⟩) (Kd.R_types HO_1518002.out BK1503.out (by decide)) (fun _ hk => hk.2) (.int .i64 x1518000_1)) (fun _ hk => hk.2) (.slice Ao23 x1518001_1.length co23)) (fun _ hk => hk.2) (.slice Ao24 x1518002_1.length co24)) (fun _ hk => hk.2) (.slice Ao25 x1518003_1.length co25)) (fun _ hk => ⟨hk.1.1, hk.1.2⟩), by (with_reducible repeat (first | apply Kd.R_alloc | apply Kd.R_drewN | apply Kd.R_drew)); exact Kd.R_mono (Kd.R_far (p := ⟨gb1503, 3, none⟩) (Kd.R_far (p := ⟨gb1503, 2, none⟩) (Kd.R_far (p := ⟨gb1503, 1, none⟩) (Kd.R_far (p := ⟨gb1503, 0, none⟩) (Kd.R_types HO_1518003.out BK1503.out (by decide)) (fun _ hk => hk.2) (.int .i64 x1518000_1)) (fun _ hk => hk.2) (.slice Ao23 x1518001_1.length co23)) (fun _ hk => hk.2) (.slice Ao24 x1518002_1.length co24)) (fun _ hk => hk.2) (.slice Ao25 x1518003_1.length co25)) (fun _ hk => ⟨hk.1.1, hk.1.2⟩), is_l1Cur_ HI0.out, by repeat (first | (with_reducible first | exact HB.out | apply below_alloc | apply pw_below_drewN | apply below_drew1 | refine below_set ?_ (IsS_l1Cur.ge HI0.out) | refine below_set ?_ GE1503.out | refine below_set ?_ GE1517.out) | exact HB.out), by repeat (first | (with_reducible first | exact HK.out | apply KeepBut.set_ | apply keep_drewN | apply keep_drew | apply keep_alloc | refine keep_far ?_ GW1503.out _ | refine keep_far ?_ GW1517.out _) | exact HK.out)⟩
   case rest =>
    clear HC15
    (try clear c1); (try clear c2); (try clear p2); (try clear p6); (try clear c7); (try clear c8); (try clear c9); (try clear c13); (try clear c14); (try clear c17); (try clear c17b0); (try clear c18); (try clear c19); (try clear c21); (try clear hcz10_0); (try clear hcz10_1); (try clear hcz10_2); (try clear hcz10_3); (try clear hcz20_0); (try clear hcz20_1); (try clear hcz20_2); (try clear hcz20_3); (try clear hcz22_0); (try clear hcz22_1); (try clear hcz22_2); (try clear hcz22_3); (try clear hfz10_0); (try clear hfz10_1); (try clear hfz10_2); (try clear hfz10_3); (try clear hfz20_0); (try clear hfz20_1); (try clear hfz20_2); (try clear hfz20_3); (try clear hfz22_0); (try clear hfz22_1); (try clear hfz22_2); (try clear hfz22_3); (try clear p2); (try clear p6)
    obtain ⟨kq, HA, HJ14, HO_1518001, HO_1518002, HO_1518003, BK1503, BK1517, HI0, HK, HB⟩ := hcut
    cases kq with
    | zero => exact absurd HA.out (by simp [spec_l5DrawRight.j1])
    | succ kj14 =>
     have H := HA.out
     clear HA
     simp only [spec_l5DrawRight.j1] at H
     obtain ⟨y1521, hy1521⟩ : ∃ y_ : List Int, y_ = (([0, 10, 60] : List Int)) := ⟨_, rfl⟩
     replace H : ((spec_l1PickInt.f s0_0 t1519 t1520 y1521).bind fun bt1524 => ((spec_l1Below.f s0_0 bt1524.2.1 bt1524.2.2 5).bind fun bt1527 => (if bt1527.1 = 0 then ((spec_l1Below.f s0_0 bt1527.2.1 bt1527.2.2 4).bind fun bt1530 => ((spec_GroupLeave.f kj14 x1518000_1 x1518001_1 x1518002_1 x1518003_1 bt1530.1).bind fun bt1533 => (spec_l5DrawRight.l0 kj14 (wrap64 (1 + t1504)) (wrap64 (x6_1 + bt1524.1)) (wrap64 (x7_1 + 1)) s0_0 bt1530.2.1 bt1530.2.2 bt1533.1 bt1533.2.1 bt1533.2.2.1 bt1533.2.2.2))) else (if bt1527.1 = 1 then ((spec_GroupTick.f kj14 x1518000_1 x1518001_1 x1518002_1 x1518003_1 (wrap64 (x6_1 + bt1524.1))).bind fun bt1543 => (spec_l5DrawRight.l0 kj14 (wrap64 (1 + t1504)) (wrap64 (x6_1 + bt1524.1)) (wrap64 (x7_1 + 1)) s0_0 bt1527.2.1 bt1527.2.2 bt1543.1 bt1543.2.1 bt1543.2.2.1 bt1543.2.2.2)) else (if bt1527.1 = 2 then ((spec_l1Below.f s0_0 bt1527.2.1 bt1527.2.2 4).bind fun bt1553 => ((spec_l1Below.f s0_0 bt1553.2.1 bt1553.2.2 (wrap64 (1 + t1504))).bind fun bt1556 => ((spec_l1Below.f s0_0 bt1556.2.1 bt1556.2.2 9).bind fun bt1559 => ((spec_GroupMark.f kj14 x1518000_1 x1518001_1 x1518002_1 x1518003_1 bt1553.1 x1518000_1 bt1556.1 bt1559.1).bind fun bt1562 => (spec_l5DrawRight.l0 kj14 (wrap64 (1 + t1504)) (wrap64 (x6_1 + bt1524.1)) (wrap64 (x7_1 + 1)) s0_0 bt1559.2.1 bt1559.2.2 bt1562.1 bt1562.2.1 bt1562.2.2.1 bt1562.2.2.2.1))))) else ((spec_l1Below.f s0_0 bt1527.2.1 bt1527.2.2 4).bind fun bt1573 => ((spec_GroupJoin.f kj14 x1518000_1 x1518001_1 x1518002_1 x1518003_1 bt1573.1 (wrap64 (x6_1 + bt1524.1))).bind fun bt1576 => (spec_l5DrawRight.l0 kj14 (wrap64 (1 + t1504)) (wrap64 (x6_1 + bt1524.1)) (wrap64 (x7_1 + 1)) s0_0 bt1573.2.1 bt1573.2.2 bt1576.1 bt1576.2.1 bt1576.2.2.1 bt1576.2.2.2)))))))) = some (r1, r2, r3, r4, r5, r6, r7) := by first | (rw [hy1521]; with_reducible exact H) | (have H2_ := (Option.bind_some _ _).symm.trans H; rw [hy1521]; with_reducible exact H2_) | (have H2_ := (Option.bind_some _ _).symm.trans H; with_reducible exact H2_) | with_reducible exact H | (rw [hy1521]; exact H) | exact H
     have Ny1521 := Aside0.mk hy1521
     clear hy1521
     replace H := Option.bind_eq_some_iff.mp H
     obtain ⟨⟨t1524, t1525, t1526⟩, A260, H⟩ := H
     replace H : ((spec_l1Below.f s0_0 t1525 t1526 5).bind fun bt1527 => (if bt1527.1 = 0 then ((spec_l1Below.f s0_0 bt1527.2.1 bt1527.2.2 4).bind fun bt1530 => ((spec_GroupLeave.f kj14 x1518000_1 x1518001_1 x1518002_1 x1518003_1 bt1530.1).bind fun bt1533 => (spec_l5DrawRight.l0 kj14 (wrap64 (1 + t1504)) (wrap64 (x6_1 + t1524)) (wrap64 (x7_1 + 1)) s0_0 bt1530.2.1 bt1530.2.2 bt1533.1 bt1533.2.1 bt1533.2.2.1 bt1533.2.2.2))) else (if bt1527.1 = 1 then ((spec_GroupTick.f kj14 x1518000_1 x1518001_1 x1518002_1 x1518003_1 (wrap64 (x6_1 + t1524))).bind fun bt1543 => (spec_l5DrawRight.l0 kj14 (wrap64 (1 + t1504)) (wrap64 (x6_1 + t1524)) (wrap64 (x7_1 + 1)) s0_0 bt1527.2.1 bt1527.2.2 bt1543.1 bt1543.2.1 bt1543.2.2.1 bt1543.2.2.2)) else (if bt1527.1 = 2 then ((spec_l1Below.f s0_0 bt1527.2.1 bt1527.2.2 4).bind fun bt1553 => ((spec_l1Below.f s0_0 bt1553.2.1 bt1553.2.2 (wrap64 (1 + t1504))).bind fun bt1556 => ((spec_l1Below.f s0_0 bt1556.2.1 bt1556.2.2 9).bind fun bt1559 => ((spec_GroupMark.f kj14 x1518000_1 x1518001_1 x1518002_1 x1518003_1 bt1553.1 x1518000_1 bt1556.1 bt1559.1).bind fun bt1562 => (spec_l5DrawRight.l0 kj14 (wrap64 (1 + t1504)) (wrap64 (x6_1 + t1524)) (wrap64 (x7_1 + 1)) s0_0 bt1559.2.1 bt1559.2.2 bt1562.1 bt1562.2.1 bt1562.2.2.1 bt1562.2.2.2.1))))) else ((spec_l1Below.f s0_0 bt1527.2.1 bt1527.2.2 4).bind fun bt1573 => ((spec_GroupJoin.f kj14 x1518000_1 x1518001_1 x1518002_1 x1518003_1 bt1573.1 (wrap64 (x6_1 + t1524))).bind fun bt1576 => (spec_l5DrawRight.l0 kj14 (wrap64 (1 + t1504)) (wrap64 (x6_1 + t1524)) (wrap64 (x7_1 + 1)) s0_0 bt1573.2.1 bt1573.2.2 bt1576.1 bt1576.2.1 bt1576.2.2.1 bt1576.2.2.2))))))) = some (r1, r2, r3, r4, r5, r6, r7) := H
     have A26 := Aside0.mk A260
     clear A260
     replace H := Option.bind_eq_some_iff.mp H
     obtain ⟨⟨t1527, t1528, t1529⟩, A270, H⟩ := H
     replace H : (if t1527 = 0 then ((spec_l1Below.f s0_0 t1528 t1529 4).bind fun bt1530 => ((spec_GroupLeave.f kj14 x1518000_1 x1518001_1 x1518002_1 x1518003_1 bt1530.1).bind fun bt1533 => (spec_l5DrawRight.l0 kj14 (wrap64 (1 + t1504)) (wrap64 (x6_1 + t1524)) (wrap64 (x7_1 + 1)) s0_0 bt1530.2.1 bt1530.2.2 bt1533.1 bt1533.2.1 bt1533.2.2.1 bt1533.2.2.2))) else (if t1527 = 1 then ((spec_GroupTick.f kj14 x1518000_1 x1518001_1 x1518002_1 x1518003_1 (wrap64 (x6_1 + t1524))).bind fun bt1543 => (spec_l5DrawRight.l0 kj14 (wrap64 (1 + t1504)) (wrap64 (x6_1 + t1524)) (wrap64 (x7_1 + 1)) s0_0 t1528 t1529 bt1543.1 bt1543.2.1 bt1543.2.2.1 bt1543.2.2.2)) else (if t1527 = 2 then ((spec_l1Below.f s0_0 t1528 t1529 4).bind fun bt1553 => ((spec_l1Below.f s0_0 bt1553.2.1 bt1553.2.2 (wrap64 (1 + t1504))).bind fun bt1556 => ((spec_l1Below.f s0_0 bt1556.2.1 bt1556.2.2 9).bind fun bt1559 => ((spec_GroupMark.f kj14 x1518000_1 x1518001_1 x1518002_1 x1518003_1 bt1553.1 x1518000_1 bt1556.1 bt1559.1).bind fun bt1562 => (spec_l5DrawRight.l0 kj14 (wrap64 (1 + t1504)) (wrap64 (x6_1 + t1524)) (wrap64 (x7_1 + 1)) s0_0 bt1559.2.1 bt1559.2.2 bt1562.1 bt1562.2.1 bt1562.2.2.1 bt1562.2.2.2.1))))) else ((spec_l1Below.f s0_0 t1528 t1529 4).bind fun bt1573 => ((spec_GroupJoin.f kj14 x1518000_1 x1518001_1 x1518002_1 x1518003_1 bt1573.1 (wrap64 (x6_1 + t1524))).bind fun bt1576 => (spec_l5DrawRight.l0 kj14 (wrap64 (1 + t1504)) (wrap64 (x6_1 + t1524)) (wrap64 (x7_1 + 1)) s0_0 bt1573.2.1 bt1573.2.2 bt1576.1 bt1576.2.1 bt1576.2.2.1 bt1576.2.2.2)))))) = some (r1, r2, r3, r4, r5, r6, r7) := H
     have A27 := Aside0.mk A270
     clear A270
     by_cases c28 : t1527 = 0
     ·
      rw [if_pos c28] at H
      have c28b0 : (t1527 == 0) = true := beq_iff_eq.mpr c28
      have c28b1 : (t1527 != 0) = false := bne_eq_false_iff_eq.mpr c28
      clear c28
      replace H := Option.bind_eq_some_iff.mp H
      obtain ⟨⟨t1530, t1531, t1532⟩, A290, H⟩ := H
      replace H : ((spec_GroupLeave.f kj14 x1518000_1 x1518001_1 x1518002_1 x1518003_1 t1530).bind fun bt1533 => (spec_l5DrawRight.l0 kj14 (wrap64 (1 + t1504)) (wrap64 (x6_1 + t1524)) (wrap64 (x7_1 + 1)) s0_0 t1531 t1532 bt1533.1 bt1533.2.1 bt1533.2.2.1 bt1533.2.2.2)) = some (r1, r2, r3, r4, r5, r6, r7) := H
      have A29 := Aside0.mk A290
      clear A290
      replace H := Option.bind_eq_some_iff.mp H
      obtain ⟨⟨t1533, t1534, t1537, t1540⟩, A300, H⟩ := H
      replace H : (spec_l5DrawRight.l0 kj14 (wrap64 (1 + t1504)) (wrap64 (x6_1 + t1524)) (wrap64 (x7_1 + 1)) s0_0 t1531 t1532 t1533 t1534 t1537 t1540) = some (r1, r2, r3, r4, r5, r6, r7) := H
      have A30 := Aside0.mk A300
      clear A300
      have H' := Aside0.mk H
      clear H
      try go_wp2_with (first | ((with_reducible refine gate_dst (N := 21) rfl ?_); refine Kd.R_lit (Kd.int .i64) _ 3 ?hg (N := 21) ?hd (xs := ([0, 10, 60] : List Int)) (inner := [.int .i64 0, .int .i64 10, .int .i64 60]) (ok := fun _ => True) (okp := fun _ => True) ?hr ?hp (fun _ hk => hk) trivial (Below.refl _ _) (Nat.le_refl _) (by simp) ?_; (case hd => rfl); (case hg => rfl); (case hr => first | (go_simp; done) | (go_simp; rfl)); (case hp => exact (Reps.one (show Kd.M (Kd.int .i64) _ _ _ 0 [.int .i64 0] from rfl) (Reps.one (show Kd.M (Kd.int .i64) _ _ _ 10 [.int .i64 10] from rfl) (Reps.one (show Kd.M (Kd.int .i64) _ _ _ 60 [.int .i64 60] from rfl) (Reps.none _ _))))); intro v1522 w31 ho32 hb hg_ hnew_; clear hg_ hnew_; (first | rw [← Ny1521.out] at ho32 | (simp only [Int.reduceToNat] at ho32; rw [← Ny1521.out] at ho32)); have n0_ := Aside0.mk (Kd.R_elder' (rq_ HO_1518001.out) (Kd.R_base ho32) hb); have n1_ := Aside0.mk (Kd.R_elder' (rq_ HO_1518002.out) (Kd.R_base ho32) hb); have n2_ := Aside0.mk (Kd.R_elder' (rq_ HO_1518003.out) (Kd.R_base ho32) hb); have n3_ := Aside0.mk (Kd.R_lower (Kd.R_new' (Kd.R_new' (Kd.R_new' ho32 (Kd.R_lt (rq_ HO_1518001.out))) (Kd.R_lt (rq_ HO_1518002.out))) (Kd.R_lt (rq_ HO_1518003.out))) (keep_size (w := w) (g := g) (row := none) (hk_ HK.out))); have n4_ := Aside0.mk (bb_ BK1503.out hb); have n5_ := Aside0.mk (bb_ BK1517.out hb); have n6_ := Aside0.mk (IsS_l1Cur.below (is_l1Cur_ HI0.out) hb); have n7_ := Aside0.mk (KeepBut.trans (hk_ HK.out) (KeepBut.of_below hb g none) (.inl rfl)); have n8_ := Aside0.mk (below_step (hi_ HB.out) hb); clear HO_1518001; clear HO_1518002; clear HO_1518003; clear BK1503; clear BK1517; clear HI0; clear HK; clear HB; have HO_1518001 := n0_; have HO_1518002 := n1_; have HO_1518003 := n2_; have HO1523 := n3_; have BK1503 := n4_; have BK1517 := n5_; have HI0 := n6_; have HK := n7_; have HB := n8_; clear n0_ n1_ n2_ n3_ n4_ n5_ n6_ n7_ n8_; clear hb ho32; obtain ⟨Ao33, co33, eo33⟩ := Kd.R_slice HO1523.out; subst eo33) | ((with_reducible refine gate_callee (f := 104) rfl ?_); refine goesL_ (some 22) rfl rfl Try.func104 (by kernel_rfl) rfl #[.pointer (some ⟨g, 0, none⟩), .slice Ao33 y1521.length co33] rfl sm_ ?_; (with_reducible refine (spec_l1PickInt.calls g s0_0 t1519 t1520 _ _ y1521 t1524 t1525 t1526 w0 _ ?side1 ?side2 ?side3 ?side4 ?side5 A26.out).mono ?_); (case side1 => repeat (first | (with_reducible first | exact HI0.out | apply IsS_l1Cur.alloc | apply IsS_l1Cur.drewN | apply IsS_l1Cur.drew | apply IsS_l1Cur.set_1 | apply IsS_l1Cur.set_2 | refine IsS_l1Cur.far ?_ NB0_1503.out _ | refine IsS_l1Cur.far ?_ NB0_1517.out _) | exact HI0.out)); (case side2 => repeat (first | (with_reducible first | exact HB.out | apply below_alloc | apply pw_below_drewN | apply below_drew1 | refine below_set ?_ (IsS_l1Cur.ge HI0.out) | refine below_set ?_ GE1503.out | refine below_set ?_ GE1517.out) | exact HB.out)); (case side3 => repeat (first | exact (Kd.R_reads' HO1523.out).2.2 | (with_reducible refine Kd.C_alloc ?_ _) | (with_reducible refine Kd.C_drewN ?_ _) | (with_reducible refine Kd.C_drew ?_))); (case side4 => exact (Kd.R_reads' HO1523.out).2.1); (case side5 => exact far_slice (IsS_l1Cur.own_ne HI0.out HO1523.out (by decide))); rintro e w34 ⟨rfl, hi, hb, hk⟩; refine ⟨_, rfl, ?_⟩; have n0_ := Aside0.mk (Kd.R_mono (Kd.R_keep (IsS_l1Cur.apart (show IsS_l1Cur w0 _ g s0_0 t1519 t1520 from is_l1Cur_ HI0.out) (rq_ HO_1518001.out) (by decide)) hk (fun _ h => h.2)) (fun _ h => h.1)); have n1_ := Aside0.mk (Kd.R_mono (Kd.R_keep (IsS_l1Cur.apart (show IsS_l1Cur w0 _ g s0_0 t1519 t1520 from is_l1Cur_ HI0.out) (rq_ HO_1518002.out) (by decide)) hk (fun _ h => h.2)) (fun _ h => h.1)); have n2_ := Aside0.mk (Kd.R_mono (Kd.R_keep (IsS_l1Cur.apart (show IsS_l1Cur w0 _ g s0_0 t1519 t1520 from is_l1Cur_ HI0.out) (rq_ HO_1518003.out) (by decide)) hk (fun _ h => h.2)) (fun _ h => h.1)); have n3_ := Aside0.mk (KeepBut.blk hk (g' := gb1503) (o := .cells #[.int .i64 0, .slice none 0 0, .slice none 0 0, .slice none 0 0] 26 (0, 0)) (bq_ BK1503.out) NB1503_0.out (by simp)); have n4_ := Aside0.mk (KeepBut.blk hk (g' := gb1517) (o := .cells #[.int .i64 x1518000_1, u1518001, u1518002, u1518003] 26 (0, 0)) (bq_ BK1517.out) NB1517_0.out (by simp)); have n5_ := Aside0.mk (Kd.R_mono (Kd.R_keep (IsS_l1Cur.apart (show IsS_l1Cur w0 _ g s0_0 t1519 t1520 from is_l1Cur_ HI0.out) (rq_ HO1523.out) (by decide)) hk (fun _ h => h.2)) (fun _ h => h.1)); have n6_ := Aside0.mk (KeepBut.trans (hk_ HK.out) hk (.inl rfl)); have n7_ := Aside0.mk (hb); have n8_ := Aside0.mk (hi); clear HO_1518001; clear HO_1518002; clear HO_1518003; clear BK1503; clear BK1517; clear HO1523; clear HK; clear HB; clear HI0; have HO_1518001 := n0_; have HO_1518002 := n1_; have HO_1518003 := n2_; have BK1503 := n3_; have BK1517 := n4_; have HO1523 := n5_; have HK := n6_; have HB := n7_; have HI0 := n8_; clear n0_ n1_ n2_ n3_ n4_ n5_ n6_ n7_ n8_; (try clear hb); (try clear hb2); (try clear hk); (try clear hi)) | ((with_reducible refine gate_callee (f := 78) rfl ?_); refine goesL_ (some 25) rfl rfl Try.func78 (by kernel_rfl) rfl #[.pointer (some ⟨g, 0, none⟩), .int .i64 5] rfl sm_ ?_; (with_reducible refine (spec_l1Below.calls g s0_0 t1525 t1526 5 t1527 t1528 t1529 w0 _ ?side1 ?side2 A27.out).mono ?_); (case side1 => repeat (first | (with_reducible first | exact HI0.out | apply IsS_l1Cur.alloc | apply IsS_l1Cur.drewN | apply IsS_l1Cur.drew | apply IsS_l1Cur.set_1 | apply IsS_l1Cur.set_2 | refine IsS_l1Cur.far ?_ NB0_1503.out _ | refine IsS_l1Cur.far ?_ NB0_1517.out _) | exact HI0.out)); (case side2 => repeat (first | (with_reducible first | exact HB.out | apply below_alloc | apply pw_below_drewN | apply below_drew1 | refine below_set ?_ (IsS_l1Cur.ge HI0.out) | refine below_set ?_ GE1503.out | refine below_set ?_ GE1517.out) | exact HB.out)); rintro e w35 ⟨rfl, hi, hb, hk⟩; refine ⟨_, rfl, ?_⟩; have n0_ := Aside0.mk (Kd.R_mono (Kd.R_keep (IsS_l1Cur.apart (show IsS_l1Cur w0 _ g s0_0 t1525 t1526 from is_l1Cur_ HI0.out) (rq_ HO_1518001.out) (by decide)) hk (fun _ h => h.2)) (fun _ h => h.1)); have n1_ := Aside0.mk (Kd.R_mono (Kd.R_keep (IsS_l1Cur.apart (show IsS_l1Cur w0 _ g s0_0 t1525 t1526 from is_l1Cur_ HI0.out) (rq_ HO_1518002.out) (by decide)) hk (fun _ h => h.2)) (fun _ h => h.1)); have n2_ := Aside0.mk (Kd.R_mono (Kd.R_keep (IsS_l1Cur.apart (show IsS_l1Cur w0 _ g s0_0 t1525 t1526 from is_l1Cur_ HI0.out) (rq_ HO_1518003.out) (by decide)) hk (fun _ h => h.2)) (fun _ h => h.1)); have n3_ := Aside0.mk (KeepBut.blk hk (g' := gb1503) (o := .cells #[.int .i64 0, .slice none 0 0, .slice none 0 0, .slice none 0 0] 26 (0, 0)) (bq_ BK1503.out) NB1503_0.out (by simp)); have n4_ := Aside0.mk (KeepBut.blk hk (g' := gb1517) (o := .cells #[.int .i64 x1518000_1, u1518001, u1518002, u1518003] 26 (0, 0)) (bq_ BK1517.out) NB1517_0.out (by simp)); have n5_ := Aside0.mk (Kd.R_mono (Kd.R_keep (IsS_l1Cur.apart (show IsS_l1Cur w0 _ g s0_0 t1525 t1526 from is_l1Cur_ HI0.out) (rq_ HO1523.out) (by decide)) hk (fun _ h => h.2)) (fun _ h => h.1)); have n6_ := Aside0.mk (KeepBut.trans (hk_ HK.out) hk (.inl rfl)); have n7_ := Aside0.mk (hb); have n8_ := Aside0.mk (hi); clear HO_1518001; clear HO_1518002; clear HO_1518003; clear BK1503; clear BK1517; clear HO1523; clear HK; clear HB; clear HI0; have HO_1518001 := n0_; have HO_1518002 := n1_; have HO_1518003 := n2_; have BK1503 := n3_; have BK1517 := n4_; have HO1523 := n5_; have HK := n6_; have HB := n7_; have HI0 := n8_; clear n0_ n1_ n2_ n3_ n4_ n5_ n6_ n7_ n8_; (try clear hb); (try clear hb2); (try clear hk); (try clear hi)))
      have n0_ := Aside0.mk (Kd.R_drew HO_1518001.out)
      have n1_ := Aside0.mk (Kd.R_drew HO_1518002.out)
      have n2_ := Aside0.mk (Kd.R_drew HO_1518003.out)
      have n3_ := Aside0.mk (Kd.R_drew HO1523.out)
      have n4_ := Aside0.mk (blk_drew BK1503.out)
      have n5_ := Aside0.mk (blk_drew BK1517.out)
      have n6_ := Aside0.mk (IsS_l1Cur.drew HI0.out)
      have n7_ := Aside0.mk (keep_drew HK.out)
      have n8_ := Aside0.mk (below_drew1 HB.out)
      clear HO_1518001; clear HO_1518002
      clear HO_1518003; clear HO1523
      clear BK1503; clear BK1517
      clear HI0; clear HK
      clear HB
      have HO_1518001 := n0_
      have HO_1518002 := n1_
      have HO_1518003 := n2_
      have HO1523 := n3_
      have BK1503 := n4_
      have BK1517 := n5_
      have HI0 := n6_
      have HK := n7_
      have HB := n8_
      clear n0_ n1_ n2_ n3_ n4_ n5_ n6_ n7_ n8_
      refine start_ (n := 5) (S := fun w' => w'.cell? ⟨gb1517, 0, none⟩ = some (.int .i64 x1518000_1) ∧ w'.cell? ⟨gb1517, 1, none⟩ = some (u1518001) ∧ w'.cell? ⟨gb1517, 2, none⟩ = some (u1518002) ∧ w'.cell? ⟨gb1517, 3, none⟩ = some (u1518003)) (ds := [4]) #[false, false, false, false, false] (by kernel_rfl) rfl rfl ⟨(blk_cell BK1517.out 0).trans rfl, (blk_cell BK1517.out 1).trans rfl, (blk_cell BK1517.out 2).trans rfl, (blk_cell BK1517.out 3).trans rfl⟩ (fun hHeld => ?_)
      generalize w35.drew = w36 at HO_1518001 HO_1518002 HO_1518003 HO1523 BK1503 BK1517 HI0 HK HB hHeld ⊢
      refine pure_ (i := 1) (N := some 34) (v := ?_) (a' := ?_) #[false, true, false, false, false] rfl rfl (by kernel_rfl) (fun _ _ _ h => h) (Or.inl ⟨by rfl, ?_⟩) ?_ ?_; rotate_left; (focus intro w'; go_simp; with_reducible rfl); rotate_left; (focus simp only [Act.put, List.setIfInBounds_toArray, List.set_cons_zero, List.set_cons_succ, i64_w, i32_w]; rfl)
      refine take_ (i := 0) (N := some 33) (v := ?_) (a' := ?_) #[true, true, false, false, false] rfl rfl (by kernel_rfl) (fun _ _ _ h => h) (Or.inl ⟨by rfl, ?_⟩) hHeld ?_ ?_
      rotate_left
      ·
       rintro w' ⟨s0, s1, s2, s3⟩
       go_simp
       with_reducible rfl
      rotate_left; (focus simp only [Act.put, List.setIfInBounds_toArray, List.set_cons_zero, List.set_cons_succ, i64_w, i32_w]; rfl)
      refine one_ (i := 2) (N := some 35) #[true, true, true, false, false] rfl rfl (by kernel_rfl) (by decide) (fun K hK => ?_)
      refine goes_ Try.func78 (by kernel_rfl) rfl #[.pointer (some ⟨g, 0, none⟩), .int .i64 4] (by rfl) rfl rfl sm_ ?_
      with_reducible refine (spec_l1Below.calls g s0_0 t1528 t1529 4 t1530 t1531 t1532 w0 _ ?side1 ?side2 A29.out).mono ?_
      (case side1 => repeat (first | (with_reducible first | exact HI0.out | apply IsS_l1Cur.alloc | apply IsS_l1Cur.drewN | apply IsS_l1Cur.drew | apply IsS_l1Cur.set_1 | apply IsS_l1Cur.set_2 | refine IsS_l1Cur.far ?_ NB0_1503.out _ | refine IsS_l1Cur.far ?_ NB0_1517.out _) | exact HI0.out))
      (case side2 => repeat (first | (with_reducible first | exact HB.out | apply below_alloc | apply pw_below_drewN | apply below_drew1 | refine below_set ?_ (IsS_l1Cur.ge HI0.out) | refine below_set ?_ GE1503.out | refine below_set ?_ GE1517.out) | exact HB.out))
      rintro e w37 ⟨rfl, hi, hb, hk⟩
      refine ⟨_, rfl, ?_⟩
      have n0_ := Aside0.mk (Kd.R_mono (Kd.R_keep (IsS_l1Cur.apart (show IsS_l1Cur w0 _ g s0_0 t1528 t1529 from is_l1Cur_ HI0.out) (rq_ HO_1518001.out) (by decide)) hk (fun _ h => h.2)) (fun _ h => h.1))
      have n1_ := Aside0.mk (Kd.R_mono (Kd.R_keep (IsS_l1Cur.apart (show IsS_l1Cur w0 _ g s0_0 t1528 t1529 from is_l1Cur_ HI0.out) (rq_ HO_1518002.out) (by decide)) hk (fun _ h => h.2)) (fun _ h => h.1))
      have n2_ := Aside0.mk (Kd.R_mono (Kd.R_keep (IsS_l1Cur.apart (show IsS_l1Cur w0 _ g s0_0 t1528 t1529 from is_l1Cur_ HI0.out) (rq_ HO_1518003.out) (by decide)) hk (fun _ h => h.2)) (fun _ h => h.1))
      have n3_ := Aside0.mk (KeepBut.blk hk (g' := gb1503) (o := .cells #[.int .i64 0, .slice none 0 0, .slice none 0 0, .slice none 0 0] 26 (0, 0)) (bq_ BK1503.out) NB1503_0.out (by simp))
      have n4_ := Aside0.mk (KeepBut.blk hk (g' := gb1517) (o := .cells #[.int .i64 x1518000_1, u1518001, u1518002, u1518003] 26 (0, 0)) (bq_ BK1517.out) NB1517_0.out (by simp))
      have n5_ := Aside0.mk (Kd.R_mono (Kd.R_keep (IsS_l1Cur.apart (show IsS_l1Cur w0 _ g s0_0 t1528 t1529 from is_l1Cur_ HI0.out) (rq_ HO1523.out) (by decide)) hk (fun _ h => h.2)) (fun _ h => h.1))
      have n6_ := Aside0.mk (KeepBut.trans (hk_ HK.out) hk (.inl rfl))
      have n7_ := Aside0.mk (hb)
      have n8_ := Aside0.mk (hi)
      clear HO_1518001; clear HO_1518002
      clear HO_1518003; clear BK1503
      clear BK1517; clear HO1523
      clear HK; clear HB
      clear HI0
      have HO_1518001 := n0_
      have HO_1518002 := n1_
      have HO_1518003 := n2_
      have BK1503 := n3_
      have BK1517 := n4_
      have HO1523 := n5_
      have HK := n6_
      have HB := n7_
      have HI0 := n8_
      clear n0_ n1_ n2_ n3_ n4_ n5_ n6_ n7_ n8_
      (try clear hb)
      (try clear hb2)
      (try clear hk)
      (try clear hi)
      obtain ⟨Ao38, co38, eo38⟩ := Kd.R_slice HO_1518001.out
      (first | subst eo38 | (injection eo38 with f1_ f2_ f3_; have f4_ := f1_.symm; have f5_ := f3_.symm; clear f1_ f2_ f3_; subst f4_; subst f5_))
      obtain ⟨Ao39, co39, eo39⟩ := Kd.R_slice HO_1518002.out
      (first | subst eo39 | (injection eo39 with f1_ f2_ f3_; have f4_ := f1_.symm; have f5_ := f3_.symm; clear f1_ f2_ f3_; subst f4_; subst f5_))
      obtain ⟨Ao40, co40, eo40⟩ := Kd.R_slice HO_1518003.out
      (first | subst eo40 | (injection eo40 with f1_ f2_ f3_; have f4_ := f1_.symm; have f5_ := f3_.symm; clear f1_ f2_ f3_; subst f4_; subst f5_))
      refine hK.out _ _ ⟨(blk_cell BK1517.out 0).trans rfl, (blk_cell BK1517.out 1).trans rfl, (blk_cell BK1517.out 2).trans rfl, (blk_cell BK1517.out 3).trans rfl⟩ (fun hHeld => ?_)
      clear hK K
      refine norm_ (a' := ?_) ?_ ?_
      rotate_left
      ·
       show Act.put _ (some 35) _ = _
       simp only [Act.put, List.setIfInBounds_toArray, List.set_cons_zero, List.set_cons_succ, i64_w, i32_w]
       rfl
      refine one_ (i := 3) (N := some 36) #[true, true, true, true, false] rfl rfl (by kernel_rfl) (by decide) (fun K hK => ?_)
      refine goes_ Try.func169 (by kernel_rfl) rfl #[.agg #[.int .i64 x1518000_1, .slice Ao38 x1518001_1.length co38, .slice Ao39 x1518002_1.length co39, .slice Ao40 x1518003_1.length co40], .int .i64 t1530] (by rfl) rfl rfl sm_ ?_
      with_reducible refine (spec_GroupLeave.calls kj14 x1518000_1 _ _ x1518001_1 _ _ x1518002_1 _ _ x1518003_1 t1530 t1533 t1534 t1537 t1540 _ ?side1 ?side2 ?side3 ?side4 ?side5 ?side6 A30.out).mono ?_
      (case side1 => repeat (first | exact (Kd.R_reads' HO_1518001.out).2.2 | (with_reducible refine Kd.C_alloc ?_ _) | (with_reducible refine Kd.C_drewN ?_ _) | (with_reducible refine Kd.C_drew ?_)))
      (case side2 => exact (Kd.R_reads' HO_1518001.out).2.1)
      (case side3 => repeat (first | exact (Kd.R_reads' HO_1518002.out).2.2 | (with_reducible refine Kd.C_alloc ?_ _) | (with_reducible refine Kd.C_drewN ?_ _) | (with_reducible refine Kd.C_drew ?_)))
      (case side4 => exact (Kd.R_reads' HO_1518002.out).2.1)
      (case side5 => repeat (first | exact (Kd.R_reads' HO_1518003.out).2.2 | (with_reducible refine Kd.C_alloc ?_ _) | (with_reducible refine Kd.C_drewN ?_ _) | (with_reducible refine Kd.C_drew ?_)))
      (case side6 => exact (Kd.R_reads' HO_1518003.out).2.1)
      rintro e w41 ⟨v1535, v1538, v1541, rfl, ho0, ho1, ho2, hb⟩
      refine ⟨_, rfl, ?_⟩
      have n0_ := Aside0.mk (Kd.R_mono (Kd.R_told (Kd.R_told (Kd.R_told (Kd.R_old (rq_ HO_1518001.out) hb) (Kd.R_base ho0)) (Kd.R_base ho1)) (Kd.R_base ho2)) (fun _ h_ => h_.1))
      have n1_ := Aside0.mk (Kd.R_mono (Kd.R_told (Kd.R_told (Kd.R_told (Kd.R_old (rq_ HO_1518002.out) hb) (Kd.R_base ho0)) (Kd.R_base ho1)) (Kd.R_base ho2)) (fun _ h_ => h_.1))
      have n2_ := Aside0.mk (Kd.R_mono (Kd.R_told (Kd.R_told (Kd.R_told (Kd.R_old (rq_ HO_1518003.out) hb) (Kd.R_base ho0)) (Kd.R_base ho1)) (Kd.R_base ho2)) (fun _ h_ => h_.1))
      have n3_ := Aside0.mk (Kd.R_mono (Kd.R_told (Kd.R_told (Kd.R_told (Kd.R_old (rq_ HO1523.out) hb) (Kd.R_base ho0)) (Kd.R_base ho1)) (Kd.R_base ho2)) (fun _ h_ => h_.1))
      have n4_ := Aside0.mk (Kd.R_lower (Kd.R_new' (Kd.R_new' (Kd.R_new' (Kd.R_new' ho0 (Kd.R_lt (rq_ HO_1518001.out))) (Kd.R_lt (rq_ HO_1518002.out))) (Kd.R_lt (rq_ HO_1518003.out))) (Kd.R_lt (rq_ HO1523.out))) (keep_size (w := w) (g := g) (row := none) (hk_ HK.out)))
      have n5_ := Aside0.mk (Kd.R_lower (Kd.R_new' (Kd.R_new' (Kd.R_new' (Kd.R_new' ho1 (Kd.R_lt (rq_ HO_1518001.out))) (Kd.R_lt (rq_ HO_1518002.out))) (Kd.R_lt (rq_ HO_1518003.out))) (Kd.R_lt (rq_ HO1523.out))) (keep_size (w := w) (g := g) (row := none) (hk_ HK.out)))
      have n6_ := Aside0.mk (Kd.R_lower (Kd.R_new' (Kd.R_new' (Kd.R_new' (Kd.R_new' ho2 (Kd.R_lt (rq_ HO_1518001.out))) (Kd.R_lt (rq_ HO_1518002.out))) (Kd.R_lt (rq_ HO_1518003.out))) (Kd.R_lt (rq_ HO1523.out))) (keep_size (w := w) (g := g) (row := none) (hk_ HK.out)))
      have n7_ := Aside0.mk (bb_ BK1503.out hb)
      have n8_ := Aside0.mk (bb_ BK1517.out hb)
      have n9_ := Aside0.mk (IsS_l1Cur.below (is_l1Cur_ HI0.out) hb)
      have n10_ := Aside0.mk (KeepBut.trans (hk_ HK.out) (KeepBut.of_below hb g none) (.inl rfl))
      have n11_ := Aside0.mk (below_step (hi_ HB.out) hb)
      clear HO_1518001; clear HO_1518002
      clear HO_1518003; clear HO1523
      clear BK1503; clear BK1517
      clear HI0; clear HK
      clear HB
      have HO_1518001 := n0_
      have HO_1518002 := n1_
      have HO_1518003 := n2_
      have HO1523 := n3_
      have HO1536 := n4_
      have HO1539 := n5_
      have HO1542 := n6_
      have BK1503 := n7_
      have BK1517 := n8_
      have HI0 := n9_
      have HK := n10_
      have HB := n11_
      clear n0_ n1_ n2_ n3_ n4_ n5_ n6_ n7_ n8_ n9_ n10_ n11_
      (try clear hb)
      (try clear hb2)
      (try clear hk)
      (try clear hi)
      (try clear ho0)
      (try clear ho1)
      (try clear ho2)
      obtain ⟨Ao43, co43, eo43⟩ := Kd.R_slice HO1536.out
      (first | subst eo43 | (injection eo43 with f1_ f2_ f3_; have f4_ := f1_.symm; have f5_ := f3_.symm; clear f1_ f2_ f3_; subst f4_; subst f5_))
      obtain ⟨Ao45, co45, eo45⟩ := Kd.R_slice HO1539.out
      (first | subst eo45 | (injection eo45 with f1_ f2_ f3_; have f4_ := f1_.symm; have f5_ := f3_.symm; clear f1_ f2_ f3_; subst f4_; subst f5_))
      obtain ⟨Ao47, co47, eo47⟩ := Kd.R_slice HO1542.out
      (first | subst eo47 | (injection eo47 with f1_ f2_ f3_; have f4_ := f1_.symm; have f5_ := f3_.symm; clear f1_ f2_ f3_; subst f4_; subst f5_))
      refine hK.out _ _ ⟨(blk_cell BK1517.out 0).trans rfl, (blk_cell BK1517.out 1).trans rfl, (blk_cell BK1517.out 2).trans rfl, (blk_cell BK1517.out 3).trans rfl⟩ (fun hHeld => ?_)
      clear hK K
      refine norm_ (a' := ?_) ?_ ?_
      rotate_left
      ·
       show Act.put _ (some 36) _ = _
       simp only [Act.put, List.setIfInBounds_toArray, List.set_cons_zero, List.set_cons_succ, i64_w, i32_w]
       rfl
      refine last_ (i := 4) (N := none) #[true, true, true, true, true] rfl rfl (by kernel_rfl) (by decide) (fun K hK => ?_)
      have hs42 : w41.cell? ⟨gb1517, 0, none⟩ = some (.int .i64 x1518000_1) := (blk_cell BK1517.out 0).trans rfl
      have hfs42 := blk_frozen BK1517.out 0
      have hns42_0 := NB1503_1517.out
      have hms42_0 := NB1517_1503.out
      have hs44 : w41.cell? ⟨gb1517, 1, none⟩ = some (.slice Ao38 x1518001_1.length co38) := (blk_cell BK1517.out 1).trans rfl
      have hfs44 := blk_frozen BK1517.out 1
      have hns44_0 := NB1503_1517.out
      have hms44_0 := NB1517_1503.out
      have hs46 : w41.cell? ⟨gb1517, 2, none⟩ = some (.slice Ao39 x1518002_1.length co39) := (blk_cell BK1517.out 2).trans rfl
      have hfs46 := blk_frozen BK1517.out 2
      have hns46_0 := NB1503_1517.out
      have hms46_0 := NB1517_1503.out
      have hs48 : w41.cell? ⟨gb1517, 3, none⟩ = some (.slice Ao40 x1518003_1.length co40) := (blk_cell BK1517.out 3).trans rfl
      have hfs48 := blk_frozen BK1517.out 3
      have hns48_0 := NB1503_1517.out
      have hms48_0 := NB1517_1503.out
      refine skip_ (w1 := ?_) (by rfl) rfl ?_ ?_
      rotate_left; (focus go_simp; rfl)
      refine hK.out _ _ ?_
      clear hK K
      refine done_ (by kernel_rfl) ?_
      try go_wp2
      go_roundg kj14
      case measure => have := HK1.out; have := HJ14.out; omega
      case rel => exact ⟨(wrap64 (x6_1 + t1524)), (wrap64 (x7_1 + 1)), (t1531), (t1532), (t1533), (t1534), (t1537), (t1540), (.slice Ao43 t1534.length co43), (.slice Ao45 t1537.length co45), (.slice Ao47 t1540.length co47), (by first | rfl | (simp; done) | (simp [*]; done)), (by first | rfl | (simp; done) | (simp [*]; done)), H', ⟨by have := HK1.out; have := HJ14.out; omega⟩, ⟨by (with_reducible repeat (first | apply Kd.R_alloc | apply Kd.R_drewN | apply Kd.R_drew)); exact Kd.R_mono (Kd.R_far (p := ⟨gb1517, 3, none⟩) (Kd.R_far (p := ⟨gb1517, 2, none⟩) (Kd.R_far (p := ⟨gb1517, 1, none⟩) (Kd.R_far (p := ⟨gb1517, 0, none⟩) (Kd.R_types HO1536.out BK1517.out (by decide)) (fun _ hk => hk.2) (.int .i64 t1533)) (fun _ hk => hk.2) (.slice Ao43 t1534.length co43)) (fun _ hk => hk.2) (.slice Ao45 t1537.length co45)) (fun _ hk => hk.2) (.slice Ao47 t1540.length co47)) (fun _ hk => ⟨hk.1.1.1.1.1.1, hk.1.1.1.1.1.2⟩)⟩, ⟨by (with_reducible repeat (first | apply Kd.R_alloc | apply Kd.R_drewN | apply Kd.R_drew)); exact Kd.R_mono (Kd.R_far (p := ⟨gb1517, 3, none⟩) (Kd.R_far (p := ⟨gb1517, 2, none⟩) (Kd.R_far (p := ⟨gb1517, 1, none⟩) (Kd.R_far (p := ⟨gb1517, 0, none⟩) (Kd.R_types HO1539.out BK1517.out (by decide)) (fun _ hk => hk.2) (.int .i64 t1533)) (fun _ hk => hk.2) (.slice Ao43 t1534.length co43)) (fun _ hk => hk.2) (.slice Ao45 t1537.length co45)) (fun _ hk => hk.2) (.slice Ao47 t1540.length co47)) (fun _ hk => ⟨hk.1.1.1.1.1.1, hk.1.1.1.1.1.2⟩)⟩, ⟨by (with_reducible repeat (first | apply Kd.R_alloc | apply Kd.R_drewN | apply Kd.R_drew)); exact Kd.R_mono (Kd.R_far (p := ⟨gb1517, 3, none⟩) (Kd.R_far (p := ⟨gb1517, 2, none⟩) (Kd.R_far (p := ⟨gb1517, 1, none⟩) (Kd.R_far (p := ⟨gb1517, 0, none⟩) (Kd.R_types HO1542.out BK1517.out (by decide)) (fun _ hk => hk.2) (.int .i64 t1533)) (fun _ hk => hk.2) (.slice Ao43 t1534.length co43)) (fun _ hk => hk.2) (.slice Ao45 t1537.length co45)) (fun _ hk => hk.2) (.slice Ao47 t1540.length co47)) (fun _ hk => ⟨hk.1.1.1.1.1.1, hk.1.1.1.1.1.2⟩)⟩, ⟨by (with_reducible repeat (first | refine blk_drewN ?_ _ | refine blk_drew ?_ | refine blk_alloc ?_ _)); refine blk_far ?_ NB1503_1517.out _; (with_reducible repeat (first | refine blk_drewN ?_ _ | refine blk_drew ?_ | refine blk_alloc ?_ _)); refine blk_far ?_ NB1503_1517.out _; (with_reducible repeat (first | refine blk_drewN ?_ _ | refine blk_drew ?_ | refine blk_alloc ?_ _)); refine blk_far ?_ NB1503_1517.out _; (with_reducible repeat (first | refine blk_drewN ?_ _ | refine blk_drew ?_ | refine blk_alloc ?_ _)); refine blk_far ?_ NB1503_1517.out _; (with_reducible repeat (first | refine blk_drewN ?_ _ | refine blk_drew ?_ | refine blk_alloc ?_ _)); exact BK1503.out⟩, ⟨by (with_reducible repeat (first | refine blk_drewN ?_ _ | refine blk_drew ?_ | refine blk_alloc ?_ _)); refine blk_put (cs := #[.int .i64 t1533, .slice Ao43 t1534.length co43, .slice Ao45 t1537.length co45, .slice Ao40 x1518003_1.length co40]) ?_ 3 _ rfl; (with_reducible repeat (first | refine blk_drewN ?_ _ | refine blk_drew ?_ | refine blk_alloc ?_ _)); refine blk_put (cs := #[.int .i64 t1533, .slice Ao43 t1534.length co43, .slice Ao39 x1518002_1.length co39, .slice Ao40 x1518003_1.length co40]) ?_ 2 _ rfl; (with_reducible repeat (first | refine blk_drewN ?_ _ | refine blk_drew ?_ | refine blk_alloc ?_ _)); refine blk_put (cs := #[.int .i64 t1533, .slice Ao38 x1518001_1.length co38, .slice Ao39 x1518002_1.length co39, .slice Ao40 x1518003_1.length co40]) ?_ 1 _ rfl; (with_reducible repeat (first | refine blk_drewN ?_ _ | refine blk_drew ?_ | refine blk_alloc ?_ _)); refine blk_put (cs := #[.int .i64 x1518000_1, .slice Ao38 x1518001_1.length co38, .slice Ao39 x1518002_1.length co39, .slice Ao40 x1518003_1.length co40]) ?_ 0 _ rfl; (with_reducible repeat (first | refine blk_drewN ?_ _ | refine blk_drew ?_ | refine blk_alloc ?_ _)); exact BK1517.out⟩, ⟨is_l1Cur_ HI0.out⟩, ⟨by repeat (first | (with_reducible first | exact HK.out | apply KeepBut.set_ | apply keep_drewN | apply keep_drew | apply keep_alloc | refine keep_far ?_ GW1503.out _ | refine keep_far ?_ GW1517.out _) | exact HK.out)⟩, ⟨by repeat (first | (with_reducible first | exact HB.out | apply below_alloc | apply pw_below_drewN | apply below_drew1 | refine below_set ?_ (IsS_l1Cur.ge HI0.out) | refine below_set ?_ GE1503.out | refine below_set ?_ GE1517.out) | exact HB.out)⟩⟩
     ·
      rw [if_neg c28] at H
      have c28b0 : (t1527 == 0) = false := beq_eq_false_iff_ne.mpr c28
      have c28b1 : (t1527 != 0) = true := bne_iff_ne.mpr c28
      by_cases c49 : t1527 = 1
      ·
       rw [if_pos c49] at H
       have c49b0 : (t1527 == 1) = true := beq_iff_eq.mpr c49
       have c49b1 : (t1527 != 1) = false := bne_eq_false_iff_eq.mpr c49
       clear c49
       replace H := Option.bind_eq_some_iff.mp H
       obtain ⟨⟨t1543, t1544, t1547, t1550⟩, A500, H⟩ := H
       replace H : (spec_l5DrawRight.l0 kj14 (wrap64 (1 + t1504)) (wrap64 (x6_1 + t1524)) (wrap64 (x7_1 + 1)) s0_0 t1528 t1529 t1543 t1544 t1547 t1550) = some (r1, r2, r3, r4, r5, r6, r7) := H
       have A50 := Aside0.mk A500
       clear A500
       have H' := Aside0.mk H
       clear H
       go_wp2_with (first | ((with_reducible refine gate_dst (N := 21) rfl ?_); refine Kd.R_lit (Kd.int .i64) _ 3 ?hg (N := 21) ?hd (xs := ([0, 10, 60] : List Int)) (inner := [.int .i64 0, .int .i64 10, .int .i64 60]) (ok := fun _ => True) (okp := fun _ => True) ?hr ?hp (fun _ hk => hk) trivial (Below.refl _ _) (Nat.le_refl _) (by simp) ?_; (case hd => rfl); (case hg => rfl); (case hr => first | (go_simp; done) | (go_simp; rfl)); (case hp => exact (Reps.one (show Kd.M (Kd.int .i64) _ _ _ 0 [.int .i64 0] from rfl) (Reps.one (show Kd.M (Kd.int .i64) _ _ _ 10 [.int .i64 10] from rfl) (Reps.one (show Kd.M (Kd.int .i64) _ _ _ 60 [.int .i64 60] from rfl) (Reps.none _ _))))); intro v1522 w51 ho52 hb hg_ hnew_; clear hg_ hnew_; (first | rw [← Ny1521.out] at ho52 | (simp only [Int.reduceToNat] at ho52; rw [← Ny1521.out] at ho52)); have n0_ := Aside0.mk (Kd.R_elder' (rq_ HO_1518001.out) (Kd.R_base ho52) hb); have n1_ := Aside0.mk (Kd.R_elder' (rq_ HO_1518002.out) (Kd.R_base ho52) hb); have n2_ := Aside0.mk (Kd.R_elder' (rq_ HO_1518003.out) (Kd.R_base ho52) hb); have n3_ := Aside0.mk (Kd.R_lower (Kd.R_new' (Kd.R_new' (Kd.R_new' ho52 (Kd.R_lt (rq_ HO_1518001.out))) (Kd.R_lt (rq_ HO_1518002.out))) (Kd.R_lt (rq_ HO_1518003.out))) (keep_size (w := w) (g := g) (row := none) (hk_ HK.out))); have n4_ := Aside0.mk (bb_ BK1503.out hb); have n5_ := Aside0.mk (bb_ BK1517.out hb); have n6_ := Aside0.mk (IsS_l1Cur.below (is_l1Cur_ HI0.out) hb); have n7_ := Aside0.mk (KeepBut.trans (hk_ HK.out) (KeepBut.of_below hb g none) (.inl rfl)); have n8_ := Aside0.mk (below_step (hi_ HB.out) hb); clear HO_1518001; clear HO_1518002; clear HO_1518003; clear BK1503; clear BK1517; clear HI0; clear HK; clear HB; have HO_1518001 := n0_; have HO_1518002 := n1_; have HO_1518003 := n2_; have HO1523 := n3_; have BK1503 := n4_; have BK1517 := n5_; have HI0 := n6_; have HK := n7_; have HB := n8_; clear n0_ n1_ n2_ n3_ n4_ n5_ n6_ n7_ n8_; clear hb ho52; obtain ⟨Ao53, co53, eo53⟩ := Kd.R_slice HO1523.out; subst eo53) | ((with_reducible refine gate_callee (f := 104) rfl ?_); refine goesL_ (some 22) rfl rfl Try.func104 (by kernel_rfl) rfl #[.pointer (some ⟨g, 0, none⟩), .slice Ao53 y1521.length co53] rfl sm_ ?_; (with_reducible refine (spec_l1PickInt.calls g s0_0 t1519 t1520 _ _ y1521 t1524 t1525 t1526 w0 _ ?side1 ?side2 ?side3 ?side4 ?side5 A26.out).mono ?_); (case side1 => repeat (first | (with_reducible first | exact HI0.out | apply IsS_l1Cur.alloc | apply IsS_l1Cur.drewN | apply IsS_l1Cur.drew | apply IsS_l1Cur.set_1 | apply IsS_l1Cur.set_2 | refine IsS_l1Cur.far ?_ NB0_1503.out _ | refine IsS_l1Cur.far ?_ NB0_1517.out _) | exact HI0.out)); (case side2 => repeat (first | (with_reducible first | exact HB.out | apply below_alloc | apply pw_below_drewN | apply below_drew1 | refine below_set ?_ (IsS_l1Cur.ge HI0.out) | refine below_set ?_ GE1503.out | refine below_set ?_ GE1517.out) | exact HB.out)); (case side3 => repeat (first | exact (Kd.R_reads' HO1523.out).2.2 | (with_reducible refine Kd.C_alloc ?_ _) | (with_reducible refine Kd.C_drewN ?_ _) | (with_reducible refine Kd.C_drew ?_))); (case side4 => exact (Kd.R_reads' HO1523.out).2.1); (case side5 => exact far_slice (IsS_l1Cur.own_ne HI0.out HO1523.out (by decide))); rintro e w54 ⟨rfl, hi, hb, hk⟩; refine ⟨_, rfl, ?_⟩; have n0_ := Aside0.mk (Kd.R_mono (Kd.R_keep (IsS_l1Cur.apart (show IsS_l1Cur w0 _ g s0_0 t1519 t1520 from is_l1Cur_ HI0.out) (rq_ HO_1518001.out) (by decide)) hk (fun _ h => h.2)) (fun _ h => h.1)); have n1_ := Aside0.mk (Kd.R_mono (Kd.R_keep (IsS_l1Cur.apart (show IsS_l1Cur w0 _ g s0_0 t1519 t1520 from is_l1Cur_ HI0.out) (rq_ HO_1518002.out) (by decide)) hk (fun _ h => h.2)) (fun _ h => h.1)); have n2_ := Aside0.mk (Kd.R_mono (Kd.R_keep (IsS_l1Cur.apart (show IsS_l1Cur w0 _ g s0_0 t1519 t1520 from is_l1Cur_ HI0.out) (rq_ HO_1518003.out) (by decide)) hk (fun _ h => h.2)) (fun _ h => h.1)); have n3_ := Aside0.mk (KeepBut.blk hk (g' := gb1503) (o := .cells #[.int .i64 0, .slice none 0 0, .slice none 0 0, .slice none 0 0] 26 (0, 0)) (bq_ BK1503.out) NB1503_0.out (by simp)); have n4_ := Aside0.mk (KeepBut.blk hk (g' := gb1517) (o := .cells #[.int .i64 x1518000_1, u1518001, u1518002, u1518003] 26 (0, 0)) (bq_ BK1517.out) NB1517_0.out (by simp)); have n5_ := Aside0.mk (Kd.R_mono (Kd.R_keep (IsS_l1Cur.apart (show IsS_l1Cur w0 _ g s0_0 t1519 t1520 from is_l1Cur_ HI0.out) (rq_ HO1523.out) (by decide)) hk (fun _ h => h.2)) (fun _ h => h.1)); have n6_ := Aside0.mk (KeepBut.trans (hk_ HK.out) hk (.inl rfl)); have n7_ := Aside0.mk (hb); have n8_ := Aside0.mk (hi); clear HO_1518001; clear HO_1518002; clear HO_1518003; clear BK1503; clear BK1517; clear HO1523; clear HK; clear HB; clear HI0; have HO_1518001 := n0_; have HO_1518002 := n1_; have HO_1518003 := n2_; have BK1503 := n3_; have BK1517 := n4_; have HO1523 := n5_; have HK := n6_; have HB := n7_; have HI0 := n8_; clear n0_ n1_ n2_ n3_ n4_ n5_ n6_ n7_ n8_; (try clear hb); (try clear hb2); (try clear hk); (try clear hi)) | ((with_reducible refine gate_callee (f := 78) rfl ?_); refine goesL_ (some 25) rfl rfl Try.func78 (by kernel_rfl) rfl #[.pointer (some ⟨g, 0, none⟩), .int .i64 5] rfl sm_ ?_; (with_reducible refine (spec_l1Below.calls g s0_0 t1525 t1526 5 t1527 t1528 t1529 w0 _ ?side1 ?side2 A27.out).mono ?_); (case side1 => repeat (first | (with_reducible first | exact HI0.out | apply IsS_l1Cur.alloc | apply IsS_l1Cur.drewN | apply IsS_l1Cur.drew | apply IsS_l1Cur.set_1 | apply IsS_l1Cur.set_2 | refine IsS_l1Cur.far ?_ NB0_1503.out _ | refine IsS_l1Cur.far ?_ NB0_1517.out _) | exact HI0.out)); (case side2 => repeat (first | (with_reducible first | exact HB.out | apply below_alloc | apply pw_below_drewN | apply below_drew1 | refine below_set ?_ (IsS_l1Cur.ge HI0.out) | refine below_set ?_ GE1503.out | refine below_set ?_ GE1517.out) | exact HB.out)); rintro e w55 ⟨rfl, hi, hb, hk⟩; refine ⟨_, rfl, ?_⟩; have n0_ := Aside0.mk (Kd.R_mono (Kd.R_keep (IsS_l1Cur.apart (show IsS_l1Cur w0 _ g s0_0 t1525 t1526 from is_l1Cur_ HI0.out) (rq_ HO_1518001.out) (by decide)) hk (fun _ h => h.2)) (fun _ h => h.1)); have n1_ := Aside0.mk (Kd.R_mono (Kd.R_keep (IsS_l1Cur.apart (show IsS_l1Cur w0 _ g s0_0 t1525 t1526 from is_l1Cur_ HI0.out) (rq_ HO_1518002.out) (by decide)) hk (fun _ h => h.2)) (fun _ h => h.1)); have n2_ := Aside0.mk (Kd.R_mono (Kd.R_keep (IsS_l1Cur.apart (show IsS_l1Cur w0 _ g s0_0 t1525 t1526 from is_l1Cur_ HI0.out) (rq_ HO_1518003.out) (by decide)) hk (fun _ h => h.2)) (fun _ h => h.1)); have n3_ := Aside0.mk (KeepBut.blk hk (g' := gb1503) (o := .cells #[.int .i64 0, .slice none 0 0, .slice none 0 0, .slice none 0 0] 26 (0, 0)) (bq_ BK1503.out) NB1503_0.out (by simp)); have n4_ := Aside0.mk (KeepBut.blk hk (g' := gb1517) (o := .cells #[.int .i64 x1518000_1, u1518001, u1518002, u1518003] 26 (0, 0)) (bq_ BK1517.out) NB1517_0.out (by simp)); have n5_ := Aside0.mk (Kd.R_mono (Kd.R_keep (IsS_l1Cur.apart (show IsS_l1Cur w0 _ g s0_0 t1525 t1526 from is_l1Cur_ HI0.out) (rq_ HO1523.out) (by decide)) hk (fun _ h => h.2)) (fun _ h => h.1)); have n6_ := Aside0.mk (KeepBut.trans (hk_ HK.out) hk (.inl rfl)); have n7_ := Aside0.mk (hb); have n8_ := Aside0.mk (hi); clear HO_1518001; clear HO_1518002; clear HO_1518003; clear BK1503; clear BK1517; clear HO1523; clear HK; clear HB; clear HI0; have HO_1518001 := n0_; have HO_1518002 := n1_; have HO_1518003 := n2_; have BK1503 := n3_; have BK1517 := n4_; have HO1523 := n5_; have HK := n6_; have HB := n7_; have HI0 := n8_; clear n0_ n1_ n2_ n3_ n4_ n5_ n6_ n7_ n8_; (try clear hb); (try clear hb2); (try clear hk); (try clear hi); have hnb56 := NB1517_1503.out; have hnc56 := NB1503_1517.out; have hnb57 := NB1517_0.out; have hnc57 := NB0_1517.out; have hcz58_0 : w55.cell? ⟨gb1517, 0, none⟩ = some (.int .i64 x1518000_1) := (blk_cell BK1517.out 0).trans rfl; have hcz58_1 : w55.cell? ⟨gb1517, 1, none⟩ = some (u1518001) := (blk_cell BK1517.out 1).trans rfl; have hcz58_2 : w55.cell? ⟨gb1517, 2, none⟩ = some (u1518002) := (blk_cell BK1517.out 2).trans rfl; have hcz58_3 : w55.cell? ⟨gb1517, 3, none⟩ = some (u1518003) := (blk_cell BK1517.out 3).trans rfl; have hfz58_0 := blk_frozen BK1517.out 0; have hfz58_1 := blk_frozen BK1517.out 1; have hfz58_2 := blk_frozen BK1517.out 2; have hfz58_3 := blk_frozen BK1517.out 3; obtain ⟨Ao59, co59, eo59⟩ := Kd.R_slice HO_1518001.out; subst eo59; obtain ⟨Ao60, co60, eo60⟩ := Kd.R_slice HO_1518002.out; subst eo60; obtain ⟨Ao61, co61, eo61⟩ := Kd.R_slice HO_1518003.out; subst eo61) | ((with_reducible refine gate_callee (f := 170) rfl ?_); refine goesL_ (some 41) rfl rfl Try.func170 (by kernel_rfl) rfl #[.agg #[.int .i64 x1518000_1, .slice Ao59 x1518001_1.length co59, .slice Ao60 x1518002_1.length co60, .slice Ao61 x1518003_1.length co61], .int .i64 (wrap64 (x6_1 + t1524))] rfl sm_ ?_; (with_reducible refine (spec_GroupTick.calls kj14 x1518000_1 _ _ x1518001_1 _ _ x1518002_1 _ _ x1518003_1 (wrap64 (x6_1 + t1524)) t1543 t1544 t1547 t1550 _ ?side1 ?side2 ?side3 ?side4 ?side5 ?side6 A50.out).mono ?_); (case side1 => repeat (first | exact (Kd.R_reads' HO_1518001.out).2.2 | (with_reducible refine Kd.C_alloc ?_ _) | (with_reducible refine Kd.C_drewN ?_ _) | (with_reducible refine Kd.C_drew ?_))); (case side2 => exact (Kd.R_reads' HO_1518001.out).2.1); (case side3 => repeat (first | exact (Kd.R_reads' HO_1518002.out).2.2 | (with_reducible refine Kd.C_alloc ?_ _) | (with_reducible refine Kd.C_drewN ?_ _) | (with_reducible refine Kd.C_drew ?_))); (case side4 => exact (Kd.R_reads' HO_1518002.out).2.1); (case side5 => repeat (first | exact (Kd.R_reads' HO_1518003.out).2.2 | (with_reducible refine Kd.C_alloc ?_ _) | (with_reducible refine Kd.C_drewN ?_ _) | (with_reducible refine Kd.C_drew ?_))); (case side6 => exact (Kd.R_reads' HO_1518003.out).2.1); rintro e w62 ⟨v1545, v1548, v1551, rfl, ho0, ho1, ho2, hb⟩; refine ⟨_, rfl, ?_⟩; have n0_ := Aside0.mk (Kd.R_mono (Kd.R_told (Kd.R_told (Kd.R_told (Kd.R_old (rq_ HO_1518001.out) hb) (Kd.R_base ho0)) (Kd.R_base ho1)) (Kd.R_base ho2)) (fun _ h_ => h_.1)); have n1_ := Aside0.mk (Kd.R_mono (Kd.R_told (Kd.R_told (Kd.R_told (Kd.R_old (rq_ HO_1518002.out) hb) (Kd.R_base ho0)) (Kd.R_base ho1)) (Kd.R_base ho2)) (fun _ h_ => h_.1)); have n2_ := Aside0.mk (Kd.R_mono (Kd.R_told (Kd.R_told (Kd.R_told (Kd.R_old (rq_ HO_1518003.out) hb) (Kd.R_base ho0)) (Kd.R_base ho1)) (Kd.R_base ho2)) (fun _ h_ => h_.1)); have n3_ := Aside0.mk (Kd.R_mono (Kd.R_told (Kd.R_told (Kd.R_told (Kd.R_old (rq_ HO1523.out) hb) (Kd.R_base ho0)) (Kd.R_base ho1)) (Kd.R_base ho2)) (fun _ h_ => h_.1)); have n4_ := Aside0.mk (Kd.R_lower (Kd.R_new' (Kd.R_new' (Kd.R_new' (Kd.R_new' ho0 (Kd.R_lt (rq_ HO_1518001.out))) (Kd.R_lt (rq_ HO_1518002.out))) (Kd.R_lt (rq_ HO_1518003.out))) (Kd.R_lt (rq_ HO1523.out))) (keep_size (w := w) (g := g) (row := none) (hk_ HK.out))); have n5_ := Aside0.mk (Kd.R_lower (Kd.R_new' (Kd.R_new' (Kd.R_new' (Kd.R_new' ho1 (Kd.R_lt (rq_ HO_1518001.out))) (Kd.R_lt (rq_ HO_1518002.out))) (Kd.R_lt (rq_ HO_1518003.out))) (Kd.R_lt (rq_ HO1523.out))) (keep_size (w := w) (g := g) (row := none) (hk_ HK.out))); have n6_ := Aside0.mk (Kd.R_lower (Kd.R_new' (Kd.R_new' (Kd.R_new' (Kd.R_new' ho2 (Kd.R_lt (rq_ HO_1518001.out))) (Kd.R_lt (rq_ HO_1518002.out))) (Kd.R_lt (rq_ HO_1518003.out))) (Kd.R_lt (rq_ HO1523.out))) (keep_size (w := w) (g := g) (row := none) (hk_ HK.out))); have n7_ := Aside0.mk (bb_ BK1503.out hb); have n8_ := Aside0.mk (bb_ BK1517.out hb); have n9_ := Aside0.mk (IsS_l1Cur.below (is_l1Cur_ HI0.out) hb); have n10_ := Aside0.mk (KeepBut.trans (hk_ HK.out) (KeepBut.of_below hb g none) (.inl rfl)); have n11_ := Aside0.mk (below_step (hi_ HB.out) hb); clear HO_1518001; clear HO_1518002; clear HO_1518003; clear HO1523; clear BK1503; clear BK1517; clear HI0; clear HK; clear HB; have HO_1518001 := n0_; have HO_1518002 := n1_; have HO_1518003 := n2_; have HO1523 := n3_; have HO1546 := n4_; have HO1549 := n5_; have HO1552 := n6_; have BK1503 := n7_; have BK1517 := n8_; have HI0 := n9_; have HK := n10_; have HB := n11_; clear n0_ n1_ n2_ n3_ n4_ n5_ n6_ n7_ n8_ n9_ n10_ n11_; (try clear hb); (try clear hb2); (try clear hk); (try clear hi); (try clear ho0); (try clear ho1); (try clear ho2); have hcz63_0 : w62.cell? ⟨gb1517, 0, none⟩ = some (.int .i64 x1518000_1) := (blk_cell BK1517.out 0).trans rfl; have hcz63_1 : w62.cell? ⟨gb1517, 1, none⟩ = some (.slice Ao59 x1518001_1.length co59) := (blk_cell BK1517.out 1).trans rfl; have hcz63_2 : w62.cell? ⟨gb1517, 2, none⟩ = some (.slice Ao60 x1518002_1.length co60) := (blk_cell BK1517.out 2).trans rfl; have hcz63_3 : w62.cell? ⟨gb1517, 3, none⟩ = some (.slice Ao61 x1518003_1.length co61) := (blk_cell BK1517.out 3).trans rfl; have hfz63_0 := blk_frozen BK1517.out 0; have hfz63_1 := blk_frozen BK1517.out 1; have hfz63_2 := blk_frozen BK1517.out 2; have hfz63_3 := blk_frozen BK1517.out 3; obtain ⟨Ao64, co64, eo64⟩ := Kd.R_slice HO1546.out; subst eo64; obtain ⟨Ao65, co65, eo65⟩ := Kd.R_slice HO1549.out; subst eo65; obtain ⟨Ao66, co66, eo66⟩ := Kd.R_slice HO1552.out; subst eo66))
       go_roundg kj14
       case measure => have := HK1.out; have := HJ14.out; omega
       case rel => exact ⟨(wrap64 (x6_1 + t1524)), (wrap64 (x7_1 + 1)), (t1528), (t1529), (t1543), (t1544), (t1547), (t1550), (.slice Ao64 t1544.length co64), (.slice Ao65 t1547.length co65), (.slice Ao66 t1550.length co66), (by first | rfl | (simp; done) | (simp [*]; done)), (by first | rfl | (simp; done) | (simp [*]; done)), H', ⟨by have := HK1.out; have := HJ14.out; omega⟩, ⟨by (with_reducible repeat (first | apply Kd.R_alloc | apply Kd.R_drewN | apply Kd.R_drew)); exact Kd.R_mono (Kd.R_far (p := ⟨gb1517, 3, none⟩) (Kd.R_far (p := ⟨gb1517, 2, none⟩) (Kd.R_far (p := ⟨gb1517, 1, none⟩) (Kd.R_far (p := ⟨gb1517, 0, none⟩) (Kd.R_types HO1546.out BK1517.out (by decide)) (fun _ hk => hk.2) (.int .i64 t1543)) (fun _ hk => hk.2) (.slice Ao64 t1544.length co64)) (fun _ hk => hk.2) (.slice Ao65 t1547.length co65)) (fun _ hk => hk.2) (.slice Ao66 t1550.length co66)) (fun _ hk => ⟨hk.1.1.1.1.1.1, hk.1.1.1.1.1.2⟩)⟩, ⟨by (with_reducible repeat (first | apply Kd.R_alloc | apply Kd.R_drewN | apply Kd.R_drew)); exact Kd.R_mono (Kd.R_far (p := ⟨gb1517, 3, none⟩) (Kd.R_far (p := ⟨gb1517, 2, none⟩) (Kd.R_far (p := ⟨gb1517, 1, none⟩) (Kd.R_far (p := ⟨gb1517, 0, none⟩) (Kd.R_types HO1549.out BK1517.out (by decide)) (fun _ hk => hk.2) (.int .i64 t1543)) (fun _ hk => hk.2) (.slice Ao64 t1544.length co64)) (fun _ hk => hk.2) (.slice Ao65 t1547.length co65)) (fun _ hk => hk.2) (.slice Ao66 t1550.length co66)) (fun _ hk => ⟨hk.1.1.1.1.1.1, hk.1.1.1.1.1.2⟩)⟩, ⟨by (with_reducible repeat (first | apply Kd.R_alloc | apply Kd.R_drewN | apply Kd.R_drew)); exact Kd.R_mono (Kd.R_far (p := ⟨gb1517, 3, none⟩) (Kd.R_far (p := ⟨gb1517, 2, none⟩) (Kd.R_far (p := ⟨gb1517, 1, none⟩) (Kd.R_far (p := ⟨gb1517, 0, none⟩) (Kd.R_types HO1552.out BK1517.out (by decide)) (fun _ hk => hk.2) (.int .i64 t1543)) (fun _ hk => hk.2) (.slice Ao64 t1544.length co64)) (fun _ hk => hk.2) (.slice Ao65 t1547.length co65)) (fun _ hk => hk.2) (.slice Ao66 t1550.length co66)) (fun _ hk => ⟨hk.1.1.1.1.1.1, hk.1.1.1.1.1.2⟩)⟩, ⟨by (with_reducible repeat (first | refine blk_drewN ?_ _ | refine blk_drew ?_ | refine blk_alloc ?_ _)); refine blk_far ?_ NB1503_1517.out _; (with_reducible repeat (first | refine blk_drewN ?_ _ | refine blk_drew ?_ | refine blk_alloc ?_ _)); refine blk_far ?_ NB1503_1517.out _; (with_reducible repeat (first | refine blk_drewN ?_ _ | refine blk_drew ?_ | refine blk_alloc ?_ _)); refine blk_far ?_ NB1503_1517.out _; (with_reducible repeat (first | refine blk_drewN ?_ _ | refine blk_drew ?_ | refine blk_alloc ?_ _)); refine blk_far ?_ NB1503_1517.out _; (with_reducible repeat (first | refine blk_drewN ?_ _ | refine blk_drew ?_ | refine blk_alloc ?_ _)); exact BK1503.out⟩, ⟨by (with_reducible repeat (first | refine blk_drewN ?_ _ | refine blk_drew ?_ | refine blk_alloc ?_ _)); refine blk_put (cs := #[.int .i64 t1543, .slice Ao64 t1544.length co64, .slice Ao65 t1547.length co65, .slice Ao61 x1518003_1.length co61]) ?_ 3 _ rfl; (with_reducible repeat (first | refine blk_drewN ?_ _ | refine blk_drew ?_ | refine blk_alloc ?_ _)); refine blk_put (cs := #[.int .i64 t1543, .slice Ao64 t1544.length co64, .slice Ao60 x1518002_1.length co60, .slice Ao61 x1518003_1.length co61]) ?_ 2 _ rfl; (with_reducible repeat (first | refine blk_drewN ?_ _ | refine blk_drew ?_ | refine blk_alloc ?_ _)); refine blk_put (cs := #[.int .i64 t1543, .slice Ao59 x1518001_1.length co59, .slice Ao60 x1518002_1.length co60, .slice Ao61 x1518003_1.length co61]) ?_ 1 _ rfl; (with_reducible repeat (first | refine blk_drewN ?_ _ | refine blk_drew ?_ | refine blk_alloc ?_ _)); refine blk_put (cs := #[.int .i64 x1518000_1, .slice Ao59 x1518001_1.length co59, .slice Ao60 x1518002_1.length co60, .slice Ao61 x1518003_1.length co61]) ?_ 0 _ rfl; (with_reducible repeat (first | refine blk_drewN ?_ _ | refine blk_drew ?_ | refine blk_alloc ?_ _)); exact BK1517.out⟩, ⟨is_l1Cur_ HI0.out⟩, ⟨by repeat (first | (with_reducible first | exact HK.out | apply KeepBut.set_ | apply keep_drewN | apply keep_drew | apply keep_alloc | refine keep_far ?_ GW1503.out _ | refine keep_far ?_ GW1517.out _) | exact HK.out)⟩, ⟨by repeat (first | (with_reducible first | exact HB.out | apply below_alloc | apply pw_below_drewN | apply below_drew1 | refine below_set ?_ (IsS_l1Cur.ge HI0.out) | refine below_set ?_ GE1503.out | refine below_set ?_ GE1517.out) | exact HB.out)⟩⟩
      ·
       rw [if_neg c49] at H
       have c49b0 : (t1527 == 1) = false := beq_eq_false_iff_ne.mpr c49
       have c49b1 : (t1527 != 1) = true := bne_iff_ne.mpr c49
       by_cases c67 : t1527 = 2
       ·
        rw [if_pos c67] at H
        have c67b0 : (t1527 == 2) = true := beq_iff_eq.mpr c67
        have c67b1 : (t1527 != 2) = false := bne_eq_false_iff_eq.mpr c67
        clear c67
        replace H := Option.bind_eq_some_iff.mp H
        obtain ⟨⟨t1553, t1554, t1555⟩, A680, H⟩ := H
        replace H : ((spec_l1Below.f s0_0 t1554 t1555 (wrap64 (1 + t1504))).bind fun bt1556 => ((spec_l1Below.f s0_0 bt1556.2.1 bt1556.2.2 9).bind fun bt1559 => ((spec_GroupMark.f kj14 x1518000_1 x1518001_1 x1518002_1 x1518003_1 t1553 x1518000_1 bt1556.1 bt1559.1).bind fun bt1562 => (spec_l5DrawRight.l0 kj14 (wrap64 (1 + t1504)) (wrap64 (x6_1 + t1524)) (wrap64 (x7_1 + 1)) s0_0 bt1559.2.1 bt1559.2.2 bt1562.1 bt1562.2.1 bt1562.2.2.1 bt1562.2.2.2.1)))) = some (r1, r2, r3, r4, r5, r6, r7) := H
        have A68 := Aside0.mk A680
        clear A680
        replace H := Option.bind_eq_some_iff.mp H
        obtain ⟨⟨t1556, t1557, t1558⟩, A690, H⟩ := H
        replace H : ((spec_l1Below.f s0_0 t1557 t1558 9).bind fun bt1559 => ((spec_GroupMark.f kj14 x1518000_1 x1518001_1 x1518002_1 x1518003_1 t1553 x1518000_1 t1556 bt1559.1).bind fun bt1562 => (spec_l5DrawRight.l0 kj14 (wrap64 (1 + t1504)) (wrap64 (x6_1 + t1524)) (wrap64 (x7_1 + 1)) s0_0 bt1559.2.1 bt1559.2.2 bt1562.1 bt1562.2.1 bt1562.2.2.1 bt1562.2.2.2.1))) = some (r1, r2, r3, r4, r5, r6, r7) := H
        have A69 := Aside0.mk A690
        clear A690
        replace H := Option.bind_eq_some_iff.mp H
        obtain ⟨⟨t1559, t1560, t1561⟩, A700, H⟩ := H
        replace H : ((spec_GroupMark.f kj14 x1518000_1 x1518001_1 x1518002_1 x1518003_1 t1553 x1518000_1 t1556 t1559).bind fun bt1562 => (spec_l5DrawRight.l0 kj14 (wrap64 (1 + t1504)) (wrap64 (x6_1 + t1524)) (wrap64 (x7_1 + 1)) s0_0 t1560 t1561 bt1562.1 bt1562.2.1 bt1562.2.2.1 bt1562.2.2.2.1)) = some (r1, r2, r3, r4, r5, r6, r7) := H
        have A70 := Aside0.mk A700
        clear A700
        replace H := Option.bind_eq_some_iff.mp H
        obtain ⟨⟨t1562, t1563, t1566, t1569, t1572⟩, A710, H⟩ := H
        replace H : (spec_l5DrawRight.l0 kj14 (wrap64 (1 + t1504)) (wrap64 (x6_1 + t1524)) (wrap64 (x7_1 + 1)) s0_0 t1560 t1561 t1562 t1563 t1566 t1569) = some (r1, r2, r3, r4, r5, r6, r7) := H
        have A71 := Aside0.mk A710
        clear A710
        have H' := Aside0.mk H
        clear H
        try go_wp2_with (first | ((with_reducible refine gate_dst (N := 21) rfl ?_); refine Kd.R_lit (Kd.int .i64) _ 3 ?hg (N := 21) ?hd (xs := ([0, 10, 60] : List Int)) (inner := [.int .i64 0, .int .i64 10, .int .i64 60]) (ok := fun _ => True) (okp := fun _ => True) ?hr ?hp (fun _ hk => hk) trivial (Below.refl _ _) (Nat.le_refl _) (by simp) ?_; (case hd => rfl); (case hg => rfl); (case hr => first | (go_simp; done) | (go_simp; rfl)); (case hp => exact (Reps.one (show Kd.M (Kd.int .i64) _ _ _ 0 [.int .i64 0] from rfl) (Reps.one (show Kd.M (Kd.int .i64) _ _ _ 10 [.int .i64 10] from rfl) (Reps.one (show Kd.M (Kd.int .i64) _ _ _ 60 [.int .i64 60] from rfl) (Reps.none _ _))))); intro v1522 w72 ho73 hb hg_ hnew_; clear hg_ hnew_; (first | rw [← Ny1521.out] at ho73 | (simp only [Int.reduceToNat] at ho73; rw [← Ny1521.out] at ho73)); have n0_ := Aside0.mk (Kd.R_elder' (rq_ HO_1518001.out) (Kd.R_base ho73) hb); have n1_ := Aside0.mk (Kd.R_elder' (rq_ HO_1518002.out) (Kd.R_base ho73) hb); have n2_ := Aside0.mk (Kd.R_elder' (rq_ HO_1518003.out) (Kd.R_base ho73) hb); have n3_ := Aside0.mk (Kd.R_lower (Kd.R_new' (Kd.R_new' (Kd.R_new' ho73 (Kd.R_lt (rq_ HO_1518001.out))) (Kd.R_lt (rq_ HO_1518002.out))) (Kd.R_lt (rq_ HO_1518003.out))) (keep_size (w := w) (g := g) (row := none) (hk_ HK.out))); have n4_ := Aside0.mk (bb_ BK1503.out hb); have n5_ := Aside0.mk (bb_ BK1517.out hb); have n6_ := Aside0.mk (IsS_l1Cur.below (is_l1Cur_ HI0.out) hb); have n7_ := Aside0.mk (KeepBut.trans (hk_ HK.out) (KeepBut.of_below hb g none) (.inl rfl)); have n8_ := Aside0.mk (below_step (hi_ HB.out) hb); clear HO_1518001; clear HO_1518002; clear HO_1518003; clear BK1503; clear BK1517; clear HI0; clear HK; clear HB; have HO_1518001 := n0_; have HO_1518002 := n1_; have HO_1518003 := n2_; have HO1523 := n3_; have BK1503 := n4_; have BK1517 := n5_; have HI0 := n6_; have HK := n7_; have HB := n8_; clear n0_ n1_ n2_ n3_ n4_ n5_ n6_ n7_ n8_; clear hb ho73; obtain ⟨Ao74, co74, eo74⟩ := Kd.R_slice HO1523.out; subst eo74) | ((with_reducible refine gate_callee (f := 104) rfl ?_); refine goesL_ (some 22) rfl rfl Try.func104 (by kernel_rfl) rfl #[.pointer (some ⟨g, 0, none⟩), .slice Ao74 y1521.length co74] rfl sm_ ?_; (with_reducible refine (spec_l1PickInt.calls g s0_0 t1519 t1520 _ _ y1521 t1524 t1525 t1526 w0 _ ?side1 ?side2 ?side3 ?side4 ?side5 A26.out).mono ?_); (case side1 => repeat (first | (with_reducible first | exact HI0.out | apply IsS_l1Cur.alloc | apply IsS_l1Cur.drewN | apply IsS_l1Cur.drew | apply IsS_l1Cur.set_1 | apply IsS_l1Cur.set_2 | refine IsS_l1Cur.far ?_ NB0_1503.out _ | refine IsS_l1Cur.far ?_ NB0_1517.out _) | exact HI0.out)); (case side2 => repeat (first | (with_reducible first | exact HB.out | apply below_alloc | apply pw_below_drewN | apply below_drew1 | refine below_set ?_ (IsS_l1Cur.ge HI0.out) | refine below_set ?_ GE1503.out | refine below_set ?_ GE1517.out) | exact HB.out)); (case side3 => repeat (first | exact (Kd.R_reads' HO1523.out).2.2 | (with_reducible refine Kd.C_alloc ?_ _) | (with_reducible refine Kd.C_drewN ?_ _) | (with_reducible refine Kd.C_drew ?_))); (case side4 => exact (Kd.R_reads' HO1523.out).2.1); (case side5 => exact far_slice (IsS_l1Cur.own_ne HI0.out HO1523.out (by decide))); rintro e w75 ⟨rfl, hi, hb, hk⟩; refine ⟨_, rfl, ?_⟩; have n0_ := Aside0.mk (Kd.R_mono (Kd.R_keep (IsS_l1Cur.apart (show IsS_l1Cur w0 _ g s0_0 t1519 t1520 from is_l1Cur_ HI0.out) (rq_ HO_1518001.out) (by decide)) hk (fun _ h => h.2)) (fun _ h => h.1)); have n1_ := Aside0.mk (Kd.R_mono (Kd.R_keep (IsS_l1Cur.apart (show IsS_l1Cur w0 _ g s0_0 t1519 t1520 from is_l1Cur_ HI0.out) (rq_ HO_1518002.out) (by decide)) hk (fun _ h => h.2)) (fun _ h => h.1)); have n2_ := Aside0.mk (Kd.R_mono (Kd.R_keep (IsS_l1Cur.apart (show IsS_l1Cur w0 _ g s0_0 t1519 t1520 from is_l1Cur_ HI0.out) (rq_ HO_1518003.out) (by decide)) hk (fun _ h => h.2)) (fun _ h => h.1)); have n3_ := Aside0.mk (KeepBut.blk hk (g' := gb1503) (o := .cells #[.int .i64 0, .slice none 0 0, .slice none 0 0, .slice none 0 0] 26 (0, 0)) (bq_ BK1503.out) NB1503_0.out (by simp)); have n4_ := Aside0.mk (KeepBut.blk hk (g' := gb1517) (o := .cells #[.int .i64 x1518000_1, u1518001, u1518002, u1518003] 26 (0, 0)) (bq_ BK1517.out) NB1517_0.out (by simp)); have n5_ := Aside0.mk (Kd.R_mono (Kd.R_keep (IsS_l1Cur.apart (show IsS_l1Cur w0 _ g s0_0 t1519 t1520 from is_l1Cur_ HI0.out) (rq_ HO1523.out) (by decide)) hk (fun _ h => h.2)) (fun _ h => h.1)); have n6_ := Aside0.mk (KeepBut.trans (hk_ HK.out) hk (.inl rfl)); have n7_ := Aside0.mk (hb); have n8_ := Aside0.mk (hi); clear HO_1518001; clear HO_1518002; clear HO_1518003; clear BK1503; clear BK1517; clear HO1523; clear HK; clear HB; clear HI0; have HO_1518001 := n0_; have HO_1518002 := n1_; have HO_1518003 := n2_; have BK1503 := n3_; have BK1517 := n4_; have HO1523 := n5_; have HK := n6_; have HB := n7_; have HI0 := n8_; clear n0_ n1_ n2_ n3_ n4_ n5_ n6_ n7_ n8_; (try clear hb); (try clear hb2); (try clear hk); (try clear hi)) | ((with_reducible refine gate_callee (f := 78) rfl ?_); refine goesL_ (some 25) rfl rfl Try.func78 (by kernel_rfl) rfl #[.pointer (some ⟨g, 0, none⟩), .int .i64 5] rfl sm_ ?_; (with_reducible refine (spec_l1Below.calls g s0_0 t1525 t1526 5 t1527 t1528 t1529 w0 _ ?side1 ?side2 A27.out).mono ?_); (case side1 => repeat (first | (with_reducible first | exact HI0.out | apply IsS_l1Cur.alloc | apply IsS_l1Cur.drewN | apply IsS_l1Cur.drew | apply IsS_l1Cur.set_1 | apply IsS_l1Cur.set_2 | refine IsS_l1Cur.far ?_ NB0_1503.out _ | refine IsS_l1Cur.far ?_ NB0_1517.out _) | exact HI0.out)); (case side2 => repeat (first | (with_reducible first | exact HB.out | apply below_alloc | apply pw_below_drewN | apply below_drew1 | refine below_set ?_ (IsS_l1Cur.ge HI0.out) | refine below_set ?_ GE1503.out | refine below_set ?_ GE1517.out) | exact HB.out)); rintro e w76 ⟨rfl, hi, hb, hk⟩; refine ⟨_, rfl, ?_⟩; have n0_ := Aside0.mk (Kd.R_mono (Kd.R_keep (IsS_l1Cur.apart (show IsS_l1Cur w0 _ g s0_0 t1525 t1526 from is_l1Cur_ HI0.out) (rq_ HO_1518001.out) (by decide)) hk (fun _ h => h.2)) (fun _ h => h.1)); have n1_ := Aside0.mk (Kd.R_mono (Kd.R_keep (IsS_l1Cur.apart (show IsS_l1Cur w0 _ g s0_0 t1525 t1526 from is_l1Cur_ HI0.out) (rq_ HO_1518002.out) (by decide)) hk (fun _ h => h.2)) (fun _ h => h.1)); have n2_ := Aside0.mk (Kd.R_mono (Kd.R_keep (IsS_l1Cur.apart (show IsS_l1Cur w0 _ g s0_0 t1525 t1526 from is_l1Cur_ HI0.out) (rq_ HO_1518003.out) (by decide)) hk (fun _ h => h.2)) (fun _ h => h.1)); have n3_ := Aside0.mk (KeepBut.blk hk (g' := gb1503) (o := .cells #[.int .i64 0, .slice none 0 0, .slice none 0 0, .slice none 0 0] 26 (0, 0)) (bq_ BK1503.out) NB1503_0.out (by simp)); have n4_ := Aside0.mk (KeepBut.blk hk (g' := gb1517) (o := .cells #[.int .i64 x1518000_1, u1518001, u1518002, u1518003] 26 (0, 0)) (bq_ BK1517.out) NB1517_0.out (by simp)); have n5_ := Aside0.mk (Kd.R_mono (Kd.R_keep (IsS_l1Cur.apart (show IsS_l1Cur w0 _ g s0_0 t1525 t1526 from is_l1Cur_ HI0.out) (rq_ HO1523.out) (by decide)) hk (fun _ h => h.2)) (fun _ h => h.1)); have n6_ := Aside0.mk (KeepBut.trans (hk_ HK.out) hk (.inl rfl)); have n7_ := Aside0.mk (hb); have n8_ := Aside0.mk (hi); clear HO_1518001; clear HO_1518002; clear HO_1518003; clear BK1503; clear BK1517; clear HO1523; clear HK; clear HB; clear HI0; have HO_1518001 := n0_; have HO_1518002 := n1_; have HO_1518003 := n2_; have BK1503 := n3_; have BK1517 := n4_; have HO1523 := n5_; have HK := n6_; have HB := n7_; have HI0 := n8_; clear n0_ n1_ n2_ n3_ n4_ n5_ n6_ n7_ n8_; (try clear hb); (try clear hb2); (try clear hk); (try clear hi)))
        have n0_ := Aside0.mk (Kd.R_drew HO_1518001.out)
        have n1_ := Aside0.mk (Kd.R_drew HO_1518002.out)
        have n2_ := Aside0.mk (Kd.R_drew HO_1518003.out)
        have n3_ := Aside0.mk (Kd.R_drew HO1523.out)
        have n4_ := Aside0.mk (blk_drew BK1503.out)
        have n5_ := Aside0.mk (blk_drew BK1517.out)
        have n6_ := Aside0.mk (IsS_l1Cur.drew HI0.out)
        have n7_ := Aside0.mk (keep_drew HK.out)
        have n8_ := Aside0.mk (below_drew1 HB.out)
        clear HO_1518001; clear HO_1518002
        clear HO_1518003; clear HO1523
        clear BK1503; clear BK1517
        clear HI0; clear HK
        clear HB
        have HO_1518001 := n0_
        have HO_1518002 := n1_
        have HO_1518003 := n2_
        have HO1523 := n3_
        have BK1503 := n4_
        have BK1517 := n5_
        have HI0 := n6_
        have HK := n7_
        have HB := n8_
        clear n0_ n1_ n2_ n3_ n4_ n5_ n6_ n7_ n8_
        refine start_ (n := 15) (S := fun w' => w'.cell? ⟨gb1517, 0, none⟩ = some (.int .i64 x1518000_1) ∧ w'.cell? ⟨gb1517, 1, none⟩ = some (u1518001) ∧ w'.cell? ⟨gb1517, 2, none⟩ = some (u1518002) ∧ w'.cell? ⟨gb1517, 3, none⟩ = some (u1518003)) (ds := [14]) #[false, false, false, false, false, false, false, false, false, false, false, false, false, false, false] (by kernel_rfl) rfl rfl ⟨(blk_cell BK1517.out 0).trans rfl, (blk_cell BK1517.out 1).trans rfl, (blk_cell BK1517.out 2).trans rfl, (blk_cell BK1517.out 3).trans rfl⟩ (fun hHeld => ?_); refine with_tabW spec_l5DrawRight.tab15 spec_l5DrawRight.bits15 (fun HT_ HW_ => ?_)
        generalize w76.drew = w77 at HO_1518001 HO_1518002 HO_1518003 HO1523 BK1503 BK1517 HI0 HK HB hHeld ⊢
        refine pI_ 1 46 HT_ #[false, true, false, false, false, false, false, false, false, false, false, false, false, false, false] rfl rfl ?_
        refine pI_ 3 48 HT_ #[false, true, false, true, false, false, false, false, false, false, false, false, false, false, false] rfl rfl ?_
        refine pI_ 5 50 HT_ #[false, true, false, true, false, true, false, false, false, false, false, false, false, false, false] rfl rfl ?_
        refine pI_ 6 51 HT_ #[false, true, false, true, false, true, true, false, false, false, false, false, false, false, false] rfl rfl ?_
        refine pI_ 8 53 HT_ #[false, true, false, true, false, true, true, false, true, false, false, false, false, false, false] rfl rfl ?_
        refine take_ (i := 0) (N := some 45) (v := ?_) (a' := ?_) #[true, true, false, true, false, true, true, false, true, false, false, false, false, false, false] rfl rfl (take_ofW HT_.out HW_.out (by kernel_rfl)) (fun _ _ _ h => h) (Or.inl ⟨by rfl, ?_⟩) hHeld ?_ ?_
        rotate_left
        ·
         rintro w' ⟨s0, s1, s2, s3⟩
         go_simp
         with_reducible rfl
        rotate_left; (focus simp only [Act.put, List.setIfInBounds_toArray, List.set_cons_zero, List.set_cons_succ, i64_w, i32_w]; rfl)
        refine take_ (i := 4) (N := some 49) (v := ?_) (a' := ?_) #[true, true, false, true, true, true, true, false, true, false, false, false, false, false, false] rfl rfl (take_ofW HT_.out HW_.out (by kernel_rfl)) (fun _ _ _ h => h) (Or.inl ⟨by rfl, ?_⟩) hHeld ?_ ?_
        rotate_left
        ·
         rintro w' ⟨s0, s1, s2, s3⟩
         go_simp
         with_reducible rfl
        rotate_left; (focus simp only [Act.put, List.setIfInBounds_toArray, List.set_cons_zero, List.set_cons_succ, i64_w, i32_w]; rfl)
        refine one_ (i := 2) (N := some 47) #[true, true, true, true, true, true, true, false, true, false, false, false, false, false, false] rfl rfl (one_of HT_.out (by kernel_rfl)) (by decide) (fun K hK => ?_)
        refine goes_ Try.func78 (by kernel_rfl) rfl #[.pointer (some ⟨g, 0, none⟩), .int .i64 4] (by rfl) rfl rfl sm_ ?_
        with_reducible refine (spec_l1Below.calls g s0_0 t1528 t1529 4 t1553 t1554 t1555 w0 _ ?side1 ?side2 A68.out).mono ?_
        (case side1 => repeat (first | (with_reducible first | exact HI0.out | apply IsS_l1Cur.alloc | apply IsS_l1Cur.drewN | apply IsS_l1Cur.drew | apply IsS_l1Cur.set_1 | apply IsS_l1Cur.set_2 | refine IsS_l1Cur.far ?_ NB0_1503.out _ | refine IsS_l1Cur.far ?_ NB0_1517.out _) | exact HI0.out))
        (case side2 => repeat (first | (with_reducible first | exact HB.out | apply below_alloc | apply pw_below_drewN | apply below_drew1 | refine below_set ?_ (IsS_l1Cur.ge HI0.out) | refine below_set ?_ GE1503.out | refine below_set ?_ GE1517.out) | exact HB.out))
        rintro e w78 ⟨rfl, hi, hb, hk⟩
        refine ⟨_, rfl, ?_⟩
        have n0_ := Aside0.mk (Kd.R_mono (Kd.R_keep (IsS_l1Cur.apart (show IsS_l1Cur w0 _ g s0_0 t1528 t1529 from is_l1Cur_ HI0.out) (rq_ HO_1518001.out) (by decide)) hk (fun _ h => h.2)) (fun _ h => h.1))
        have n1_ := Aside0.mk (Kd.R_mono (Kd.R_keep (IsS_l1Cur.apart (show IsS_l1Cur w0 _ g s0_0 t1528 t1529 from is_l1Cur_ HI0.out) (rq_ HO_1518002.out) (by decide)) hk (fun _ h => h.2)) (fun _ h => h.1))
        have n2_ := Aside0.mk (Kd.R_mono (Kd.R_keep (IsS_l1Cur.apart (show IsS_l1Cur w0 _ g s0_0 t1528 t1529 from is_l1Cur_ HI0.out) (rq_ HO_1518003.out) (by decide)) hk (fun _ h => h.2)) (fun _ h => h.1))
        have n3_ := Aside0.mk (KeepBut.blk hk (g' := gb1503) (o := .cells #[.int .i64 0, .slice none 0 0, .slice none 0 0, .slice none 0 0] 26 (0, 0)) (bq_ BK1503.out) NB1503_0.out (by simp))
        have n4_ := Aside0.mk (KeepBut.blk hk (g' := gb1517) (o := .cells #[.int .i64 x1518000_1, u1518001, u1518002, u1518003] 26 (0, 0)) (bq_ BK1517.out) NB1517_0.out (by simp))
        have n5_ := Aside0.mk (Kd.R_mono (Kd.R_keep (IsS_l1Cur.apart (show IsS_l1Cur w0 _ g s0_0 t1528 t1529 from is_l1Cur_ HI0.out) (rq_ HO1523.out) (by decide)) hk (fun _ h => h.2)) (fun _ h => h.1))
        have n6_ := Aside0.mk (KeepBut.trans (hk_ HK.out) hk (.inl rfl))
        have n7_ := Aside0.mk (hb)
        have n8_ := Aside0.mk (hi)
        clear HO_1518001; clear HO_1518002
        clear HO_1518003; clear BK1503
        clear BK1517; clear HO1523
        clear HK; clear HB
        clear HI0
        have HO_1518001 := n0_
        have HO_1518002 := n1_
        have HO_1518003 := n2_
        have BK1503 := n3_
        have BK1517 := n4_
        have HO1523 := n5_
        have HK := n6_
        have HB := n7_
        have HI0 := n8_
        clear n0_ n1_ n2_ n3_ n4_ n5_ n6_ n7_ n8_
        (try clear hb)
        (try clear hb2)
        (try clear hk)
        (try clear hi)
        refine hK.out _ _ ⟨(blk_cell BK1517.out 0).trans rfl, (blk_cell BK1517.out 1).trans rfl, (blk_cell BK1517.out 2).trans rfl, (blk_cell BK1517.out 3).trans rfl⟩ (fun hHeld => ?_)
        clear hK K
        refine norm_ (a' := ?_) ?_ ?_
        rotate_left
        ·
         show Act.put _ (some 47) _ = _
         simp only [Act.put, List.setIfInBounds_toArray, List.set_cons_zero, List.set_cons_succ, i64_w, i32_w]
         rfl
        refine one_ (i := 7) (N := some 52) #[true, true, true, true, true, true, true, true, true, false, false, false, false, false, false] rfl rfl (one_of HT_.out (by kernel_rfl)) (by decide) (fun K hK => ?_)
        refine goes_ Try.func78 (by kernel_rfl) rfl #[.pointer (some ⟨g, 0, none⟩), .int .i64 (wrap64 (1 + t1504))] (by rfl) rfl rfl sm_ ?_
        with_reducible refine (spec_l1Below.calls g s0_0 t1554 t1555 (wrap64 (1 + t1504)) t1556 t1557 t1558 w0 _ ?side1 ?side2 A69.out).mono ?_
        (case side1 => repeat (first | (with_reducible first | exact HI0.out | apply IsS_l1Cur.alloc | apply IsS_l1Cur.drewN | apply IsS_l1Cur.drew | apply IsS_l1Cur.set_1 | apply IsS_l1Cur.set_2 | refine IsS_l1Cur.far ?_ NB0_1503.out _ | refine IsS_l1Cur.far ?_ NB0_1517.out _) | exact HI0.out))
        (case side2 => repeat (first | (with_reducible first | exact HB.out | apply below_alloc | apply pw_below_drewN | apply below_drew1 | refine below_set ?_ (IsS_l1Cur.ge HI0.out) | refine below_set ?_ GE1503.out | refine below_set ?_ GE1517.out) | exact HB.out))
        rintro e w79 ⟨rfl, hi, hb, hk⟩
        refine ⟨_, rfl, ?_⟩
        have n0_ := Aside0.mk (Kd.R_mono (Kd.R_keep (IsS_l1Cur.apart (show IsS_l1Cur w0 _ g s0_0 t1554 t1555 from is_l1Cur_ HI0.out) (rq_ HO_1518001.out) (by decide)) hk (fun _ h => h.2)) (fun _ h => h.1))
        have n1_ := Aside0.mk (Kd.R_mono (Kd.R_keep (IsS_l1Cur.apart (show IsS_l1Cur w0 _ g s0_0 t1554 t1555 from is_l1Cur_ HI0.out) (rq_ HO_1518002.out) (by decide)) hk (fun _ h => h.2)) (fun _ h => h.1))
        have n2_ := Aside0.mk (Kd.R_mono (Kd.R_keep (IsS_l1Cur.apart (show IsS_l1Cur w0 _ g s0_0 t1554 t1555 from is_l1Cur_ HI0.out) (rq_ HO_1518003.out) (by decide)) hk (fun _ h => h.2)) (fun _ h => h.1))
        have n3_ := Aside0.mk (KeepBut.blk hk (g' := gb1503) (o := .cells #[.int .i64 0, .slice none 0 0, .slice none 0 0, .slice none 0 0] 26 (0, 0)) (bq_ BK1503.out) NB1503_0.out (by simp))
        have n4_ := Aside0.mk (KeepBut.blk hk (g' := gb1517) (o := .cells #[.int .i64 x1518000_1, u1518001, u1518002, u1518003] 26 (0, 0)) (bq_ BK1517.out) NB1517_0.out (by simp))
        have n5_ := Aside0.mk (Kd.R_mono (Kd.R_keep (IsS_l1Cur.apart (show IsS_l1Cur w0 _ g s0_0 t1554 t1555 from is_l1Cur_ HI0.out) (rq_ HO1523.out) (by decide)) hk (fun _ h => h.2)) (fun _ h => h.1))
        have n6_ := Aside0.mk (KeepBut.trans (hk_ HK.out) hk (.inl rfl))
        have n7_ := Aside0.mk (hb)
        have n8_ := Aside0.mk (hi)
        clear HO_1518001; clear HO_1518002
        clear HO_1518003; clear BK1503
        clear BK1517; clear HO1523
        clear HK; clear HB
        clear HI0
        have HO_1518001 := n0_
        have HO_1518002 := n1_
        have HO_1518003 := n2_
        have BK1503 := n3_
        have BK1517 := n4_
        have HO1523 := n5_
        have HK := n6_
        have HB := n7_
        have HI0 := n8_
        clear n0_ n1_ n2_ n3_ n4_ n5_ n6_ n7_ n8_
        (try clear hb)
        (try clear hb2)
        (try clear hk)
        (try clear hi)
        refine hK.out _ _ ⟨(blk_cell BK1517.out 0).trans rfl, (blk_cell BK1517.out 1).trans rfl, (blk_cell BK1517.out 2).trans rfl, (blk_cell BK1517.out 3).trans rfl⟩ (fun hHeld => ?_)
        clear hK K
        refine norm_ (a' := ?_) ?_ ?_
        rotate_left
        ·
         show Act.put _ (some 52) _ = _
         simp only [Act.put, List.setIfInBounds_toArray, List.set_cons_zero, List.set_cons_succ, i64_w, i32_w]
         rfl
        refine one_ (i := 9) (N := some 54) #[true, true, true, true, true, true, true, true, true, true, false, false, false, false, false] rfl rfl (one_of HT_.out (by kernel_rfl)) (by decide) (fun K hK => ?_)
        refine goes_ Try.func78 (by kernel_rfl) rfl #[.pointer (some ⟨g, 0, none⟩), .int .i64 9] (by rfl) rfl rfl sm_ ?_
        with_reducible refine (spec_l1Below.calls g s0_0 t1557 t1558 9 t1559 t1560 t1561 w0 _ ?side1 ?side2 A70.out).mono ?_
        (case side1 => repeat (first | (with_reducible first | exact HI0.out | apply IsS_l1Cur.alloc | apply IsS_l1Cur.drewN | apply IsS_l1Cur.drew | apply IsS_l1Cur.set_1 | apply IsS_l1Cur.set_2 | refine IsS_l1Cur.far ?_ NB0_1503.out _ | refine IsS_l1Cur.far ?_ NB0_1517.out _) | exact HI0.out))
        (case side2 => repeat (first | (with_reducible first | exact HB.out | apply below_alloc | apply pw_below_drewN | apply below_drew1 | refine below_set ?_ (IsS_l1Cur.ge HI0.out) | refine below_set ?_ GE1503.out | refine below_set ?_ GE1517.out) | exact HB.out))
        rintro e w80 ⟨rfl, hi, hb, hk⟩
        refine ⟨_, rfl, ?_⟩
        have n0_ := Aside0.mk (Kd.R_mono (Kd.R_keep (IsS_l1Cur.apart (show IsS_l1Cur w0 _ g s0_0 t1557 t1558 from is_l1Cur_ HI0.out) (rq_ HO_1518001.out) (by decide)) hk (fun _ h => h.2)) (fun _ h => h.1))
        have n1_ := Aside0.mk (Kd.R_mono (Kd.R_keep (IsS_l1Cur.apart (show IsS_l1Cur w0 _ g s0_0 t1557 t1558 from is_l1Cur_ HI0.out) (rq_ HO_1518002.out) (by decide)) hk (fun _ h => h.2)) (fun _ h => h.1))
        have n2_ := Aside0.mk (Kd.R_mono (Kd.R_keep (IsS_l1Cur.apart (show IsS_l1Cur w0 _ g s0_0 t1557 t1558 from is_l1Cur_ HI0.out) (rq_ HO_1518003.out) (by decide)) hk (fun _ h => h.2)) (fun _ h => h.1))
        have n3_ := Aside0.mk (KeepBut.blk hk (g' := gb1503) (o := .cells #[.int .i64 0, .slice none 0 0, .slice none 0 0, .slice none 0 0] 26 (0, 0)) (bq_ BK1503.out) NB1503_0.out (by simp))
        have n4_ := Aside0.mk (KeepBut.blk hk (g' := gb1517) (o := .cells #[.int .i64 x1518000_1, u1518001, u1518002, u1518003] 26 (0, 0)) (bq_ BK1517.out) NB1517_0.out (by simp))
        have n5_ := Aside0.mk (Kd.R_mono (Kd.R_keep (IsS_l1Cur.apart (show IsS_l1Cur w0 _ g s0_0 t1557 t1558 from is_l1Cur_ HI0.out) (rq_ HO1523.out) (by decide)) hk (fun _ h => h.2)) (fun _ h => h.1))
        have n6_ := Aside0.mk (KeepBut.trans (hk_ HK.out) hk (.inl rfl))
        have n7_ := Aside0.mk (hb)
        have n8_ := Aside0.mk (hi)
        clear HO_1518001; clear HO_1518002
        clear HO_1518003; clear BK1503
        clear BK1517; clear HO1523
        clear HK; clear HB
        clear HI0
        have HO_1518001 := n0_
        have HO_1518002 := n1_
        have HO_1518003 := n2_
        have BK1503 := n3_
        have BK1517 := n4_
        have HO1523 := n5_
        have HK := n6_
        have HB := n7_
        have HI0 := n8_
        clear n0_ n1_ n2_ n3_ n4_ n5_ n6_ n7_ n8_
        (try clear hb)
        (try clear hb2)
        (try clear hk)
        (try clear hi)
        obtain ⟨Ao81, co81, eo81⟩ := Kd.R_slice HO_1518001.out
        (first | subst eo81 | (injection eo81 with f1_ f2_ f3_; have f4_ := f1_.symm; have f5_ := f3_.symm; clear f1_ f2_ f3_; subst f4_; subst f5_))
        obtain ⟨Ao82, co82, eo82⟩ := Kd.R_slice HO_1518002.out
        (first | subst eo82 | (injection eo82 with f1_ f2_ f3_; have f4_ := f1_.symm; have f5_ := f3_.symm; clear f1_ f2_ f3_; subst f4_; subst f5_))
        obtain ⟨Ao83, co83, eo83⟩ := Kd.R_slice HO_1518003.out
        (first | subst eo83 | (injection eo83 with f1_ f2_ f3_; have f4_ := f1_.symm; have f5_ := f3_.symm; clear f1_ f2_ f3_; subst f4_; subst f5_))
        refine hK.out _ _ ⟨(blk_cell BK1517.out 0).trans rfl, (blk_cell BK1517.out 1).trans rfl, (blk_cell BK1517.out 2).trans rfl, (blk_cell BK1517.out 3).trans rfl⟩ (fun hHeld => ?_)
        clear hK K
        refine norm_ (a' := ?_) ?_ ?_
        rotate_left
        ·
         show Act.put _ (some 54) _ = _
         simp only [Act.put, List.setIfInBounds_toArray, List.set_cons_zero, List.set_cons_succ, i64_w, i32_w]
         rfl
        refine one_ (i := 10) (N := some 55) #[true, true, true, true, true, true, true, true, true, true, true, false, false, false, false] rfl rfl (one_of HT_.out (by kernel_rfl)) (by decide) (fun K hK => ?_)
        refine goes_ Try.func15 (by kernel_rfl) rfl #[.agg #[.int .i64 x1518000_1, .slice Ao81 x1518001_1.length co81, .slice Ao82 x1518002_1.length co82, .slice Ao83 x1518003_1.length co83], .int .i64 t1553, .int .i64 x1518000_1, .int .i64 t1556, .int .i64 t1559] (by rfl) rfl rfl sm_ ?_
        with_reducible refine (spec_GroupMark.calls kj14 x1518000_1 _ _ x1518001_1 _ _ x1518002_1 _ _ x1518003_1 t1553 x1518000_1 t1556 t1559 t1562 t1563 t1566 t1569 t1572 _ ?side1 ?side2 ?side3 ?side4 ?side5 ?side6 A71.out).mono ?_
        (case side1 => repeat (first | exact (Kd.R_reads' HO_1518001.out).2.2 | (with_reducible refine Kd.C_alloc ?_ _) | (with_reducible refine Kd.C_drewN ?_ _) | (with_reducible refine Kd.C_drew ?_)))
        (case side2 => exact (Kd.R_reads' HO_1518001.out).2.1)
        (case side3 => repeat (first | exact (Kd.R_reads' HO_1518002.out).2.2 | (with_reducible refine Kd.C_alloc ?_ _) | (with_reducible refine Kd.C_drewN ?_ _) | (with_reducible refine Kd.C_drew ?_)))
        (case side4 => exact (Kd.R_reads' HO_1518002.out).2.1)
        (case side5 => repeat (first | exact (Kd.R_reads' HO_1518003.out).2.2 | (with_reducible refine Kd.C_alloc ?_ _) | (with_reducible refine Kd.C_drewN ?_ _) | (with_reducible refine Kd.C_drew ?_)))
        (case side6 => exact (Kd.R_reads' HO_1518003.out).2.1)
        rintro e w84 ⟨v1564, v1567, v1570, rfl, ho0, ho1, ho2, hb⟩
        refine ⟨_, rfl, ?_⟩
        have n0_ := Aside0.mk (Kd.R_mono (Kd.R_told (Kd.R_told (Kd.R_told (Kd.R_old (rq_ HO_1518001.out) hb) (Kd.R_base ho0)) (Kd.R_base ho1)) (Kd.R_base ho2)) (fun _ h_ => h_.1))
        have n1_ := Aside0.mk (Kd.R_mono (Kd.R_told (Kd.R_told (Kd.R_told (Kd.R_old (rq_ HO_1518002.out) hb) (Kd.R_base ho0)) (Kd.R_base ho1)) (Kd.R_base ho2)) (fun _ h_ => h_.1))
        have n2_ := Aside0.mk (Kd.R_mono (Kd.R_told (Kd.R_told (Kd.R_told (Kd.R_old (rq_ HO_1518003.out) hb) (Kd.R_base ho0)) (Kd.R_base ho1)) (Kd.R_base ho2)) (fun _ h_ => h_.1))
        have n3_ := Aside0.mk (Kd.R_mono (Kd.R_told (Kd.R_told (Kd.R_told (Kd.R_old (rq_ HO1523.out) hb) (Kd.R_base ho0)) (Kd.R_base ho1)) (Kd.R_base ho2)) (fun _ h_ => h_.1))
        have n4_ := Aside0.mk (Kd.R_lower (Kd.R_new' (Kd.R_new' (Kd.R_new' (Kd.R_new' ho0 (Kd.R_lt (rq_ HO_1518001.out))) (Kd.R_lt (rq_ HO_1518002.out))) (Kd.R_lt (rq_ HO_1518003.out))) (Kd.R_lt (rq_ HO1523.out))) (keep_size (w := w) (g := g) (row := none) (hk_ HK.out)))
        have n5_ := Aside0.mk (Kd.R_lower (Kd.R_new' (Kd.R_new' (Kd.R_new' (Kd.R_new' ho1 (Kd.R_lt (rq_ HO_1518001.out))) (Kd.R_lt (rq_ HO_1518002.out))) (Kd.R_lt (rq_ HO_1518003.out))) (Kd.R_lt (rq_ HO1523.out))) (keep_size (w := w) (g := g) (row := none) (hk_ HK.out)))
        have n6_ := Aside0.mk (Kd.R_lower (Kd.R_new' (Kd.R_new' (Kd.R_new' (Kd.R_new' ho2 (Kd.R_lt (rq_ HO_1518001.out))) (Kd.R_lt (rq_ HO_1518002.out))) (Kd.R_lt (rq_ HO_1518003.out))) (Kd.R_lt (rq_ HO1523.out))) (keep_size (w := w) (g := g) (row := none) (hk_ HK.out)))
        have n7_ := Aside0.mk (bb_ BK1503.out hb)
        have n8_ := Aside0.mk (bb_ BK1517.out hb)
        have n9_ := Aside0.mk (IsS_l1Cur.below (is_l1Cur_ HI0.out) hb)
        have n10_ := Aside0.mk (KeepBut.trans (hk_ HK.out) (KeepBut.of_below hb g none) (.inl rfl))
        have n11_ := Aside0.mk (below_step (hi_ HB.out) hb)
        clear HO_1518001; clear HO_1518002
        clear HO_1518003; clear HO1523
        clear BK1503; clear BK1517
        clear HI0; clear HK
        clear HB
        have HO_1518001 := n0_
        have HO_1518002 := n1_
        have HO_1518003 := n2_
        have HO1523 := n3_
        have HO1565 := n4_
        have HO1568 := n5_
        have HO1571 := n6_
        have BK1503 := n7_
        have BK1517 := n8_
        have HI0 := n9_
        have HK := n10_
        have HB := n11_
        clear n0_ n1_ n2_ n3_ n4_ n5_ n6_ n7_ n8_ n9_ n10_ n11_
        (try clear hb)
        (try clear hb2)
        (try clear hk)
        (try clear hi)
        (try clear ho0)
        (try clear ho1)
        (try clear ho2)
        obtain ⟨Ao86, co86, eo86⟩ := Kd.R_slice HO1565.out
        (first | subst eo86 | (injection eo86 with f1_ f2_ f3_; have f4_ := f1_.symm; have f5_ := f3_.symm; clear f1_ f2_ f3_; subst f4_; subst f5_))
        obtain ⟨Ao88, co88, eo88⟩ := Kd.R_slice HO1568.out
        (first | subst eo88 | (injection eo88 with f1_ f2_ f3_; have f4_ := f1_.symm; have f5_ := f3_.symm; clear f1_ f2_ f3_; subst f4_; subst f5_))
        obtain ⟨Ao90, co90, eo90⟩ := Kd.R_slice HO1571.out
        (first | subst eo90 | (injection eo90 with f1_ f2_ f3_; have f4_ := f1_.symm; have f5_ := f3_.symm; clear f1_ f2_ f3_; subst f4_; subst f5_))
        refine hK.out _ _ ⟨(blk_cell BK1517.out 0).trans rfl, (blk_cell BK1517.out 1).trans rfl, (blk_cell BK1517.out 2).trans rfl, (blk_cell BK1517.out 3).trans rfl⟩ (fun hHeld => ?_)
        clear hK K
        refine norm_ (a' := ?_) ?_ ?_
        rotate_left
        ·
         show Act.put _ (some 55) _ = _
         simp only [Act.put, List.setIfInBounds_toArray, List.set_cons_zero, List.set_cons_succ, i64_w, i32_w]
         rfl
        refine pI_ 11 44 HT_ #[true, true, true, true, true, true, true, true, true, true, true, true, false, false, false] rfl rfl ?_
        refine pI_ 12 56 HT_ #[true, true, true, true, true, true, true, true, true, true, true, true, true, false, false] rfl rfl ?_
        refine pI_ 13 57 HT_ #[true, true, true, true, true, true, true, true, true, true, true, true, true, true, false] rfl rfl ?_
        refine last_ (i := 14) (N := none) #[true, true, true, true, true, true, true, true, true, true, true, true, true, true, true] rfl rfl (one_of HT_.out (by kernel_rfl)) (by decide) (fun K hK => ?_)
        have hs85 : w84.cell? ⟨gb1517, 0, none⟩ = some (.int .i64 x1518000_1) := (blk_cell BK1517.out 0).trans rfl
        have hfs85 := blk_frozen BK1517.out 0
        have hns85_0 := NB1503_1517.out
        have hms85_0 := NB1517_1503.out
        have hs87 : w84.cell? ⟨gb1517, 1, none⟩ = some (.slice Ao81 x1518001_1.length co81) := (blk_cell BK1517.out 1).trans rfl
        have hfs87 := blk_frozen BK1517.out 1
        have hns87_0 := NB1503_1517.out
        have hms87_0 := NB1517_1503.out
        have hs89 : w84.cell? ⟨gb1517, 2, none⟩ = some (.slice Ao82 x1518002_1.length co82) := (blk_cell BK1517.out 2).trans rfl
        have hfs89 := blk_frozen BK1517.out 2
        have hns89_0 := NB1503_1517.out
        have hms89_0 := NB1517_1503.out
        have hs91 : w84.cell? ⟨gb1517, 3, none⟩ = some (.slice Ao83 x1518003_1.length co83) := (blk_cell BK1517.out 3).trans rfl
        have hfs91 := blk_frozen BK1517.out 3
        have hns91_0 := NB1503_1517.out
        have hms91_0 := NB1517_1503.out
        refine skip_ (w1 := ?_) (by rfl) rfl ?_ ?_
        rotate_left; (focus go_simp; rfl)
        refine hK.out _ _ ?_
        clear hK K
        refine done_ (done_of HT_.out (by kernel_rfl)) ?_
        try go_wp2
        go_roundg kj14
        case measure => have := HK1.out; have := HJ14.out; omega
        case rel => exact ⟨(wrap64 (x6_1 + t1524)), (wrap64 (x7_1 + 1)), (t1560), (t1561), (t1562), (t1563), (t1566), (t1569), (.slice Ao86 t1563.length co86), (.slice Ao88 t1566.length co88), (.slice Ao90 t1569.length co90), (by first | rfl | (simp; done) | (simp [*]; done)), (by first | rfl | (simp; done) | (simp [*]; done)), H', ⟨by have := HK1.out; have := HJ14.out; omega⟩, ⟨by (with_reducible repeat (first | apply Kd.R_alloc | apply Kd.R_drewN | apply Kd.R_drew)); exact Kd.R_mono (Kd.R_far (p := ⟨gb1517, 3, none⟩) (Kd.R_far (p := ⟨gb1517, 2, none⟩) (Kd.R_far (p := ⟨gb1517, 1, none⟩) (Kd.R_far (p := ⟨gb1517, 0, none⟩) (Kd.R_types HO1565.out BK1517.out (by decide)) (fun _ hk => hk.2) (.int .i64 t1562)) (fun _ hk => hk.2) (.slice Ao86 t1563.length co86)) (fun _ hk => hk.2) (.slice Ao88 t1566.length co88)) (fun _ hk => hk.2) (.slice Ao90 t1569.length co90)) (fun _ hk => ⟨hk.1.1.1.1.1.1, hk.1.1.1.1.1.2⟩)⟩, ⟨by (with_reducible repeat (first | apply Kd.R_alloc | apply Kd.R_drewN | apply Kd.R_drew)); exact Kd.R_mono (Kd.R_far (p := ⟨gb1517, 3, none⟩) (Kd.R_far (p := ⟨gb1517, 2, none⟩) (Kd.R_far (p := ⟨gb1517, 1, none⟩) (Kd.R_far (p := ⟨gb1517, 0, none⟩) (Kd.R_types HO1568.out BK1517.out (by decide)) (fun _ hk => hk.2) (.int .i64 t1562)) (fun _ hk => hk.2) (.slice Ao86 t1563.length co86)) (fun _ hk => hk.2) (.slice Ao88 t1566.length co88)) (fun _ hk => hk.2) (.slice Ao90 t1569.length co90)) (fun _ hk => ⟨hk.1.1.1.1.1.1, hk.1.1.1.1.1.2⟩)⟩, ⟨by (with_reducible repeat (first | apply Kd.R_alloc | apply Kd.R_drewN | apply Kd.R_drew)); exact Kd.R_mono (Kd.R_far (p := ⟨gb1517, 3, none⟩) (Kd.R_far (p := ⟨gb1517, 2, none⟩) (Kd.R_far (p := ⟨gb1517, 1, none⟩) (Kd.R_far (p := ⟨gb1517, 0, none⟩) (Kd.R_types HO1571.out BK1517.out (by decide)) (fun _ hk => hk.2) (.int .i64 t1562)) (fun _ hk => hk.2) (.slice Ao86 t1563.length co86)) (fun _ hk => hk.2) (.slice Ao88 t1566.length co88)) (fun _ hk => hk.2) (.slice Ao90 t1569.length co90)) (fun _ hk => ⟨hk.1.1.1.1.1.1, hk.1.1.1.1.1.2⟩)⟩, ⟨by (with_reducible repeat (first | refine blk_drewN ?_ _ | refine blk_drew ?_ | refine blk_alloc ?_ _)); refine blk_far ?_ NB1503_1517.out _; (with_reducible repeat (first | refine blk_drewN ?_ _ | refine blk_drew ?_ | refine blk_alloc ?_ _)); refine blk_far ?_ NB1503_1517.out _; (with_reducible repeat (first | refine blk_drewN ?_ _ | refine blk_drew ?_ | refine blk_alloc ?_ _)); refine blk_far ?_ NB1503_1517.out _; (with_reducible repeat (first | refine blk_drewN ?_ _ | refine blk_drew ?_ | refine blk_alloc ?_ _)); refine blk_far ?_ NB1503_1517.out _; (with_reducible repeat (first | refine blk_drewN ?_ _ | refine blk_drew ?_ | refine blk_alloc ?_ _)); exact BK1503.out⟩, ⟨by (with_reducible repeat (first | refine blk_drewN ?_ _ | refine blk_drew ?_ | refine blk_alloc ?_ _)); refine blk_put (cs := #[.int .i64 t1562, .slice Ao86 t1563.length co86, .slice Ao88 t1566.length co88, .slice Ao83 x1518003_1.length co83]) ?_ 3 _ rfl; (with_reducible repeat (first | refine blk_drewN ?_ _ | refine blk_drew ?_ | refine blk_alloc ?_ _)); refine blk_put (cs := #[.int .i64 t1562, .slice Ao86 t1563.length co86, .slice Ao82 x1518002_1.length co82, .slice Ao83 x1518003_1.length co83]) ?_ 2 _ rfl; (with_reducible repeat (first | refine blk_drewN ?_ _ | refine blk_drew ?_ | refine blk_alloc ?_ _)); refine blk_put (cs := #[.int .i64 t1562, .slice Ao81 x1518001_1.length co81, .slice Ao82 x1518002_1.length co82, .slice Ao83 x1518003_1.length co83]) ?_ 1 _ rfl; (with_reducible repeat (first | refine blk_drewN ?_ _ | refine blk_drew ?_ | refine blk_alloc ?_ _)); refine blk_put (cs := #[.int .i64 x1518000_1, .slice Ao81 x1518001_1.length co81, .slice Ao82 x1518002_1.length co82, .slice Ao83 x1518003_1.length co83]) ?_ 0 _ rfl; (with_reducible repeat (first | refine blk_drewN ?_ _ | refine blk_drew ?_ | refine blk_alloc ?_ _)); exact BK1517.out⟩, ⟨is_l1Cur_ HI0.out⟩, ⟨by repeat (first | (with_reducible first | exact HK.out | apply KeepBut.set_ | apply keep_drewN | apply keep_drew | apply keep_alloc | refine keep_far ?_ GW1503.out _ | refine keep_far ?_ GW1517.out _) | exact HK.out)⟩, ⟨by repeat (first | (with_reducible first | exact HB.out | apply below_alloc | apply pw_below_drewN | apply below_drew1 | refine below_set ?_ (IsS_l1Cur.ge HI0.out) | refine below_set ?_ GE1503.out | refine below_set ?_ GE1517.out) | exact HB.out)⟩⟩
       ·
        rw [if_neg c67] at H
        have c67b0 : (t1527 == 2) = false := beq_eq_false_iff_ne.mpr c67
        have c67b1 : (t1527 != 2) = true := bne_iff_ne.mpr c67
        replace H := Option.bind_eq_some_iff.mp H
        obtain ⟨⟨t1573, t1574, t1575⟩, A920, H⟩ := H
        replace H : ((spec_GroupJoin.f kj14 x1518000_1 x1518001_1 x1518002_1 x1518003_1 t1573 (wrap64 (x6_1 + t1524))).bind fun bt1576 => (spec_l5DrawRight.l0 kj14 (wrap64 (1 + t1504)) (wrap64 (x6_1 + t1524)) (wrap64 (x7_1 + 1)) s0_0 t1574 t1575 bt1576.1 bt1576.2.1 bt1576.2.2.1 bt1576.2.2.2)) = some (r1, r2, r3, r4, r5, r6, r7) := H
        have A92 := Aside0.mk A920
        clear A920
        replace H := Option.bind_eq_some_iff.mp H
        obtain ⟨⟨t1576, t1577, t1580, t1583⟩, A930, H⟩ := H
        replace H : (spec_l5DrawRight.l0 kj14 (wrap64 (1 + t1504)) (wrap64 (x6_1 + t1524)) (wrap64 (x7_1 + 1)) s0_0 t1574 t1575 t1576 t1577 t1580 t1583) = some (r1, r2, r3, r4, r5, r6, r7) := H
        have A93 := Aside0.mk A930
        clear A930
        have H' := Aside0.mk H
        clear H
        try go_wp2_with (first | ((with_reducible refine gate_dst (N := 21) rfl ?_); refine Kd.R_lit (Kd.int .i64) _ 3 ?hg (N := 21) ?hd (xs := ([0, 10, 60] : List Int)) (inner := [.int .i64 0, .int .i64 10, .int .i64 60]) (ok := fun _ => True) (okp := fun _ => True) ?hr ?hp (fun _ hk => hk) trivial (Below.refl _ _) (Nat.le_refl _) (by simp) ?_; (case hd => rfl); (case hg => rfl); (case hr => first | (go_simp; done) | (go_simp; rfl)); (case hp => exact (Reps.one (show Kd.M (Kd.int .i64) _ _ _ 0 [.int .i64 0] from rfl) (Reps.one (show Kd.M (Kd.int .i64) _ _ _ 10 [.int .i64 10] from rfl) (Reps.one (show Kd.M (Kd.int .i64) _ _ _ 60 [.int .i64 60] from rfl) (Reps.none _ _))))); intro v1522 w94 ho95 hb hg_ hnew_; clear hg_ hnew_; (first | rw [← Ny1521.out] at ho95 | (simp only [Int.reduceToNat] at ho95; rw [← Ny1521.out] at ho95)); have n0_ := Aside0.mk (Kd.R_elder' (rq_ HO_1518001.out) (Kd.R_base ho95) hb); have n1_ := Aside0.mk (Kd.R_elder' (rq_ HO_1518002.out) (Kd.R_base ho95) hb); have n2_ := Aside0.mk (Kd.R_elder' (rq_ HO_1518003.out) (Kd.R_base ho95) hb); have n3_ := Aside0.mk (Kd.R_lower (Kd.R_new' (Kd.R_new' (Kd.R_new' ho95 (Kd.R_lt (rq_ HO_1518001.out))) (Kd.R_lt (rq_ HO_1518002.out))) (Kd.R_lt (rq_ HO_1518003.out))) (keep_size (w := w) (g := g) (row := none) (hk_ HK.out))); have n4_ := Aside0.mk (bb_ BK1503.out hb); have n5_ := Aside0.mk (bb_ BK1517.out hb); have n6_ := Aside0.mk (IsS_l1Cur.below (is_l1Cur_ HI0.out) hb); have n7_ := Aside0.mk (KeepBut.trans (hk_ HK.out) (KeepBut.of_below hb g none) (.inl rfl)); have n8_ := Aside0.mk (below_step (hi_ HB.out) hb); clear HO_1518001; clear HO_1518002; clear HO_1518003; clear BK1503; clear BK1517; clear HI0; clear HK; clear HB; have HO_1518001 := n0_; have HO_1518002 := n1_; have HO_1518003 := n2_; have HO1523 := n3_; have BK1503 := n4_; have BK1517 := n5_; have HI0 := n6_; have HK := n7_; have HB := n8_; clear n0_ n1_ n2_ n3_ n4_ n5_ n6_ n7_ n8_; clear hb ho95; obtain ⟨Ao96, co96, eo96⟩ := Kd.R_slice HO1523.out; subst eo96) | ((with_reducible refine gate_callee (f := 104) rfl ?_); refine goesL_ (some 22) rfl rfl Try.func104 (by kernel_rfl) rfl #[.pointer (some ⟨g, 0, none⟩), .slice Ao96 y1521.length co96] rfl sm_ ?_; (with_reducible refine (spec_l1PickInt.calls g s0_0 t1519 t1520 _ _ y1521 t1524 t1525 t1526 w0 _ ?side1 ?side2 ?side3 ?side4 ?side5 A26.out).mono ?_); (case side1 => repeat (first | (with_reducible first | exact HI0.out | apply IsS_l1Cur.alloc | apply IsS_l1Cur.drewN | apply IsS_l1Cur.drew | apply IsS_l1Cur.set_1 | apply IsS_l1Cur.set_2 | refine IsS_l1Cur.far ?_ NB0_1503.out _ | refine IsS_l1Cur.far ?_ NB0_1517.out _) | exact HI0.out)); (case side2 => repeat (first | (with_reducible first | exact HB.out | apply below_alloc | apply pw_below_drewN | apply below_drew1 | refine below_set ?_ (IsS_l1Cur.ge HI0.out) | refine below_set ?_ GE1503.out | refine below_set ?_ GE1517.out) | exact HB.out)); (case side3 => repeat (first | exact (Kd.R_reads' HO1523.out).2.2 | (with_reducible refine Kd.C_alloc ?_ _) | (with_reducible refine Kd.C_drewN ?_ _) | (with_reducible refine Kd.C_drew ?_))); (case side4 => exact (Kd.R_reads' HO1523.out).2.1); (case side5 => exact far_slice (IsS_l1Cur.own_ne HI0.out HO1523.out (by decide))); rintro e w97 ⟨rfl, hi, hb, hk⟩; refine ⟨_, rfl, ?_⟩; have n0_ := Aside0.mk (Kd.R_mono (Kd.R_keep (IsS_l1Cur.apart (show IsS_l1Cur w0 _ g s0_0 t1519 t1520 from is_l1Cur_ HI0.out) (rq_ HO_1518001.out) (by decide)) hk (fun _ h => h.2)) (fun _ h => h.1)); have n1_ := Aside0.mk (Kd.R_mono (Kd.R_keep (IsS_l1Cur.apart (show IsS_l1Cur w0 _ g s0_0 t1519 t1520 from is_l1Cur_ HI0.out) (rq_ HO_1518002.out) (by decide)) hk (fun _ h => h.2)) (fun _ h => h.1)); have n2_ := Aside0.mk (Kd.R_mono (Kd.R_keep (IsS_l1Cur.apart (show IsS_l1Cur w0 _ g s0_0 t1519 t1520 from is_l1Cur_ HI0.out) (rq_ HO_1518003.out) (by decide)) hk (fun _ h => h.2)) (fun _ h => h.1)); have n3_ := Aside0.mk (KeepBut.blk hk (g' := gb1503) (o := .cells #[.int .i64 0, .slice none 0 0, .slice none 0 0, .slice none 0 0] 26 (0, 0)) (bq_ BK1503.out) NB1503_0.out (by simp)); have n4_ := Aside0.mk (KeepBut.blk hk (g' := gb1517) (o := .cells #[.int .i64 x1518000_1, u1518001, u1518002, u1518003] 26 (0, 0)) (bq_ BK1517.out) NB1517_0.out (by simp)); have n5_ := Aside0.mk (Kd.R_mono (Kd.R_keep (IsS_l1Cur.apart (show IsS_l1Cur w0 _ g s0_0 t1519 t1520 from is_l1Cur_ HI0.out) (rq_ HO1523.out) (by decide)) hk (fun _ h => h.2)) (fun _ h => h.1)); have n6_ := Aside0.mk (KeepBut.trans (hk_ HK.out) hk (.inl rfl)); have n7_ := Aside0.mk (hb); have n8_ := Aside0.mk (hi); clear HO_1518001; clear HO_1518002; clear HO_1518003; clear BK1503; clear BK1517; clear HO1523; clear HK; clear HB; clear HI0; have HO_1518001 := n0_; have HO_1518002 := n1_; have HO_1518003 := n2_; have BK1503 := n3_; have BK1517 := n4_; have HO1523 := n5_; have HK := n6_; have HB := n7_; have HI0 := n8_; clear n0_ n1_ n2_ n3_ n4_ n5_ n6_ n7_ n8_; (try clear hb); (try clear hb2); (try clear hk); (try clear hi)) | ((with_reducible refine gate_callee (f := 78) rfl ?_); refine goesL_ (some 25) rfl rfl Try.func78 (by kernel_rfl) rfl #[.pointer (some ⟨g, 0, none⟩), .int .i64 5] rfl sm_ ?_; (with_reducible refine (spec_l1Below.calls g s0_0 t1525 t1526 5 t1527 t1528 t1529 w0 _ ?side1 ?side2 A27.out).mono ?_); (case side1 => repeat (first | (with_reducible first | exact HI0.out | apply IsS_l1Cur.alloc | apply IsS_l1Cur.drewN | apply IsS_l1Cur.drew | apply IsS_l1Cur.set_1 | apply IsS_l1Cur.set_2 | refine IsS_l1Cur.far ?_ NB0_1503.out _ | refine IsS_l1Cur.far ?_ NB0_1517.out _) | exact HI0.out)); (case side2 => repeat (first | (with_reducible first | exact HB.out | apply below_alloc | apply pw_below_drewN | apply below_drew1 | refine below_set ?_ (IsS_l1Cur.ge HI0.out) | refine below_set ?_ GE1503.out | refine below_set ?_ GE1517.out) | exact HB.out)); rintro e w98 ⟨rfl, hi, hb, hk⟩; refine ⟨_, rfl, ?_⟩; have n0_ := Aside0.mk (Kd.R_mono (Kd.R_keep (IsS_l1Cur.apart (show IsS_l1Cur w0 _ g s0_0 t1525 t1526 from is_l1Cur_ HI0.out) (rq_ HO_1518001.out) (by decide)) hk (fun _ h => h.2)) (fun _ h => h.1)); have n1_ := Aside0.mk (Kd.R_mono (Kd.R_keep (IsS_l1Cur.apart (show IsS_l1Cur w0 _ g s0_0 t1525 t1526 from is_l1Cur_ HI0.out) (rq_ HO_1518002.out) (by decide)) hk (fun _ h => h.2)) (fun _ h => h.1)); have n2_ := Aside0.mk (Kd.R_mono (Kd.R_keep (IsS_l1Cur.apart (show IsS_l1Cur w0 _ g s0_0 t1525 t1526 from is_l1Cur_ HI0.out) (rq_ HO_1518003.out) (by decide)) hk (fun _ h => h.2)) (fun _ h => h.1)); have n3_ := Aside0.mk (KeepBut.blk hk (g' := gb1503) (o := .cells #[.int .i64 0, .slice none 0 0, .slice none 0 0, .slice none 0 0] 26 (0, 0)) (bq_ BK1503.out) NB1503_0.out (by simp)); have n4_ := Aside0.mk (KeepBut.blk hk (g' := gb1517) (o := .cells #[.int .i64 x1518000_1, u1518001, u1518002, u1518003] 26 (0, 0)) (bq_ BK1517.out) NB1517_0.out (by simp)); have n5_ := Aside0.mk (Kd.R_mono (Kd.R_keep (IsS_l1Cur.apart (show IsS_l1Cur w0 _ g s0_0 t1525 t1526 from is_l1Cur_ HI0.out) (rq_ HO1523.out) (by decide)) hk (fun _ h => h.2)) (fun _ h => h.1)); have n6_ := Aside0.mk (KeepBut.trans (hk_ HK.out) hk (.inl rfl)); have n7_ := Aside0.mk (hb); have n8_ := Aside0.mk (hi); clear HO_1518001; clear HO_1518002; clear HO_1518003; clear BK1503; clear BK1517; clear HO1523; clear HK; clear HB; clear HI0; have HO_1518001 := n0_; have HO_1518002 := n1_; have HO_1518003 := n2_; have BK1503 := n3_; have BK1517 := n4_; have HO1523 := n5_; have HK := n6_; have HB := n7_; have HI0 := n8_; clear n0_ n1_ n2_ n3_ n4_ n5_ n6_ n7_ n8_; (try clear hb); (try clear hb2); (try clear hk); (try clear hi)))
        have n0_ := Aside0.mk (Kd.R_drew HO_1518001.out)
        have n1_ := Aside0.mk (Kd.R_drew HO_1518002.out)
        have n2_ := Aside0.mk (Kd.R_drew HO_1518003.out)
        have n3_ := Aside0.mk (Kd.R_drew HO1523.out)
        have n4_ := Aside0.mk (blk_drew BK1503.out)
        have n5_ := Aside0.mk (blk_drew BK1517.out)
        have n6_ := Aside0.mk (IsS_l1Cur.drew HI0.out)
        have n7_ := Aside0.mk (keep_drew HK.out)
        have n8_ := Aside0.mk (below_drew1 HB.out)
        clear HO_1518001; clear HO_1518002
        clear HO_1518003; clear HO1523
        clear BK1503; clear BK1517
        clear HI0; clear HK
        clear HB
        have HO_1518001 := n0_
        have HO_1518002 := n1_
        have HO_1518003 := n2_
        have HO1523 := n3_
        have BK1503 := n4_
        have BK1517 := n5_
        have HI0 := n6_
        have HK := n7_
        have HB := n8_
        clear n0_ n1_ n2_ n3_ n4_ n5_ n6_ n7_ n8_
        refine start_ (n := 6) (S := fun w' => w'.cell? ⟨gb1517, 0, none⟩ = some (.int .i64 x1518000_1) ∧ w'.cell? ⟨gb1517, 1, none⟩ = some (u1518001) ∧ w'.cell? ⟨gb1517, 2, none⟩ = some (u1518002) ∧ w'.cell? ⟨gb1517, 3, none⟩ = some (u1518003)) (ds := [5]) #[false, false, false, false, false, false] (by kernel_rfl) rfl rfl ⟨(blk_cell BK1517.out 0).trans rfl, (blk_cell BK1517.out 1).trans rfl, (blk_cell BK1517.out 2).trans rfl, (blk_cell BK1517.out 3).trans rfl⟩ (fun hHeld => ?_)
        generalize w98.drew = w99 at HO_1518001 HO_1518002 HO_1518003 HO1523 BK1503 BK1517 HI0 HK HB hHeld ⊢
        refine pure_ (i := 1) (N := some 27) (v := ?_) (a' := ?_) #[false, true, false, false, false, false] rfl rfl (by kernel_rfl) (fun _ _ _ h => h) (Or.inl ⟨by rfl, ?_⟩) ?_ ?_; rotate_left; (focus intro w'; go_simp; with_reducible rfl); rotate_left; (focus simp only [Act.put, List.setIfInBounds_toArray, List.set_cons_zero, List.set_cons_succ, i64_w, i32_w]; rfl)
        refine pure_ (i := 3) (N := some 29) (v := ?_) (a' := ?_) #[false, true, false, true, false, false] rfl rfl (by kernel_rfl) (fun _ _ _ h => h) (Or.inl ⟨by rfl, ?_⟩) ?_ ?_; rotate_left; (focus intro w'; go_simp; with_reducible rfl); rotate_left; (focus simp only [Act.put, List.setIfInBounds_toArray, List.set_cons_zero, List.set_cons_succ, i64_w, i32_w]; rfl)
        refine take_ (i := 0) (N := some 26) (v := ?_) (a' := ?_) #[true, true, false, true, false, false] rfl rfl (by kernel_rfl) (fun _ _ _ h => h) (Or.inl ⟨by rfl, ?_⟩) hHeld ?_ ?_
        rotate_left
        ·
         rintro w' ⟨s0, s1, s2, s3⟩
         go_simp
         with_reducible rfl
        rotate_left; (focus simp only [Act.put, List.setIfInBounds_toArray, List.set_cons_zero, List.set_cons_succ, i64_w, i32_w]; rfl)
        refine one_ (i := 2) (N := some 28) #[true, true, true, true, false, false] rfl rfl (by kernel_rfl) (by decide) (fun K hK => ?_)
        refine goes_ Try.func78 (by kernel_rfl) rfl #[.pointer (some ⟨g, 0, none⟩), .int .i64 4] (by rfl) rfl rfl sm_ ?_
        with_reducible refine (spec_l1Below.calls g s0_0 t1528 t1529 4 t1573 t1574 t1575 w0 _ ?side1 ?side2 A92.out).mono ?_
        (case side1 => repeat (first | (with_reducible first | exact HI0.out | apply IsS_l1Cur.alloc | apply IsS_l1Cur.drewN | apply IsS_l1Cur.drew | apply IsS_l1Cur.set_1 | apply IsS_l1Cur.set_2 | refine IsS_l1Cur.far ?_ NB0_1503.out _ | refine IsS_l1Cur.far ?_ NB0_1517.out _) | exact HI0.out))
        (case side2 => repeat (first | (with_reducible first | exact HB.out | apply below_alloc | apply pw_below_drewN | apply below_drew1 | refine below_set ?_ (IsS_l1Cur.ge HI0.out) | refine below_set ?_ GE1503.out | refine below_set ?_ GE1517.out) | exact HB.out))
        rintro e w100 ⟨rfl, hi, hb, hk⟩
        refine ⟨_, rfl, ?_⟩
        have n0_ := Aside0.mk (Kd.R_mono (Kd.R_keep (IsS_l1Cur.apart (show IsS_l1Cur w0 _ g s0_0 t1528 t1529 from is_l1Cur_ HI0.out) (rq_ HO_1518001.out) (by decide)) hk (fun _ h => h.2)) (fun _ h => h.1))
        have n1_ := Aside0.mk (Kd.R_mono (Kd.R_keep (IsS_l1Cur.apart (show IsS_l1Cur w0 _ g s0_0 t1528 t1529 from is_l1Cur_ HI0.out) (rq_ HO_1518002.out) (by decide)) hk (fun _ h => h.2)) (fun _ h => h.1))
        have n2_ := Aside0.mk (Kd.R_mono (Kd.R_keep (IsS_l1Cur.apart (show IsS_l1Cur w0 _ g s0_0 t1528 t1529 from is_l1Cur_ HI0.out) (rq_ HO_1518003.out) (by decide)) hk (fun _ h => h.2)) (fun _ h => h.1))
        have n3_ := Aside0.mk (KeepBut.blk hk (g' := gb1503) (o := .cells #[.int .i64 0, .slice none 0 0, .slice none 0 0, .slice none 0 0] 26 (0, 0)) (bq_ BK1503.out) NB1503_0.out (by simp))
        have n4_ := Aside0.mk (KeepBut.blk hk (g' := gb1517) (o := .cells #[.int .i64 x1518000_1, u1518001, u1518002, u1518003] 26 (0, 0)) (bq_ BK1517.out) NB1517_0.out (by simp))
        have n5_ := Aside0.mk (Kd.R_mono (Kd.R_keep (IsS_l1Cur.apart (show IsS_l1Cur w0 _ g s0_0 t1528 t1529 from is_l1Cur_ HI0.out) (rq_ HO1523.out) (by decide)) hk (fun _ h => h.2)) (fun _ h => h.1))
        have n6_ := Aside0.mk (KeepBut.trans (hk_ HK.out) hk (.inl rfl))
        have n7_ := Aside0.mk (hb)
        have n8_ := Aside0.mk (hi)
        clear HO_1518001; clear HO_1518002
        clear HO_1518003; clear BK1503
        clear BK1517; clear HO1523
        clear HK; clear HB
        clear HI0
        have HO_1518001 := n0_
        have HO_1518002 := n1_
        have HO_1518003 := n2_
        have BK1503 := n3_
        have BK1517 := n4_
        have HO1523 := n5_
        have HK := n6_
        have HB := n7_
        have HI0 := n8_
        clear n0_ n1_ n2_ n3_ n4_ n5_ n6_ n7_ n8_
        (try clear hb)
        (try clear hb2)
        (try clear hk)
        (try clear hi)
        obtain ⟨Ao101, co101, eo101⟩ := Kd.R_slice HO_1518001.out
        (first | subst eo101 | (injection eo101 with f1_ f2_ f3_; have f4_ := f1_.symm; have f5_ := f3_.symm; clear f1_ f2_ f3_; subst f4_; subst f5_))
        obtain ⟨Ao102, co102, eo102⟩ := Kd.R_slice HO_1518002.out
        (first | subst eo102 | (injection eo102 with f1_ f2_ f3_; have f4_ := f1_.symm; have f5_ := f3_.symm; clear f1_ f2_ f3_; subst f4_; subst f5_))
        obtain ⟨Ao103, co103, eo103⟩ := Kd.R_slice HO_1518003.out
        (first | subst eo103 | (injection eo103 with f1_ f2_ f3_; have f4_ := f1_.symm; have f5_ := f3_.symm; clear f1_ f2_ f3_; subst f4_; subst f5_))
        refine hK.out _ _ ⟨(blk_cell BK1517.out 0).trans rfl, (blk_cell BK1517.out 1).trans rfl, (blk_cell BK1517.out 2).trans rfl, (blk_cell BK1517.out 3).trans rfl⟩ (fun hHeld => ?_)
        clear hK K
        refine norm_ (a' := ?_) ?_ ?_
        rotate_left
        ·
         show Act.put _ (some 28) _ = _
         simp only [Act.put, List.setIfInBounds_toArray, List.set_cons_zero, List.set_cons_succ, i64_w, i32_w]
         rfl
        refine one_ (i := 4) (N := some 30) #[true, true, true, true, true, false] rfl rfl (by kernel_rfl) (by decide) (fun K hK => ?_)
        refine goes_ Try.func171 (by kernel_rfl) rfl #[.agg #[.int .i64 x1518000_1, .slice Ao101 x1518001_1.length co101, .slice Ao102 x1518002_1.length co102, .slice Ao103 x1518003_1.length co103], .int .i64 t1573, .int .i64 (wrap64 (x6_1 + t1524))] (by rfl) rfl rfl sm_ ?_
        with_reducible refine (spec_GroupJoin.calls kj14 x1518000_1 _ _ x1518001_1 _ _ x1518002_1 _ _ x1518003_1 t1573 (wrap64 (x6_1 + t1524)) t1576 t1577 t1580 t1583 _ ?side1 ?side2 ?side3 ?side4 ?side5 ?side6 A93.out).mono ?_
        (case side1 => repeat (first | exact (Kd.R_reads' HO_1518001.out).2.2 | (with_reducible refine Kd.C_alloc ?_ _) | (with_reducible refine Kd.C_drewN ?_ _) | (with_reducible refine Kd.C_drew ?_)))
        (case side2 => exact (Kd.R_reads' HO_1518001.out).2.1)
        (case side3 => repeat (first | exact (Kd.R_reads' HO_1518002.out).2.2 | (with_reducible refine Kd.C_alloc ?_ _) | (with_reducible refine Kd.C_drewN ?_ _) | (with_reducible refine Kd.C_drew ?_)))
        (case side4 => exact (Kd.R_reads' HO_1518002.out).2.1)
        (case side5 => repeat (first | exact (Kd.R_reads' HO_1518003.out).2.2 | (with_reducible refine Kd.C_alloc ?_ _) | (with_reducible refine Kd.C_drewN ?_ _) | (with_reducible refine Kd.C_drew ?_)))
        (case side6 => exact (Kd.R_reads' HO_1518003.out).2.1)
        rintro e w104 ⟨v1578, v1581, v1584, rfl, ho0, ho1, ho2, hb⟩
        refine ⟨_, rfl, ?_⟩
        have n0_ := Aside0.mk (Kd.R_mono (Kd.R_told (Kd.R_told (Kd.R_told (Kd.R_old (rq_ HO_1518001.out) hb) (Kd.R_base ho0)) (Kd.R_base ho1)) (Kd.R_base ho2)) (fun _ h_ => h_.1))
        have n1_ := Aside0.mk (Kd.R_mono (Kd.R_told (Kd.R_told (Kd.R_told (Kd.R_old (rq_ HO_1518002.out) hb) (Kd.R_base ho0)) (Kd.R_base ho1)) (Kd.R_base ho2)) (fun _ h_ => h_.1))
        have n2_ := Aside0.mk (Kd.R_mono (Kd.R_told (Kd.R_told (Kd.R_told (Kd.R_old (rq_ HO_1518003.out) hb) (Kd.R_base ho0)) (Kd.R_base ho1)) (Kd.R_base ho2)) (fun _ h_ => h_.1))
        have n3_ := Aside0.mk (Kd.R_mono (Kd.R_told (Kd.R_told (Kd.R_told (Kd.R_old (rq_ HO1523.out) hb) (Kd.R_base ho0)) (Kd.R_base ho1)) (Kd.R_base ho2)) (fun _ h_ => h_.1))
        have n4_ := Aside0.mk (Kd.R_lower (Kd.R_new' (Kd.R_new' (Kd.R_new' (Kd.R_new' ho0 (Kd.R_lt (rq_ HO_1518001.out))) (Kd.R_lt (rq_ HO_1518002.out))) (Kd.R_lt (rq_ HO_1518003.out))) (Kd.R_lt (rq_ HO1523.out))) (keep_size (w := w) (g := g) (row := none) (hk_ HK.out)))
        have n5_ := Aside0.mk (Kd.R_lower (Kd.R_new' (Kd.R_new' (Kd.R_new' (Kd.R_new' ho1 (Kd.R_lt (rq_ HO_1518001.out))) (Kd.R_lt (rq_ HO_1518002.out))) (Kd.R_lt (rq_ HO_1518003.out))) (Kd.R_lt (rq_ HO1523.out))) (keep_size (w := w) (g := g) (row := none) (hk_ HK.out)))
        have n6_ := Aside0.mk (Kd.R_lower (Kd.R_new' (Kd.R_new' (Kd.R_new' (Kd.R_new' ho2 (Kd.R_lt (rq_ HO_1518001.out))) (Kd.R_lt (rq_ HO_1518002.out))) (Kd.R_lt (rq_ HO_1518003.out))) (Kd.R_lt (rq_ HO1523.out))) (keep_size (w := w) (g := g) (row := none) (hk_ HK.out)))
        have n7_ := Aside0.mk (bb_ BK1503.out hb)
        have n8_ := Aside0.mk (bb_ BK1517.out hb)
        have n9_ := Aside0.mk (IsS_l1Cur.below (is_l1Cur_ HI0.out) hb)
        have n10_ := Aside0.mk (KeepBut.trans (hk_ HK.out) (KeepBut.of_below hb g none) (.inl rfl))
        have n11_ := Aside0.mk (below_step (hi_ HB.out) hb)
        clear HO_1518001; clear HO_1518002
        clear HO_1518003; clear HO1523
        clear BK1503; clear BK1517
        clear HI0; clear HK
        clear HB
        have HO_1518001 := n0_
        have HO_1518002 := n1_
        have HO_1518003 := n2_
        have HO1523 := n3_
        have HO1579 := n4_
        have HO1582 := n5_
        have HO1585 := n6_
        have BK1503 := n7_
        have BK1517 := n8_
        have HI0 := n9_
        have HK := n10_
        have HB := n11_
        clear n0_ n1_ n2_ n3_ n4_ n5_ n6_ n7_ n8_ n9_ n10_ n11_
        (try clear hb)
        (try clear hb2)
        (try clear hk)
        (try clear hi)
        (try clear ho0)
        (try clear ho1)
        (try clear ho2)
        obtain ⟨Ao106, co106, eo106⟩ := Kd.R_slice HO1579.out
        (first | subst eo106 | (injection eo106 with f1_ f2_ f3_; have f4_ := f1_.symm; have f5_ := f3_.symm; clear f1_ f2_ f3_; subst f4_; subst f5_))
        obtain ⟨Ao108, co108, eo108⟩ := Kd.R_slice HO1582.out
        (first | subst eo108 | (injection eo108 with f1_ f2_ f3_; have f4_ := f1_.symm; have f5_ := f3_.symm; clear f1_ f2_ f3_; subst f4_; subst f5_))
        obtain ⟨Ao110, co110, eo110⟩ := Kd.R_slice HO1585.out
        (first | subst eo110 | (injection eo110 with f1_ f2_ f3_; have f4_ := f1_.symm; have f5_ := f3_.symm; clear f1_ f2_ f3_; subst f4_; subst f5_))
        refine hK.out _ _ ⟨(blk_cell BK1517.out 0).trans rfl, (blk_cell BK1517.out 1).trans rfl, (blk_cell BK1517.out 2).trans rfl, (blk_cell BK1517.out 3).trans rfl⟩ (fun hHeld => ?_)
        clear hK K
        refine norm_ (a' := ?_) ?_ ?_
        rotate_left
        ·
         show Act.put _ (some 30) _ = _
         simp only [Act.put, List.setIfInBounds_toArray, List.set_cons_zero, List.set_cons_succ, i64_w, i32_w]
         rfl
        refine last_ (i := 5) (N := none) #[true, true, true, true, true, true] rfl rfl (by kernel_rfl) (by decide) (fun K hK => ?_)
        have hs105 : w104.cell? ⟨gb1517, 0, none⟩ = some (.int .i64 x1518000_1) := (blk_cell BK1517.out 0).trans rfl
        have hfs105 := blk_frozen BK1517.out 0
        have hns105_0 := NB1503_1517.out
        have hms105_0 := NB1517_1503.out
        have hs107 : w104.cell? ⟨gb1517, 1, none⟩ = some (.slice Ao101 x1518001_1.length co101) := (blk_cell BK1517.out 1).trans rfl
        have hfs107 := blk_frozen BK1517.out 1
        have hns107_0 := NB1503_1517.out
        have hms107_0 := NB1517_1503.out
        have hs109 : w104.cell? ⟨gb1517, 2, none⟩ = some (.slice Ao102 x1518002_1.length co102) := (blk_cell BK1517.out 2).trans rfl
        have hfs109 := blk_frozen BK1517.out 2
        have hns109_0 := NB1503_1517.out
        have hms109_0 := NB1517_1503.out
        have hs111 : w104.cell? ⟨gb1517, 3, none⟩ = some (.slice Ao103 x1518003_1.length co103) := (blk_cell BK1517.out 3).trans rfl
        have hfs111 := blk_frozen BK1517.out 3
        have hns111_0 := NB1503_1517.out
        have hms111_0 := NB1517_1503.out
        refine skip_ (w1 := ?_) (by rfl) rfl ?_ ?_
        rotate_left; (focus go_simp; rfl)
        refine hK.out _ _ ?_
        clear hK K
        refine done_ (by kernel_rfl) ?_
        try go_wp2
        go_roundg kj14
        case measure => have := HK1.out; have := HJ14.out; omega
        case rel => exact ⟨(wrap64 (x6_1 + t1524)), (wrap64 (x7_1 + 1)), (t1574), (t1575), (t1576), (t1577), (t1580), (t1583), (.slice Ao106 t1577.length co106), (.slice Ao108 t1580.length co108), (.slice Ao110 t1583.length co110), (by first | rfl | (simp; done) | (simp [*]; done)), (by first | rfl | (simp; done) | (simp [*]; done)), H', ⟨by have := HK1.out; have := HJ14.out; omega⟩, ⟨by (with_reducible repeat (first | apply Kd.R_alloc | apply Kd.R_drewN | apply Kd.R_drew)); exact Kd.R_mono (Kd.R_far (p := ⟨gb1517, 3, none⟩) (Kd.R_far (p := ⟨gb1517, 2, none⟩) (Kd.R_far (p := ⟨gb1517, 1, none⟩) (Kd.R_far (p := ⟨gb1517, 0, none⟩) (Kd.R_types HO1579.out BK1517.out (by decide)) (fun _ hk => hk.2) (.int .i64 t1576)) (fun _ hk => hk.2) (.slice Ao106 t1577.length co106)) (fun _ hk => hk.2) (.slice Ao108 t1580.length co108)) (fun _ hk => hk.2) (.slice Ao110 t1583.length co110)) (fun _ hk => ⟨hk.1.1.1.1.1.1, hk.1.1.1.1.1.2⟩)⟩, ⟨by (with_reducible repeat (first | apply Kd.R_alloc | apply Kd.R_drewN | apply Kd.R_drew)); exact Kd.R_mono (Kd.R_far (p := ⟨gb1517, 3, none⟩) (Kd.R_far (p := ⟨gb1517, 2, none⟩) (Kd.R_far (p := ⟨gb1517, 1, none⟩) (Kd.R_far (p := ⟨gb1517, 0, none⟩) (Kd.R_types HO1582.out BK1517.out (by decide)) (fun _ hk => hk.2) (.int .i64 t1576)) (fun _ hk => hk.2) (.slice Ao106 t1577.length co106)) (fun _ hk => hk.2) (.slice Ao108 t1580.length co108)) (fun _ hk => hk.2) (.slice Ao110 t1583.length co110)) (fun _ hk => ⟨hk.1.1.1.1.1.1, hk.1.1.1.1.1.2⟩)⟩, ⟨by (with_reducible repeat (first | apply Kd.R_alloc | apply Kd.R_drewN | apply Kd.R_drew)); exact Kd.R_mono (Kd.R_far (p := ⟨gb1517, 3, none⟩) (Kd.R_far (p := ⟨gb1517, 2, none⟩) (Kd.R_far (p := ⟨gb1517, 1, none⟩) (Kd.R_far (p := ⟨gb1517, 0, none⟩) (Kd.R_types HO1585.out BK1517.out (by decide)) (fun _ hk => hk.2) (.int .i64 t1576)) (fun _ hk => hk.2) (.slice Ao106 t1577.length co106)) (fun _ hk => hk.2) (.slice Ao108 t1580.length co108)) (fun _ hk => hk.2) (.slice Ao110 t1583.length co110)) (fun _ hk => ⟨hk.1.1.1.1.1.1, hk.1.1.1.1.1.2⟩)⟩, ⟨by (with_reducible repeat (first | refine blk_drewN ?_ _ | refine blk_drew ?_ | refine blk_alloc ?_ _)); refine blk_far ?_ NB1503_1517.out _; (with_reducible repeat (first | refine blk_drewN ?_ _ | refine blk_drew ?_ | refine blk_alloc ?_ _)); refine blk_far ?_ NB1503_1517.out _; (with_reducible repeat (first | refine blk_drewN ?_ _ | refine blk_drew ?_ | refine blk_alloc ?_ _)); refine blk_far ?_ NB1503_1517.out _; (with_reducible repeat (first | refine blk_drewN ?_ _ | refine blk_drew ?_ | refine blk_alloc ?_ _)); refine blk_far ?_ NB1503_1517.out _; (with_reducible repeat (first | refine blk_drewN ?_ _ | refine blk_drew ?_ | refine blk_alloc ?_ _)); exact BK1503.out⟩, ⟨by (with_reducible repeat (first | refine blk_drewN ?_ _ | refine blk_drew ?_ | refine blk_alloc ?_ _)); refine blk_put (cs := #[.int .i64 t1576, .slice Ao106 t1577.length co106, .slice Ao108 t1580.length co108, .slice Ao103 x1518003_1.length co103]) ?_ 3 _ rfl; (with_reducible repeat (first | refine blk_drewN ?_ _ | refine blk_drew ?_ | refine blk_alloc ?_ _)); refine blk_put (cs := #[.int .i64 t1576, .slice Ao106 t1577.length co106, .slice Ao102 x1518002_1.length co102, .slice Ao103 x1518003_1.length co103]) ?_ 2 _ rfl; (with_reducible repeat (first | refine blk_drewN ?_ _ | refine blk_drew ?_ | refine blk_alloc ?_ _)); refine blk_put (cs := #[.int .i64 t1576, .slice Ao101 x1518001_1.length co101, .slice Ao102 x1518002_1.length co102, .slice Ao103 x1518003_1.length co103]) ?_ 1 _ rfl; (with_reducible repeat (first | refine blk_drewN ?_ _ | refine blk_drew ?_ | refine blk_alloc ?_ _)); refine blk_put (cs := #[.int .i64 x1518000_1, .slice Ao101 x1518001_1.length co101, .slice Ao102 x1518002_1.length co102, .slice Ao103 x1518003_1.length co103]) ?_ 0 _ rfl; (with_reducible repeat (first | refine blk_drewN ?_ _ | refine blk_drew ?_ | refine blk_alloc ?_ _)); exact BK1517.out⟩, ⟨is_l1Cur_ HI0.out⟩, ⟨by repeat (first | (with_reducible first | exact HK.out | apply KeepBut.set_ | apply keep_drewN | apply keep_drew | apply keep_alloc | refine keep_far ?_ GW1503.out _ | refine keep_far ?_ GW1517.out _) | exact HK.out)⟩, ⟨by repeat (first | (with_reducible first | exact HB.out | apply below_alloc | apply pw_below_drewN | apply below_drew1 | refine below_set ?_ (IsS_l1Cur.ge HI0.out) | refine below_set ?_ GE1503.out | refine below_set ?_ GE1517.out) | exact HB.out)⟩⟩
end Go.Proofs.Ytiknkolclcdajaa.Q
