/- Made by a program of ours out of the print of the loaded functions: for each of some functions a plain function, and the walk that shows that a call comes to what it says. No condition but those of each theorem. -/
import Derived.Test.YtiknkolclcdajaaZFnCmdBytes0
import Derived.Test.YtiknkolclcdajaaZFnCmdBytesa
import Derived.Test.YtiknkolclcdajaaZFnCmdBytesb
import Derived.Test.YtiknkolclcdajaaZFnCmdBytesc
import Derived.Test.YtiknkolclcdajaaZFnCmdBytesd
namespace Go.Proofs.Ytiknkolclcdajaa.Q
open Go.RowKit Go.Proofs.YtiknkolclcdajaaW.PrintWords Go.Proofs.YtiknkolclcdajaaW.PrintLast Go.Proofs.YtiknkolclcdajaaW.PrintMore
attribute [local go_sem] max2_int min2_int max_two min_two max_three min_three max_four min_four   -- for this text's walks alone
set_option linter.unusedVariables false
set_option linter.unusedSimpArgs false
theorem qe0_ {P : Prop} (h : P := by repeat (first | (with_reducible first | exact HK.out | apply Kept.alloc | apply Kept.drewN | apply Kept.drew | refine Kept.setCell ?_ (.inl (.inr rfl)) _) | exact HK.out)) : P := h
theorem qe1_ {P : Prop} (h : P := by first | exact HK.out.1 | exact (show Kept w _ (fun k_ => (P1_ k_) ∨ k_ = g) from by repeat (first | (with_reducible first | exact HK.out | apply Kept.alloc | apply Kept.drewN | apply Kept.drew | refine Kept.setCell ?_ (.inl (.inr rfl)) _) | exact HK.out)).1) : P := h
theorem qe2_ {P : Prop} (h : P := by repeat (first | (with_reducible first | exact HB.out | apply below_alloc | apply pw_below_drewN | apply below_drew1 | refine below_set ?_ GE291.out) | exact HB.out)) : P := h
theorem qe3_ {P : Prop} (h : P := by repeat (first | (with_reducible exact HR378.out) | (with_reducible refine Kd.C_alloc ?_ _) | (with_reducible refine Kd.C_drewN ?_ _) | (with_reducible refine Kd.C_drew ?_) | exact HR378.out)) : P := h
theorem qe4_ {P : Prop} (h : P := by repeat (first | (with_reducible exact HR394.out) | (with_reducible refine Kd.C_alloc ?_ _) | (with_reducible refine Kd.C_drewN ?_ _) | (with_reducible refine Kd.C_drew ?_) | exact HR394.out)) : P := h
theorem qe5_ {P : Prop} (h : P := by (try simp only [List.map_toArray, List.map_cons, List.map_nil]); first | done | rfl | (simp only [List.length_drop, List.length_take]; rfl)) : P := h
theorem qe6_ {P : Prop} (h : P := by repeat (first | (with_reducible first | exact HB.out | apply below_alloc | apply pw_below_drewN | apply below_drew1 | refine below_set ?_ (IsS_l1Cur.ge HI440.out)) | exact HB.out)) : P := h
theorem qe7_ {P : Prop} (h : P := by repeat (first | (with_reducible first | exact HB.out | apply below_alloc | apply pw_below_drewN | apply below_drew1) | exact HB.out)) : P := h
theorem qe8_ {P : Prop} (h : P := by repeat (first | (with_reducible first | exact HB.out | apply below_alloc | apply pw_below_drewN | apply below_drew1 | refine below_set ?_ GE563.out | refine below_set ?_ GE564.out | refine below_set ?_ GE575.out) | exact HB.out)) : P := h
theorem qe9_ {P : Prop} (h : P := by (with_reducible repeat (first | apply Kd.R_alloc | apply Kd.R_drewN | apply Kd.R_drew)); exact HO295.out) : P := h
theorem qe10_ {P : Prop} (h : P := by (with_reducible repeat (first | apply Kd.R_alloc | apply Kd.R_drewN | apply Kd.R_drew)); exact HO456.out) : P := h
theorem qe11_ {P : Prop} (h : P := by repeat (first | (with_reducible first | exact HB.out | apply below_alloc | apply pw_below_drewN | apply below_drew1 | refine below_set ?_ GE563.out | refine below_set ?_ GE564.out) | exact HB.out)) : P := h
theorem qe12_ {P : Prop} (h : P := by repeat (first | (with_reducible first | exact HI440.out | apply IsS_l1Cur.alloc | apply IsS_l1Cur.drewN | apply IsS_l1Cur.drew | apply IsS_l1Cur.set_1 | apply IsS_l1Cur.set_2) | exact HI440.out)) : P := h
theorem qe13_ {P : Prop} (h : P := by first | rfl | (simp [errW_none, errW_some] <;> rfl) | (simp [*, errW_none, errW_some] <;> rfl)) : P := h
theorem qe14_ {P : Prop} (h : P := by repeat (first | (with_reducible first | exact HB.out | apply below_alloc | apply pw_below_drewN | apply below_drew1 | refine below_set ?_ (IsS_l1Cur.ge HI0.out)) | exact HB.out)) : P := h
theorem qe15_ {P : Prop} (h : P := by repeat (first | (with_reducible first | exact HB.out | apply below_alloc | apply pw_below_drewN | apply below_drew1 | refine below_set ?_ GE563.out) | exact HB.out)) : P := h
theorem qe16_ {P : Prop} (h : P := by (with_reducible repeat (first | apply Kd.R_alloc | apply Kd.R_drewN | apply Kd.R_drew)); exact HO298.out) : P := h
theorem qe17_ {P : Prop} (h : P := by simp only [putAll, Act.put, List.setIfInBounds_toArray, List.set_cons_zero, List.set_cons_succ]) : P := h
theorem qe18_ {P : Prop} (h : P := by repeat (first | exact HB.out | apply pw_below_drewN | apply below_drew1)) : P := h
theorem qe19_ {P : Prop} (h : P := by repeat (first | exact BW.out | apply pw_below_drewN | apply below_drew1)) : P := h

/-! ### spec_CmdOf: function 66 -/
def spec_CmdOf.j0 : Nat → Bool → List Int → Int → Bool → Int → Int → Int → Int → Int → Int → ByteArray → ByteArray → Option (Int × Int × Int × Int × Int × Int × ByteArray × ByteArray × Int × Bool)
  | 0, _, _, _, _, _, _, _, _, _, _, _, _ => none
  | k + 1, x24, x565000, x565001, x565002, x576000, x576001, x576002, x576003, x576004, x576005, x576006, x576007 => if x24 = true then (some (0, 0, 0, 0, 0, 0, (⟨#[]⟩ : ByteArray), (⟨#[]⟩ : ByteArray), 0, false)) else (some (x576000, x576001, x576002, x576003, x576004, x576005, x576006, x576007, x565001, true))
def spec_CmdOf.f (k : Nat) (l0 : List Int) (a1 : Int) : Option (Int × Int × Int × Int × Int × Int × ByteArray × ByteArray × Int × Bool) := (spec_l7Cmd.f k l0 a1 true).bind fun bt565 => (if bt565.2.2.2.2.2.2.2.2.2 = true then ((spec_CmdOk.f k bt565.1 bt565.2.1 bt565.2.2.1 bt565.2.2.2.1 bt565.2.2.2.2.1 bt565.2.2.2.2.2.1 bt565.2.2.2.2.2.2.1 bt565.2.2.2.2.2.2.2.1).bind fun t576 => (spec_CmdOf.j0 k (!t576) l0 bt565.2.2.2.2.2.2.2.2.1 bt565.2.2.2.2.2.2.2.2.2 bt565.1 bt565.2.1 bt565.2.2.1 bt565.2.2.2.1 bt565.2.2.2.2.1 bt565.2.2.2.2.2.1 bt565.2.2.2.2.2.2.1 bt565.2.2.2.2.2.2.2.1)) else (spec_CmdOf.j0 k true l0 bt565.2.2.2.2.2.2.2.2.1 bt565.2.2.2.2.2.2.2.2.2 bt565.1 bt565.2.1 bt565.2.2.1 bt565.2.2.2.1 bt565.2.2.2.2.1 bt565.2.2.2.2.2.1 bt565.2.2.2.2.2.2.1 bt565.2.2.2.2.2.2.2.1))
theorem spec_CmdOf.mono_l : ∀ k, (∀ y0 y1 y2 y3 y4 y5 y6 y7 y8 y9 y10 y11, LeO (spec_CmdOf.j0 k y0 y1 y2 y3 y4 y5 y6 y7 y8 y9 y10 y11) (spec_CmdOf.j0 (k + 1) y0 y1 y2 y3 y4 y5 y6 y7 y8 y9 y10 y11))
  | 0 => fun _ _ _ _ _ _ _ _ _ _ _ _ r h => by simp [spec_CmdOf.j0] at h
  | k + 1 => by
    have ih0 := spec_CmdOf.mono_l k
    · intro y0 y1 y2 y3 y4 y5 y6 y7 y8 y9 y10 y11
      unfold spec_CmdOf.j0
      repeat' first
      | (with_reducible exact ih0 _ _ _ _ _ _ _ _ _ _ _ _)
      | (with_reducible exact spec_CmdOk.mono _ _ _ _ _ _ _ _ _)
      | (with_reducible exact spec_l7Cmd.mono _ _ _ _)
      | (with_reducible exact LeO.refl _)
      | (with_reducible exact LeO.none _)
      | (with_reducible refine LeO.ite ?_ ?_)
      | (with_reducible refine LeO.bind ?_ (fun _ => ?_))
      | exact ih0 _ _ _ _ _ _ _ _ _ _ _ _
      | exact spec_CmdOk.mono _ _ _ _ _ _ _ _ _
      | exact spec_l7Cmd.mono _ _ _ _
      | exact LeO.none _
      | refine LeO.ite ?_ ?_
      | refine LeO.bind ?_ (fun _ => ?_)
theorem spec_CmdOf.mono : ∀ a0 a1 k, LeO (spec_CmdOf.f k a0 a1) (spec_CmdOf.f (k + 1) a0 a1) := by
  intro a0 a1 k
  have ih0 := spec_CmdOf.mono_l k
  unfold spec_CmdOf.f
  repeat' first
      | (with_reducible exact ih0 _ _ _ _ _ _ _ _ _ _ _ _)
      | (with_reducible exact spec_CmdOk.mono _ _ _ _ _ _ _ _ _)
      | (with_reducible exact spec_l7Cmd.mono _ _ _ _)
      | (with_reducible exact LeO.refl _)
      | (with_reducible exact LeO.none _)
      | (with_reducible refine LeO.ite ?_ ?_)
      | (with_reducible refine LeO.bind ?_ (fun _ => ?_))
      | exact ih0 _ _ _ _ _ _ _ _ _ _ _ _
      | exact spec_CmdOk.mono _ _ _ _ _ _ _ _ _
      | exact spec_l7Cmd.mono _ _ _ _
      | exact LeO.none _
      | refine LeO.ite ?_ ?_
      | refine LeO.bind ?_ (fun _ => ?_)
def spec_CmdOf.T5 : Bool × List (List Nat × List Nat) := (true, [([], []), ([], []), ([1], [1]), ([2], [2]), ([3], [3]), ([0, 0], [0]), ([4, 5, 0, 1, 2, 3, 4, 5], [4]), ([6, 0, 1, 2, 3, 4, 5, 6], [])])
def spec_CmdOf.B5 : List Nat := [0, 0, 2, 6, 14, 1, 63, 127]
theorem spec_CmdOf.tab5 : rtab .any (opsOf Try.f66 5) = spec_CmdOf.T5 := by kernel_rfl
theorem spec_CmdOf.bits5 : waitsOk spec_CmdOf.T5.2 spec_CmdOf.B5 = true := by kernel_rfl
set_option maxHeartbeats 8000000 in
set_option maxRecDepth 100000 in
theorem spec_CmdOf.calls (k : Nat) (A0 : Option Addr) (c0 : Nat) (l0 : List Int) (a1 : Int) (r1 : Int) (r2 : Int) (r3 : Int) (r4 : Int) (r5 : Int) (r6 : Int) (r7 : ByteArray) (r8 : ByteArray) (r9 : Int) (r10 : Bool) (w : World) (hr0 : Kd.C (Kd.int .u8) w A0 l0.length l0) (hc0 : l0.length ≤ c0) (h : spec_CmdOf.f k l0 a1 = some (r1, r2, r3, r4, r5, r6, r7, r8, r9, r10)) :
    Calls Try.prog 66 #[.slice A0 l0.length c0, .int .i64 a1] w fun e w' => e = .returned (.tuple #[.agg #[.int .i64 r1, .int .i64 r2, .int .i64 r3, .int .i64 r4, .int .i64 r5, .int .i64 r6, .string r7, .string r8], .int .i64 r9, .bool r10]) ∧ Below w.heap.size w w' := by
  have hu95 := Try.underlying95
  have hu165 := Try.underlying165
  have HR0 := Aside0.mk hr0
  have HC0 := Aside0.mk hc0
  clear hr0 hc0
  have HB := Aside0.mk (Below.refl w.heap.size w)
  have H : ((spec_l7Cmd.f k l0 a1 true).bind fun bt565 => (if bt565.2.2.2.2.2.2.2.2.2 = true then ((spec_CmdOk.f k bt565.1 bt565.2.1 bt565.2.2.1 bt565.2.2.2.1 bt565.2.2.2.2.1 bt565.2.2.2.2.2.1 bt565.2.2.2.2.2.2.1 bt565.2.2.2.2.2.2.2.1).bind fun t576 => (spec_CmdOf.j0 k (!t576) l0 bt565.2.2.2.2.2.2.2.2.1 bt565.2.2.2.2.2.2.2.2.2 bt565.1 bt565.2.1 bt565.2.2.1 bt565.2.2.2.1 bt565.2.2.2.2.1 bt565.2.2.2.2.2.1 bt565.2.2.2.2.2.2.1 bt565.2.2.2.2.2.2.2.1)) else (spec_CmdOf.j0 k true l0 bt565.2.2.2.2.2.2.2.2.1 bt565.2.2.2.2.2.2.2.2.2 bt565.1 bt565.2.1 bt565.2.2.1 bt565.2.2.2.1 bt565.2.2.2.2.1 bt565.2.2.2.2.2.1 bt565.2.2.2.2.2.2.1 bt565.2.2.2.2.2.2.2.1))) = some (r1, r2, r3, r4, r5, r6, r7, r8, r9, r10) := h
  clear h
  replace H := Option.bind_eq_some_iff.mp H
  obtain ⟨⟨t565, t566, t567, t568, t569, t570, t571, t572, t573, t574⟩, A30, H⟩ := H
  replace H : (if t574 = true then ((spec_CmdOk.f k t565 t566 t567 t568 t569 t570 t571 t572).bind fun t576 => (spec_CmdOf.j0 k (!t576) l0 t573 t574 t565 t566 t567 t568 t569 t570 t571 t572)) else (spec_CmdOf.j0 k true l0 t573 t574 t565 t566 t567 t568 t569 t570 t571 t572)) = some (r1, r2, r3, r4, r5, r6, r7, r8, r9, r10) := H
  have A3 := Aside0.mk A30
  clear A30
  have HC4 := Aside0.mk H
  clear H
  go_enter Try.func66, Try.ntmps66
  go_upto_region 3 with (first | ((with_reducible refine gate_dst (N := 4) rfl ?_); refine box_event ?hg (N := 4) ?hd (cs := #[.int .i64 0, .int .i64 0, .int .i64 0, .int .i64 0, .int .i64 0, .int .i64 0, .string (⟨#[]⟩ : ByteArray), .string (⟨#[]⟩ : ByteArray)]) (t := 95) ?hr ?_; (case hd => rfl); (case hg => rfl); (case hr => first | (go_simp; done) | (go_simp; rfl)); intro gb563 hg w5 hbox hb; have n0_ := Aside0.mk (below_step (qe7_) hb); have n1_ := Aside0.mk (hbox); have n2_ := Aside0.mk ((by rw [hg]; exact (below_size (qe7_)) : w.heap.size ≤ gb563)); have n3_ := Aside0.mk ((by rw [hg]; exact (below_size (qe7_)) : w.heap.size ≤ gb563)); clear HB; have HB := n0_; have BK563 := n1_; have GW563 := n2_; have GE563 := n3_; clear n0_ n1_ n2_ n3_; clear hb hbox hg) | ((with_reducible refine gate_dst (N := 12) rfl ?_); refine box_event ?hg (N := 12) ?hd (cs := #[.slice A0 l0.length c0, .int .i64 a1, .bool true]) (t := 165) ?hr ?_; (case hd => rfl); (case hg => rfl); (case hr => first | (go_simp; done) | (go_simp; rfl)); intro gb564 hg w6 hbox hb; have n0_ := Aside0.mk (blk_below (g := gb563) (o := .cells #[.int .i64 0, .int .i64 0, .int .i64 0, .int .i64 0, .int .i64 0, .int .i64 0, .string (⟨#[]⟩ : ByteArray), .string (⟨#[]⟩ : ByteArray)] 95 (0, 0)) (bq_ BK563.out) hb); have n1_ := Aside0.mk (below_step (qe15_) hb); have n2_ := Aside0.mk (hbox); have n3_ := Aside0.mk ((by rw [hg]; exact (below_size (qe15_)) : w.heap.size ≤ gb564)); have n4_ := Aside0.mk ((by rw [hg]; exact (below_size (qe15_)) : w.heap.size ≤ gb564)); have n5_ := Aside0.mk ((by rw [hg]; exact Nat.ne_of_lt (blk_lt (g := gb563) (o := .cells #[.int .i64 0, .int .i64 0, .int .i64 0, .int .i64 0, .int .i64 0, .int .i64 0, .string (⟨#[]⟩ : ByteArray), .string (⟨#[]⟩ : ByteArray)] 95 (0, 0)) (bq_ BK563.out)) : gb563 ≠ gb564)); have n6_ := Aside0.mk ((by rw [hg]; exact Nat.ne_of_gt (blk_lt (g := gb563) (o := .cells #[.int .i64 0, .int .i64 0, .int .i64 0, .int .i64 0, .int .i64 0, .int .i64 0, .string (⟨#[]⟩ : ByteArray), .string (⟨#[]⟩ : ByteArray)] 95 (0, 0)) (bq_ BK563.out)) : gb564 ≠ gb563)); clear BK563; clear HB; have BK563 := n0_; have HB := n1_; have BK564 := n2_; have GW564 := n3_; have GE564 := n4_; have NB563_564 := n5_; have NB564_563 := n6_; clear n0_ n1_ n2_ n3_ n4_ n5_ n6_; clear hb hbox hg; have HI564 := Aside0.mk (show IsS_l7Cur w w6 gb564 l0 a1 true from ⟨_, _, by (with_reducible repeat (first | refine blk_drewN ?_ _ | refine blk_drew ?_ | refine blk_alloc ?_ _)); exact BK564.out, GE564.out, ⟨HR0.out, HC0.out⟩⟩); clear BK564) | ((with_reducible refine gate_callee (f := 125) rfl ?_); refine goesL_ (some 14) rfl rfl Try.func125 (by kernel_rfl) rfl #[.pointer (some ⟨gb564, 0, none⟩)] rfl (qe5_) ?_; (with_reducible refine (spec_l7Cmd.calls k gb564 l0 a1 true t565 t566 t567 t568 t569 t570 t571 t572 t573 t574 w _ ?side1 ?side2 A3.out).mono ?_); (case side1 => repeat (first | (with_reducible first | exact HI564.out | apply IsS_l7Cur.alloc | apply IsS_l7Cur.drewN | apply IsS_l7Cur.drew | apply IsS_l7Cur.set_1 | apply IsS_l7Cur.set_2 | refine IsS_l7Cur.far ?_ NB564_563.out _ | apply IsS_l7Cur.farB (hne := NB564_563.out)) | exact HI564.out)); (case side2 => repeat (first | (with_reducible first | exact HB.out | apply below_alloc | apply pw_below_drewN | apply below_drew1 | refine below_set ?_ (IsS_l7Cur.ge HI564.out) | refine below_set ?_ GE563.out) | exact HB.out)); rintro e w7 ⟨rfl, hi, hb, hk⟩; refine ⟨_, rfl, ?_⟩; have n0_ := Aside0.mk (KeepBut.blk hk (g' := gb563) (o := .cells #[.int .i64 0, .int .i64 0, .int .i64 0, .int .i64 0, .int .i64 0, .int .i64 0, .string (⟨#[]⟩ : ByteArray), .string (⟨#[]⟩ : ByteArray)] 95 (0, 0)) (bq_ BK563.out) NB563_564.out (by simp)); have n1_ := Aside0.mk (hb); have n2_ := Aside0.mk (hi); clear BK563; clear HB; clear HI564; have BK563 := n0_; have HB := n1_; have HI564 := n2_; clear n0_ n1_ n2_; (try clear hb); (try clear hb2); (try clear hk); (try clear hi); obtain ⟨ASz8_0, cSz8_0, HGz8, hgz8, ⟨HSz8_0, HZz8_0⟩⟩ := HI564.out; have BK564 := Aside0.mk HGz8; clear HGz8 hgz8 HI564; have HRz8S0 := Aside0.mk HSz8_0; have HCz8S0 := Aside0.mk HZz8_0) | ((with_reducible refine gate_dst (N := 8) rfl ?_); refine box_event ?hg (N := 8) ?hd (cs := #[.int .i64 0, .int .i64 0, .int .i64 0, .int .i64 0, .int .i64 0, .int .i64 0, .string (⟨#[]⟩ : ByteArray), .string (⟨#[]⟩ : ByteArray)]) (t := 95) ?hr ?_; (case hd => rfl); (case hg => rfl); (case hr => first | (go_simp; done) | (go_simp; rfl)); intro gb575 hg w9 hbox hb; have n0_ := Aside0.mk (blk_below (g := gb563) (o := .cells #[.int .i64 0, .int .i64 0, .int .i64 0, .int .i64 0, .int .i64 0, .int .i64 0, .string (⟨#[]⟩ : ByteArray), .string (⟨#[]⟩ : ByteArray)] 95 (0, 0)) (bq_ BK563.out) hb); have n1_ := Aside0.mk (blk_below (g := gb564) (o := .cells #[.slice ASz8_0 l0.length cSz8_0, .int .i64 t573, .bool t574] 165 (0, 0)) (bq_ BK564.out) hb); have n2_ := Aside0.mk (below_step (qe11_) hb); have n3_ := Aside0.mk (hbox); have n4_ := Aside0.mk ((by rw [hg]; exact (below_size (qe11_)) : w.heap.size ≤ gb575)); have n5_ := Aside0.mk ((by rw [hg]; exact (below_size (qe11_)) : w.heap.size ≤ gb575)); have n6_ := Aside0.mk ((by rw [hg]; exact Nat.ne_of_lt (blk_lt (g := gb563) (o := .cells #[.int .i64 0, .int .i64 0, .int .i64 0, .int .i64 0, .int .i64 0, .int .i64 0, .string (⟨#[]⟩ : ByteArray), .string (⟨#[]⟩ : ByteArray)] 95 (0, 0)) (bq_ BK563.out)) : gb563 ≠ gb575)); have n7_ := Aside0.mk ((by rw [hg]; exact Nat.ne_of_gt (blk_lt (g := gb563) (o := .cells #[.int .i64 0, .int .i64 0, .int .i64 0, .int .i64 0, .int .i64 0, .int .i64 0, .string (⟨#[]⟩ : ByteArray), .string (⟨#[]⟩ : ByteArray)] 95 (0, 0)) (bq_ BK563.out)) : gb575 ≠ gb563)); have n8_ := Aside0.mk ((by rw [hg]; exact Nat.ne_of_lt (blk_lt (g := gb564) (o := .cells #[.slice ASz8_0 l0.length cSz8_0, .int .i64 t573, .bool t574] 165 (0, 0)) (bq_ BK564.out)) : gb564 ≠ gb575)); have n9_ := Aside0.mk ((by rw [hg]; exact Nat.ne_of_gt (blk_lt (g := gb564) (o := .cells #[.slice ASz8_0 l0.length cSz8_0, .int .i64 t573, .bool t574] 165 (0, 0)) (bq_ BK564.out)) : gb575 ≠ gb564)); clear BK563; clear BK564; clear HB; have BK563 := n0_; have BK564 := n1_; have HB := n2_; have BK575 := n3_; have GW575 := n4_; have GE575 := n5_; have NB563_575 := n6_; have NB575_563 := n7_; have NB564_575 := n8_; have NB575_564 := n9_; clear n0_ n1_ n2_ n3_ n4_ n5_ n6_ n7_ n8_ n9_; clear hb hbox hg; have hnb10 := NB575_563.out; have hnc10 := NB563_575.out; have hnb11 := NB575_564.out; have hnc11 := NB564_575.out; have hcz12_0 : w9.cell? ⟨gb575, 0, none⟩ = some (.int .i64 0) := bc_ BK575 0; have hcz12_1 : w9.cell? ⟨gb575, 1, none⟩ = some (.int .i64 0) := bc_ BK575 1; have hcz12_2 : w9.cell? ⟨gb575, 2, none⟩ = some (.int .i64 0) := bc_ BK575 2; have hcz12_3 : w9.cell? ⟨gb575, 3, none⟩ = some (.int .i64 0) := bc_ BK575 3; have hcz12_4 : w9.cell? ⟨gb575, 4, none⟩ = some (.int .i64 0) := bc_ BK575 4; have hcz12_5 : w9.cell? ⟨gb575, 5, none⟩ = some (.int .i64 0) := bc_ BK575 5; have hcz12_6 : w9.cell? ⟨gb575, 6, none⟩ = some (.string (⟨#[]⟩ : ByteArray)) := bc_ BK575 6; have hcz12_7 : w9.cell? ⟨gb575, 7, none⟩ = some (.string (⟨#[]⟩ : ByteArray)) := bc_ BK575 7; have hfz12_0 := blk_frozen BK575.out 0; have hfz12_1 := blk_frozen BK575.out 1; have hfz12_2 := blk_frozen BK575.out 2; have hfz12_3 := blk_frozen BK575.out 3; have hfz12_4 := blk_frozen BK575.out 4; have hfz12_5 := blk_frozen BK575.out 5; have hfz12_6 := blk_frozen BK575.out 6; have hfz12_7 := blk_frozen BK575.out 7))
  (try simp only [Act.put, List.setIfInBounds_toArray, List.set_cons_zero, List.set_cons_succ])
  go_cut [24] (fun v24 wc => ∃ (kq : Nat) (x24_3 : Bool), v24 = .bool x24_3 ∧ Aside0 (spec_CmdOf.j0 kq x24_3 l0 t573 t574 t565 t566 t567 t568 t569 t570 t571 t572 = some (r1, r2, r3, r4, r5, r6, r7, r8, r9, r10)) ∧ Aside0 (kq ≤ k) ∧ Aside0 (wc.heap[gb563]? = some (.cells #[.int .i64 0, .int .i64 0, .int .i64 0, .int .i64 0, .int .i64 0, .int .i64 0, .string (⟨#[]⟩ : ByteArray), .string (⟨#[]⟩ : ByteArray)] 95 (0, 0))) ∧ Aside0 (wc.heap[gb564]? = some (.cells #[(.slice ASz8_0 l0.length cSz8_0), .int .i64 t573, .bool t574] 165 (0, 0))) ∧ Aside0 (wc.heap[gb575]? = some (.cells #[.int .i64 t565, .int .i64 t566, .int .i64 t567, .int .i64 t568, .int .i64 t569, .int .i64 t570, .string t571, .string t572] 95 (0, 0))) ∧ Aside0 (Below w.heap.size w wc))
  case first =>
    have H := HC4.out
    clear HC4
    by_cases c13 : t574 = true
    · subst c13
      have H1 : ((spec_CmdOk.f k t565 t566 t567 t568 t569 t570 t571 t572).bind fun t576 => (spec_CmdOf.j0 k (!t576) l0 t573 true t565 t566 t567 t568 t569 t570 t571 t572)) = some (r1, r2, r3, r4, r5, r6, r7, r8, r9, r10) := by rw [if_pos rfl] at H; exact H
      clear H
      have H := H1
      clear H1
      replace H := Option.bind_eq_some_iff.mp H
      obtain ⟨t576, A140, H⟩ := H
      replace H : (spec_CmdOf.j0 k (!t576) l0 t573 true t565 t566 t567 t568 t569 t570 t571 t572) = some (r1, r2, r3, r4, r5, r6, r7, r8, r9, r10) := H
      have A14 := Aside0.mk A140
      clear A140
      have H' := Aside0.mk H
      clear H
      have hnb15 := NB564_563.out
      have hnc15 := NB563_564.out
      have hnb16 := NB564_575.out
      have hnc16 := NB575_564.out
      have hcz17_0 : w9.cell? ⟨gb564, 0, none⟩ = some (.slice ASz8_0 l0.length cSz8_0) := bc_ BK564 0
      have hcz17_1 : w9.cell? ⟨gb564, 1, none⟩ = some (.int .i64 t573) := bc_ BK564 1
      have hcz17_2 : w9.cell? ⟨gb564, 2, none⟩ = some (.bool true) := bc_ BK564 2
      have hfz17_0 := blk_frozen BK564.out 0
      have hfz17_1 := blk_frozen BK564.out 1
      have hfz17_2 := blk_frozen BK564.out 2
      have hnb18 := NB575_563.out
      have hnc18 := NB563_575.out
      have hcz19_0 : w9.cell? ⟨gb575, 0, none⟩ = some (.int .i64 0) := bc_ BK575 0
      have hcz19_1 : w9.cell? ⟨gb575, 1, none⟩ = some (.int .i64 0) := bc_ BK575 1
      have hcz19_2 : w9.cell? ⟨gb575, 2, none⟩ = some (.int .i64 0) := bc_ BK575 2
      have hcz19_3 : w9.cell? ⟨gb575, 3, none⟩ = some (.int .i64 0) := bc_ BK575 3
      have hcz19_4 : w9.cell? ⟨gb575, 4, none⟩ = some (.int .i64 0) := bc_ BK575 4
      have hcz19_5 : w9.cell? ⟨gb575, 5, none⟩ = some (.int .i64 0) := bc_ BK575 5
      have hcz19_6 : w9.cell? ⟨gb575, 6, none⟩ = some (.string (⟨#[]⟩ : ByteArray)) := bc_ BK575 6
      have hcz19_7 : w9.cell? ⟨gb575, 7, none⟩ = some (.string (⟨#[]⟩ : ByteArray)) := bc_ BK575 7
      have hfz19_0 := blk_frozen BK575.out 0
      have hfz19_1 := blk_frozen BK575.out 1
      have hfz19_2 := blk_frozen BK575.out 2
      have hfz19_3 := blk_frozen BK575.out 3
      have hfz19_4 := blk_frozen BK575.out 4
      have hfz19_5 := blk_frozen BK575.out 5
      have hfz19_6 := blk_frozen BK575.out 6
      have hfz19_7 := blk_frozen BK575.out 7
      go_wp2_with (first | (go_at_call 126; (with_reducible refine (spec_CmdOk.calls k t565 t566 t567 t568 t569 t570 t571 t572 t576 _ A14.out).mono ?_); rintro e w20 ⟨rfl, hb⟩; have n0_ := Aside0.mk (blk_below (g := gb563) (o := .cells #[.int .i64 0, .int .i64 0, .int .i64 0, .int .i64 0, .int .i64 0, .int .i64 0, .string (⟨#[]⟩ : ByteArray), .string (⟨#[]⟩ : ByteArray)] 95 (0, 0)) (bf_ NB563_575.out BK563.out) hb); have n1_ := Aside0.mk (blk_below (g := gb564) (o := .cells #[.slice ASz8_0 l0.length cSz8_0, .int .i64 t573, .bool true] 165 (0, 0)) (bf_ NB564_575.out BK564.out) hb); have n2_ := Aside0.mk (blk_below (g := gb575) (o := .cells #[.int .i64 t565, .int .i64 t566, .int .i64 t567, .int .i64 t568, .int .i64 t569, .int .i64 t570, .string t571, .string t572] 95 (0, 0)) (bp_ BK575.out) hb); have n3_ := Aside0.mk (below_step (qe8_) hb); clear BK563; clear BK564; clear BK575; clear HB; have BK563 := n0_; have BK564 := n1_; have BK575 := n2_; have HB := n3_; clear n0_ n1_ n2_ n3_; (try clear hb); (try clear hb2); (try clear hk); (try clear hi)))
      go_meet
      case rel => exact ⟨_, (!t576), (by first | rfl | (simp; done) | (simp [*]; done)), H', ⟨by first | omega | exact Nat.le_refl _⟩, ⟨bq_ BK563.out⟩, ⟨bq_ BK564.out⟩, ⟨bq_ BK575.out⟩, ⟨qe8_⟩⟩
    · replace c13 := Bool.eq_false_iff.mpr c13
      subst c13
      have H1 : (spec_CmdOf.j0 k true l0 t573 false t565 t566 t567 t568 t569 t570 t571 t572) = some (r1, r2, r3, r4, r5, r6, r7, r8, r9, r10) := by rw [if_neg (show ¬ (false = true) by decide)] at H; exact H
      clear H
      have H := H1
      clear H1
      have H' := Aside0.mk H
      clear H
      have hnb21 := NB564_563.out
      have hnc21 := NB563_564.out
      have hnb22 := NB564_575.out
      have hnc22 := NB575_564.out
      have hcz23_0 : w9.cell? ⟨gb564, 0, none⟩ = some (.slice ASz8_0 l0.length cSz8_0) := bc_ BK564 0
      have hcz23_1 : w9.cell? ⟨gb564, 1, none⟩ = some (.int .i64 t573) := bc_ BK564 1
      have hcz23_2 : w9.cell? ⟨gb564, 2, none⟩ = some (.bool false) := bc_ BK564 2
      have hfz23_0 := blk_frozen BK564.out 0
      have hfz23_1 := blk_frozen BK564.out 1
      have hfz23_2 := blk_frozen BK564.out 2
      go_wp2
      go_meet
      case rel => exact ⟨_, (true), (by first | rfl | (simp; done) | (simp [*]; done)), H', ⟨by first | omega | exact Nat.le_refl _⟩, ⟨bf_ NB563_575.out BK563.out⟩, ⟨bf_ NB564_575.out BK564.out⟩, ⟨bp_ BK575.out⟩, ⟨qe8_⟩⟩
  case rest =>
    clear HC4
    try clear c1
    try clear c2
    try clear p2
    try clear c6
    try clear c10
    try clear c11
    try clear c12
    try clear c13
    try clear c15
    try clear c16
    try clear c18
    try clear c21
    try clear c22
    try clear hcz12_0
    try clear hcz12_1
    try clear hcz12_2
    try clear hcz12_3
    try clear hcz12_4
    try clear hcz12_5
    try clear hcz12_6
    try clear hcz12_7
    try clear hcz17_0
    try clear hcz17_1
    try clear hcz17_2
    try clear hcz19_0
    try clear hcz19_1
    try clear hcz19_2
    try clear hcz19_3
    try clear hcz19_4
    try clear hcz19_5
    try clear hcz19_6
    try clear hcz19_7
    try clear hcz23_0
    try clear hcz23_1
    try clear hcz23_2
    try clear hfz12_0
    try clear hfz12_1
    try clear hfz12_2
    try clear hfz12_3
    try clear hfz12_4
    try clear hfz12_5
    try clear hfz12_6
    try clear hfz12_7
    try clear hfz17_0
    try clear hfz17_1
    try clear hfz17_2
    try clear hfz19_0
    try clear hfz19_1
    try clear hfz19_2
    try clear hfz19_3
    try clear hfz19_4
    try clear hfz19_5
    try clear hfz19_6
    try clear hfz19_7
    try clear hfz23_0
    try clear hfz23_1
    try clear hfz23_2
    obtain ⟨kq, x24_3, rfl, HA, HJ3, BK563, BK564, BK575, HB⟩ := hcut
    cases kq with
    | zero => exact absurd HA.out (by simp [spec_CmdOf.j0])
    | succ kj3 =>
      have H := HA.out
      clear HA
      simp only [spec_CmdOf.j0] at H
      by_cases c24 : x24_3 = true
      · subst c24
        have H1 : (some (0, 0, 0, 0, 0, 0, (⟨#[]⟩ : ByteArray), (⟨#[]⟩ : ByteArray), 0, false)) = some (r1, r2, r3, r4, r5, r6, r7, r8, r9, r10) := by rw [if_pos rfl] at H; exact H
        clear H
        have H := H1
        clear H1
        simp only [Option.some.injEq, Prod.mk.injEq] at H
        obtain ⟨rfl, rfl, rfl, rfl, rfl, rfl, rfl, rfl, rfl, rfl⟩ := H
        have hnb25 := NB563_564.out
        have hnc25 := NB564_563.out
        have hnb26 := NB563_575.out
        have hnc26 := NB575_563.out
        have hcz27_0 : wc.cell? ⟨gb563, 0, none⟩ = some (.int .i64 0) := bc_ BK563 0
        have hcz27_1 : wc.cell? ⟨gb563, 1, none⟩ = some (.int .i64 0) := bc_ BK563 1
        have hcz27_2 : wc.cell? ⟨gb563, 2, none⟩ = some (.int .i64 0) := bc_ BK563 2
        have hcz27_3 : wc.cell? ⟨gb563, 3, none⟩ = some (.int .i64 0) := bc_ BK563 3
        have hcz27_4 : wc.cell? ⟨gb563, 4, none⟩ = some (.int .i64 0) := bc_ BK563 4
        have hcz27_5 : wc.cell? ⟨gb563, 5, none⟩ = some (.int .i64 0) := bc_ BK563 5
        have hcz27_6 : wc.cell? ⟨gb563, 6, none⟩ = some (.string (⟨#[]⟩ : ByteArray)) := bc_ BK563 6
        have hcz27_7 : wc.cell? ⟨gb563, 7, none⟩ = some (.string (⟨#[]⟩ : ByteArray)) := bc_ BK563 7
        have hfz27_0 := blk_frozen BK563.out 0
        have hfz27_1 := blk_frozen BK563.out 1
        have hfz27_2 := blk_frozen BK563.out 2
        have hfz27_3 := blk_frozen BK563.out 3
        have hfz27_4 := blk_frozen BK563.out 4
        have hfz27_5 := blk_frozen BK563.out 5
        have hfz27_6 := blk_frozen BK563.out 6
        have hfz27_7 := blk_frozen BK563.out 7
        go_wp2
        refine bodyPost_ret (results_ctt rfl _ _ gb563 95 #[.int .i64 0, .int .i64 0, .int .i64 0, .int .i64 0, .int .i64 0, .int .i64 0, .string (⟨#[]⟩ : ByteArray), .string (⟨#[]⟩ : ByteArray)] (0, 0) _ rfl (bp_ BK563.out) Try.underlying95 rfl (by kernel_rfl)) rfl ?_
        exact ⟨qe13_, qe8_⟩
      · replace c24 := Bool.eq_false_iff.mpr c24
        subst c24
        have H1 : (some (t565, t566, t567, t568, t569, t570, t571, t572, t573, true)) = some (r1, r2, r3, r4, r5, r6, r7, r8, r9, r10) := by rw [if_neg (show ¬ (false = true) by decide)] at H; exact H
        clear H
        have H := H1
        clear H1
        simp only [Option.some.injEq, Prod.mk.injEq] at H
        obtain ⟨rfl, rfl, rfl, rfl, rfl, rfl, rfl, rfl, rfl, rfl⟩ := H
        try go_wp2
        have n0_ := Aside0.mk (blk_drew BK563.out)
        have n1_ := Aside0.mk (blk_drew BK564.out)
        have n2_ := Aside0.mk (blk_drew BK575.out)
        have n3_ := Aside0.mk (below_drew1 HB.out)
        clear BK563
        clear BK564
        clear BK575
        clear HB
        have BK563 := n0_
        have BK564 := n1_
        have BK575 := n2_
        have HB := n3_
        clear n0_ n1_ n2_ n3_
        refine start_ (n := 8) (S := fun w' => w'.cell? ⟨gb575, 0, none⟩ = some (.int .i64 t565) ∧ w'.cell? ⟨gb575, 1, none⟩ = some (.int .i64 t566) ∧ w'.cell? ⟨gb575, 2, none⟩ = some (.int .i64 t567) ∧ w'.cell? ⟨gb575, 3, none⟩ = some (.int .i64 t568) ∧ w'.cell? ⟨gb575, 4, none⟩ = some (.int .i64 t569) ∧ w'.cell? ⟨gb575, 5, none⟩ = some (.int .i64 t570) ∧ w'.cell? ⟨gb575, 6, none⟩ = some (.string t571) ∧ w'.cell? ⟨gb575, 7, none⟩ = some (.string t572) ∧ w'.cell? ⟨gb564, 0, none⟩ = some (.slice ASz8_0 l0.length cSz8_0) ∧ w'.cell? ⟨gb564, 1, none⟩ = some (.int .i64 t573) ∧ w'.cell? ⟨gb564, 2, none⟩ = some (.bool t574)) (ds := []) #[false, false, false, false, false, false, false, false] (by kernel_rfl) rfl rfl ⟨bc_ BK575 0, bc_ BK575 1, bc_ BK575 2, bc_ BK575 3, bc_ BK575 4, bc_ BK575 5, bc_ BK575 6, bc_ BK575 7, bc_ BK564 0, bc_ BK564 1, bc_ BK564 2⟩ (fun hHeld => ?_); refine with_tabW spec_CmdOf.tab5 spec_CmdOf.bits5 (fun HT_ HW_ => ?_)
        generalize wc.drew = w28 at BK563 BK564 BK575 HB hHeld ⊢
        refine pure_ (i := 1) (N := some 27) (v := ?_) (a' := ?_) #[false, true, false, false, false, false, false, false] rfl rfl (any_of HT_.out (by kernel_rfl)) (fun _ _ _ h => h) (Or.inl ⟨by rfl, ?_⟩) ?_ ?_
        rotate_left
        · intro w'
          go_simp
          with_reducible rfl
        rotate_left
        · simp only [Act.put, List.setIfInBounds_toArray, List.set_cons_zero, List.set_cons_succ, i64_w, i32_w]
          rfl
        refine pure_ (i := 2) (N := some 28) (v := ?_) (a' := ?_) #[false, true, true, false, false, false, false, false] rfl rfl (any_of HT_.out (by kernel_rfl)) (fun _ _ _ h => h) (Or.inl ⟨by rfl, ?_⟩) ?_ ?_
        rotate_left
        · intro w'
          go_simp
          with_reducible rfl
        rotate_left
        · simp only [Act.put, List.setIfInBounds_toArray, List.set_cons_zero, List.set_cons_succ, i64_w, i32_w]
          rfl
        refine pure_ (i := 3) (N := some 29) (v := ?_) (a' := ?_) #[false, true, true, true, false, false, false, false] rfl rfl (any_of HT_.out (by kernel_rfl)) (fun _ _ _ h => h) (Or.inl ⟨by rfl, ?_⟩) ?_ ?_
        rotate_left
        · intro w'
          go_simp
          with_reducible rfl
        rotate_left
        · simp only [Act.put, List.setIfInBounds_toArray, List.set_cons_zero, List.set_cons_succ, i64_w, i32_w]
          rfl
        refine take_ (i := 0) (N := some 26) (v := ?_) (a' := ?_) #[true, true, true, true, false, false, false, false] rfl rfl (take_ofW HT_.out HW_.out (by kernel_rfl)) (fun _ _ _ h => h) (Or.inl ⟨by rfl, ?_⟩) hHeld ?_ ?_
        rotate_left
        · rintro w' ⟨s0, s1, s2, s3, s4, s5, s6, s7, s8, s9, s10⟩
          go_simp
          with_reducible rfl
        rotate_left
        · simp only [Act.put, List.setIfInBounds_toArray, List.set_cons_zero, List.set_cons_succ, i64_w, i32_w]
          rfl
        refine take_ (i := 4) (N := some 30) (v := ?_) (a' := ?_) #[true, true, true, true, true, false, false, false] rfl rfl (take_ofW HT_.out HW_.out (by kernel_rfl)) (fun _ _ _ h => h) (Or.inl ⟨by rfl, ?_⟩) hHeld ?_ ?_
        rotate_left
        · rintro w' ⟨s0, s1, s2, s3, s4, s5, s6, s7, s8, s9, s10⟩
          go_simp
          with_reducible rfl
        rotate_left
        · simp only [Act.put, List.setIfInBounds_toArray, List.set_cons_zero, List.set_cons_succ, i64_w, i32_w]
          rfl
        refine one_ (i := 5) (N := none) #[true, true, true, true, true, true, false, false] rfl rfl (one_of HT_.out (by kernel_rfl)) (by decide) (fun K hK => ?_)
        have hs29 : w28.cell? ⟨gb563, 0, none⟩ = some (.int .i64 0) := bc_ BK563 0
        have hfs29 := blk_frozen BK563.out 0
        have hns29_1 := NB564_563.out
        have hns29_2 := NB575_563.out
        have hms29_1 := NB563_564.out
        have hms29_2 := NB563_575.out
        have hs30 : w28.cell? ⟨gb563, 1, none⟩ = some (.int .i64 0) := bc_ BK563 1
        have hfs30 := blk_frozen BK563.out 1
        have hns30_1 := NB564_563.out
        have hns30_2 := NB575_563.out
        have hms30_1 := NB563_564.out
        have hms30_2 := NB563_575.out
        have hs31 : w28.cell? ⟨gb563, 2, none⟩ = some (.int .i64 0) := bc_ BK563 2
        have hfs31 := blk_frozen BK563.out 2
        have hns31_1 := NB564_563.out
        have hns31_2 := NB575_563.out
        have hms31_1 := NB563_564.out
        have hms31_2 := NB563_575.out
        have hs32 : w28.cell? ⟨gb563, 3, none⟩ = some (.int .i64 0) := bc_ BK563 3
        have hfs32 := blk_frozen BK563.out 3
        have hns32_1 := NB564_563.out
        have hns32_2 := NB575_563.out
        have hms32_1 := NB563_564.out
        have hms32_2 := NB563_575.out
        have hs33 : w28.cell? ⟨gb563, 4, none⟩ = some (.int .i64 0) := bc_ BK563 4
        have hfs33 := blk_frozen BK563.out 4
        have hns33_1 := NB564_563.out
        have hns33_2 := NB575_563.out
        have hms33_1 := NB563_564.out
        have hms33_2 := NB563_575.out
        have hs34 : w28.cell? ⟨gb563, 5, none⟩ = some (.int .i64 0) := bc_ BK563 5
        have hfs34 := blk_frozen BK563.out 5
        have hns34_1 := NB564_563.out
        have hns34_2 := NB575_563.out
        have hms34_1 := NB563_564.out
        have hms34_2 := NB563_575.out
        have hs35 : w28.cell? ⟨gb563, 6, none⟩ = some (.string (⟨#[]⟩ : ByteArray)) := bc_ BK563 6
        have hfs35 := blk_frozen BK563.out 6
        have hns35_1 := NB564_563.out
        have hns35_2 := NB575_563.out
        have hms35_1 := NB563_564.out
        have hms35_2 := NB563_575.out
        have hs36 : w28.cell? ⟨gb563, 7, none⟩ = some (.string (⟨#[]⟩ : ByteArray)) := bc_ BK563 7
        have hfs36 := blk_frozen BK563.out 7
        have hns36_1 := NB564_563.out
        have hns36_2 := NB575_563.out
        have hms36_1 := NB563_564.out
        have hms36_2 := NB563_575.out
        refine skip_ (w1 := ?_) (by rfl) rfl ?_ ?_
        rotate_left
        · go_simp
          rfl
        refine hK.out _ _ ⟨(cfs_ NB575_563.out (hHeld.1)), (cfs_ NB575_563.out (hHeld.2.1)), (cfs_ NB575_563.out (hHeld.2.2.1)), (cfs_ NB575_563.out (hHeld.2.2.2.1)), (cfs_ NB575_563.out (hHeld.2.2.2.2.1)), (cfs_ NB575_563.out (hHeld.2.2.2.2.2.1)), (cfs_ NB575_563.out (hHeld.2.2.2.2.2.2.1)), (cfs_ NB575_563.out (hHeld.2.2.2.2.2.2.2.1)), (cfs_ NB564_563.out (hHeld.2.2.2.2.2.2.2.2.1)), (cfs_ NB564_563.out (hHeld.2.2.2.2.2.2.2.2.2.1)), (cfs_ NB564_563.out (hHeld.2.2.2.2.2.2.2.2.2.2))⟩ (fun hHeld => ?_)
        clear hK K
        refine pure_ (i := 6) (N := some 5) (v := ?_) (a' := ?_) #[true, true, true, true, true, true, true, false] rfl rfl (any_of HT_.out (by kernel_rfl)) (fun _ _ _ h => h) (Or.inl ⟨by rfl, ?_⟩) ?_ ?_
        rotate_left
        · intro w'
          go_simp
          with_reducible rfl
        rotate_left
        · simp only [Act.put, List.setIfInBounds_toArray, List.set_cons_zero, List.set_cons_succ, i64_w, i32_w]
          rfl
        refine pure_ (i := 7) (N := some 6) (v := ?_) (a' := ?_) #[true, true, true, true, true, true, true, true] rfl rfl (any_of HT_.out (by kernel_rfl)) (fun _ _ _ h => h) (Or.inl ⟨by rfl, ?_⟩) ?_ ?_
        rotate_left
        · intro w'
          go_simp
          with_reducible rfl
        rotate_left
        · simp only [Act.put, List.setIfInBounds_toArray, List.set_cons_zero, List.set_cons_succ, i64_w, i32_w]
          rfl
        refine done_ (done_of HT_.out (by kernel_rfl)) ?_
        try go_wp2
        refine bodyPost_ret (results_ctt rfl _ _ gb563 95 #[.int .i64 t565, .int .i64 t566, .int .i64 t567, .int .i64 t568, .int .i64 t569, .int .i64 t570, .string t571, .string t572] (0, 0) _ rfl (bp_ BK563.out) Try.underlying95 rfl (by kernel_rfl)) rfl ?_
        exact ⟨qe13_, qe8_⟩
/-! ### slices_Concat_byte_byte: function 118 -/
-- IMPORT Derived.Lib.AppendZerosOnto
set_option maxHeartbeats 8000000 in
set_option maxRecDepth 100000 in
theorem growNil (n : Nat) (w : World) (hn : n ≤ 140737488355328) :
    Calls Try.prog 159 #[.slice none 0 0, .int .i64 (n : Int)] w fun e w' => ∃ v : Value, e = .returned v ∧ Kd.R (Kd.int .u8) 5 w' w.heap.size (fun _ => True) v [] ∧ Below w.heap.size w w' := by
  obtain ⟨i0, hi0, hz0, hz1, hz2⟩ := info_parts info5
  have h1 : ¬ ((n : Int) < 0) := by omega
  have h3 : wrap64 ((n : Int) - 0) = (n : Int) := by unfold wrap64; omega
  rcases Nat.eq_zero_or_pos n with h0 | h0
  · subst h0
    clear hi0 hz0 hz1 hz2
    go_enter Try.func159, Try.ntmps159
    go_wp2
    go_ret
    exact ⟨_, rfl, Kd.R_nil _ _ _ _ _, Below.refl _ _⟩
  · have h4 : (n : Int) > 0 := by omega
    have hb : n * i0.bytes ≤ 140737488355328 := by rw [hz2]; omega
    have hrz : ∀ ty, (Builtin.append_ #[22, 3] ty #[.slice none 0 0, .int .i64 (n : Int)]).run Try.prog w = .ok (.slice (some ⟨w.heap.size, 0, none⟩) n (grownCap w n 0 5)) (w.drew.alloc (.cells (Builtin.zeroCells (Value.int .u8 0).cells n ++ Builtin.zeroCells (Value.int .u8 0).cells (grownCap w n 0 5 - n)) 5)) := fun ty => by
      have h := Lib.run_append_grow_zeros w 22 3 ty 5 i0 (.int .u8 0) .i64 .i64 Try.underlying22 Try.underlying3 hi0 hz0 none 0 0 [] (by exact run_firstCells_none _ _ _ _ _) n h0 (by rw [hz1]; decide) (by omega) (by omega) (by rw [hz2]; omega) (by rw [Nat.zero_add]; exact growslice_fits h0 hb)
      simpa using h
    have hG := grownCap_ge w n 0 5
    have hM := grownCap_le_maxLen w n 0 5 (by unfold maxLen; omega)
    generalize grownCap w n 0 5 = G at hrz hG hM
    have HS : Aside0 (∀ W : World, w.heap.size ≤ W.heap.size → Kd.R (Kd.int .u8) 5 (W.alloc (.cells (Builtin.zeroCells (Value.int .u8 0).cells n ++ Builtin.zeroCells (Value.int .u8 0).cells (G - n)) 5)) w.heap.size (fun _ => True) (.slice (some ⟨W.heap.size, 0, none⟩) 0 G) []) := ⟨fun W hW => by
      refine ⟨fun _ _ => trivial, [], ⟨rfl, .inr ⟨W.heap.size, G, _, rfl, hW, heap_alloc_new W _, Nat.zero_le _, hM, ?_, by simp⟩⟩, Reps.none _ _⟩
      simp only [Array.size_append, size_zeroCells]
      show n * 1 + (G - n) * 1 = G * 1
      omega⟩
    clear hi0 hz0 hz1 hz2 hb hM
    go_enter Try.func159, Try.ntmps159
    go_wp2_with (at_builtin; refine Lib.wpList_append_run _ rfl _ _ _ _ rfl _ _ rfl rfl _ _ (hrz _) ?_)
    go_ret
    exact ⟨_, rfl, HS.out w.drew (Nat.le_refl _), below_alloc (below_drew1 (Below.refl _ _)) _⟩
theorem take_flat (l : List (List Int)) (k : Nat) (h : k < l.length) : (l.take (k + 1)).flatten = (l.take k).flatten ++ l[k] := by
  rw [List.take_succ_eq_append_getElem h, List.flatten_append]
  simp
theorem take_flat_le (l : List (List Int)) (k : Nat) : (l.take k).flatten.length ≤ l.flatten.length := by
  have h : l.flatten = (l.take k).flatten ++ (l.drop k).flatten := by rw [← List.flatten_append, List.take_append_drop]
  rw [h, List.length_append]
  omega
/-- the rows, one behind the other -/
def slices_Concat_byte_byte.f (l0 : List (List Int)) : Option (List Int) := if l0.flatten.length < 140737488355328 then some l0.flatten else none
set_option maxHeartbeats 8000000 in
set_option maxRecDepth 100000 in
theorem slices_Concat_byte_byte.calls (A0 : Option Addr) (c0 : Nat) (l0 : List (List Int)) (r : List Int) (w : World) (hr0 : Kd.C (Kd.slice 5 (Kd.int .u8)) w A0 l0.length l0) (hc0 : l0.length ≤ c0) (h : slices_Concat_byte_byte.f l0 = some r) :
    Calls Try.prog 118 #[.slice A0 l0.length c0] w fun e w' => ∃ v0_ : Value, e = .returned (v0_) ∧ Kd.R (Kd.int .u8) 5 w' w.heap.size (fun _ => True) v0_ r ∧ Below w.heap.size w w' := by
  unfold slices_Concat_byte_byte.f at h
  by_cases hb : l0.flatten.length < 140737488355328
  · rw [if_pos hb] at h
    obtain rfl := Option.some.inj h
    have hm := Kd.C_max hr0
    have HX := Aside0.mk hb
    have HN := Aside0.mk hm
    have HR := Aside0.mk hr0
    have HROW : Aside0 (∀ (W : World) (kk : Nat), Below w.heap.size w W → kk < l0.length → ∃ ad A c, A0 = some ad ∧ W.cell? (ad.add kk) = some (.slice A (l0.getD kk []).length c) ∧ Kd.C (Kd.int .u8) W A (l0.getD kk []).length (l0.getD kk [])) := ⟨fun W kk hW hk => by
      obtain ⟨ad, c, e, hs, ⟨A, c1, hc, hl, hC⟩, hcell⟩ := ReadsRow.get_ hr0 [] (kk : Int) (by omega) (by omega)
      simp only [Int.toNat_natCast] at hC hc hcell
      subst hc
      refine ⟨ad, A, c1, e, ?_, Kd.C_below hC hW⟩
      have := hcell 0 _ rfl
      rw [show kk * (Kd.slice 5 (Kd.int .u8)).sz + 0 = kk by show kk * 1 + 0 = kk; omega] at this
      exact pw_cell_below hW this⟩
    clear hr0 h hb hc0 HR
    go_enter Try.func118, Try.ntmps118
    go_wp2
    go_loopg [3, 11] l0.length (fun gg s3 s11 wr => ∃ kk : Nat, kk ≤ l0.length ∧ l0.length - kk ≤ gg ∧ s11 = .int .i64 kk ∧ s3 = .int .i64 (((l0.take kk).flatten.length : Nat) : Int) ∧ Aside0 (Below w.heap.size w wr))
    case atStart => exact ⟨0, Nat.zero_le _, by omega, rfl, by simp, ⟨Below.refl _ w⟩⟩
    case round =>
      obtain ⟨kk, hkk, hg, rfl, rfl, BW⟩ := hrel
      by_cases hlt : kk < l0.length
      · have hltz : (kk : Int) < (l0.length : Int) := by omega
        obtain ⟨ad, A, c, rfl, hx, hC⟩ := HROW.out wr kk BW.out hlt
        have hle := take_flat_le l0 (kk + 1)
        rw [take_flat l0 kk hlt, List.length_append] at hle
        have hX := HX.out
        have hgd : l0.getD kk [] = l0[kk] := by simp [List.getD_eq_getElem?_getD, hlt]
        rw [hgd] at hx
        have hadd : wrap64 ((((l0.take kk).flatten.length : Nat) : Int) + ((l0[kk].length : Nat) : Int)) = (((l0.take (kk + 1)).flatten.length : Nat) : Int) := by
          rw [take_flat l0 kk hlt, List.length_append]
          unfold wrap64
          omega
        have hnn : ¬ ((((l0.take (kk + 1)).flatten.length : Nat) : Int) < 0) := by omega
        clear hle hX hgd hC
        obtain ⟨S, hS⟩ : ∃ S : Int, S = (((l0.take (kk + 1)).flatten.length : Nat) : Int) := ⟨_, rfl⟩
        obtain ⟨T, hT⟩ : ∃ T : Int, T = (((l0.take kk).flatten.length : Nat) : Int) := ⟨_, rfl⟩
        rw [← hS] at hnn
        rw [← hS, ← hT] at hadd
        rw [← hT]
        have HS := Aside0.mk hS
        clear hS hT
        go_wp2
        go_roundg (l0.length - (kk + 1))
        case measure => omega
        case rel => exact ⟨kk + 1, by omega, by omega, by go_num, by rw [HS.out], ⟨qe19_⟩⟩
      · have hltz : ¬ (kk : Int) < (l0.length : Int) := by omega
        have hk : kk = l0.length := by omega
        have hT : (((l0.take kk).flatten.length : Nat) : Int) = ((l0.flatten.length : Nat) : Int) := by rw [hk, List.take_length]
        rw [hT]
        have HG := Aside0.mk (fun W => growNil l0.flatten.length W (by have := HX.out; omega))
        clear hT hk
        generalize l0.flatten.length = T at HG
        go_wp2_with (go_at_call 159; refine (HG.out _).mono ?_; rintro e w1 ⟨v, rfl, hv, hb⟩; have HV := Aside0.mk (Kd.R_lower hv (below_size (qe19_))); have HB := Aside0.mk (below_step (qe19_) hb); clear hv hb)
        go_loopg [6, 27] l0.length (fun gg s6 s27 wr => ∃ kk : Nat, kk ≤ l0.length ∧ l0.length - kk ≤ gg ∧ s27 = .int .i64 kk ∧ Aside0 (Kd.R (Kd.int .u8) 5 wr w.heap.size (fun _ => True) s6 (l0.take kk).flatten) ∧ Aside0 (Below w.heap.size w wr))
        case atStart => exact ⟨0, Nat.zero_le _, by omega, rfl, ⟨by simpa using (by repeat (first | exact HV.out | (with_reducible apply Kd.R_drewN) | (with_reducible apply Kd.R_drew)))⟩, ⟨qe18_⟩⟩
        case round =>
          clear HB HV BW HG
          obtain ⟨kk, hkk, hg, rfl, HV, HB⟩ := hrel
          by_cases hlt : kk < l0.length
          · have hltz : (kk : Int) < (l0.length : Int) := by omega
            obtain ⟨ad, A, c, rfl, hx, hC⟩ := HROW.out wr kk HB.out hlt
            have hle := take_flat_le l0 (kk + 1)
            rw [take_flat l0 kk hlt, List.length_append] at hle
            have hgd : l0.getD kk [] = l0[kk] := by simp [List.getD_eq_getElem?_getD, hlt]
            rw [hgd] at hx hC
            have HC := Aside0.mk hC
            have HL : Aside0 ((l0.take kk).flatten.length + l0[kk].length < 140737488355328) := ⟨by have := HX.out; omega⟩
            have HE := Aside0.mk (take_flat l0 kk hlt)
            clear hgd hC hle
            generalize l0[kk] = y at hx HC HL HE
            generalize (l0.take kk).flatten = X at HV HL HE
            go_wp2_with ((with_reducible refine gate_builtin (b := .append) (xs := #[.tmp 31, .tmp 32]) rfl ?_); at_builtin; refine Kd.R_append_rows (Kd.int .u8) (w0 := w) w.heap.size rfl (.tmp 31) (.tmp 32) 22 5 (.int .u8 0) 1 rfl Try.underlying22 info5 rfl (by decide) (by omega) _ X y _ _ _ (fun _ => True) (fun _ => False) rfl rfl ?aO ?aR (fun _ _ h => h) (fun _ h => h.elim) ?aF ?aB ?aS ?aL ?_; (case aR => repeat (first | exact HC.out | (with_reducible refine Kd.C_drewN ?_ _) | (with_reducible refine Kd.C_drew ?_))); (case aB => repeat (first | exact HB.out | apply pw_below_drewN | apply below_drew1)); (case aF => exact (fun _ _ => trivial)); (case aO => repeat (first | exact HV.out | (with_reducible apply Kd.R_drewN) | (with_reducible apply Kd.R_drew))); (case aS => exact (below_size (qe18_))); (case aL => have := HL.out; omega); intro v159 w5 ho hb hg_ hat; rw [← HE.out] at ho; have HV2 := Aside0.mk ho; have HB2 := Aside0.mk hb; clear ho hb hg_ hat HV HB HC)
            go_roundg (l0.length - (kk + 1))
            case measure => omega
            case rel => exact ⟨kk + 1, by omega, by omega, by go_num, ⟨HV2.out⟩, ⟨HB2.out⟩⟩
          · have hltz : ¬ (kk : Int) < (l0.length : Int) := by omega
            have hk : kk = l0.length := by omega
            have hT : (l0.take kk).flatten = l0.flatten := by rw [hk, List.take_length]
            rw [hT] at HV
            clear hT hk
            go_wp2
            go_ret
            exact ⟨_, rfl, by repeat (first | exact HV.out | (with_reducible apply Kd.R_drewN) | (with_reducible apply Kd.R_drew)), qe18_⟩
  · rw [if_neg hb] at h
    exact absurd h (by simp)


/-! ### impl_CmdBytes: function 63 -/
def impl_CmdBytes.f (k : Nat) (a0_0 : Int) (a0_1 : Int) (a0_2 : Int) (a0_3 : Int) (a0_4 : Int) (a0_5 : Int) (a0_6 : ByteArray) (a0_7 : ByteArray) : Option (List Int) := (impl_CmdOk.f k a0_0 a0_1 a0_2 a0_3 a0_4 a0_5 a0_6 a0_7).bind fun t292 => (if t292 = true then ((impl_nums.f k (([wrap64 (a0_0 + 1), a0_1, a0_2, a0_3, a0_4, a0_5] : List Int))).bind fun t296 => ((impl_PutText.f k a0_6).bind fun t299 => ((impl_PutText.f k a0_7).bind fun t302 => ((slices_Concat_byte_byte.f (([t296, t299, t302] : List (List Int)))).bind fun t308 => (some t308))))) else (some ([] : List Int)))
theorem impl_CmdBytes.mono : ∀ a0 a1 a2 a3 a4 a5 a6 a7 k, LeO (impl_CmdBytes.f k a0 a1 a2 a3 a4 a5 a6 a7) (impl_CmdBytes.f (k + 1) a0 a1 a2 a3 a4 a5 a6 a7) := by
  intro a0 a1 a2 a3 a4 a5 a6 a7 k
  unfold impl_CmdBytes.f
  repeat' first
      | (with_reducible exact impl_CmdOk.mono _ _ _ _ _ _ _ _ _)
      | (with_reducible exact impl_PutText.mono _ _)
      | (with_reducible exact impl_nums.mono _ _)
      | (with_reducible exact LeO.refl _)
      | (with_reducible exact LeO.none _)
      | (with_reducible refine LeO.ite ?_ ?_)
      | (with_reducible refine LeO.bind ?_ (fun _ => ?_))
      | exact impl_CmdOk.mono _ _ _ _ _ _ _ _ _
      | exact impl_PutText.mono _ _
      | exact impl_nums.mono _ _
      | exact LeO.none _
      | refine LeO.ite ?_ ?_
      | refine LeO.bind ?_ (fun _ => ?_)
def impl_CmdBytes.T3 : Bool × List (List Nat × List Nat) := (true, [([], []), ([0], [0]), ([1], [1]), ([], []), ([3], [3]), ([], []), ([5], [5]), ([], []), ([7], [7]), ([], []), ([9], [9]), ([], []), ([11], [11]), ([2, 4, 6, 8, 10, 12], [2, 4, 6, 8, 10, 12]), ([13], [13]), ([], []), ([15], [15]), ([16, 14], [16]), ([], []), ([18], [18]), ([19, 17], [19]), ([14, 17, 20], [14, 17, 20]), ([21, 20], [21]), ([22, 22, 0, 1, 2, 3, 4, 5, 6, 7, 8, 9, 10, 11, 12, 13, 14, 15, 16, 17, 18, 19, 20, 21, 22], [22])])
def impl_CmdBytes.B3 : List Nat := [0, 1, 3, 0, 8, 0, 32, 0, 128, 0, 512, 0, 2048, 8191, 16383, 0, 32768, 131071, 0, 262144, 1048575, 2097151, 4194303, 8388607]
theorem impl_CmdBytes.tab3 : rtab .any (opsOf Try.f63 3) = impl_CmdBytes.T3 := by kernel_rfl
theorem impl_CmdBytes.bits3 : waitsOk impl_CmdBytes.T3.2 impl_CmdBytes.B3 = true := by kernel_rfl
set_option maxHeartbeats 8000000 in
set_option maxRecDepth 100000 in
theorem impl_CmdBytes.calls (k : Nat) (a0_0 : Int) (a0_1 : Int) (a0_2 : Int) (a0_3 : Int) (a0_4 : Int) (a0_5 : Int) (a0_6 : ByteArray) (a0_7 : ByteArray) (r : List Int) (w : World) (h : impl_CmdBytes.f k a0_0 a0_1 a0_2 a0_3 a0_4 a0_5 a0_6 a0_7 = some r) :
    Calls Try.prog 63 #[.agg #[.int .i64 a0_0, .int .i64 a0_1, .int .i64 a0_2, .int .i64 a0_3, .int .i64 a0_4, .int .i64 a0_5, .string a0_6, .string a0_7]] w fun e w' => ∃ v0_ : Value, e = .returned (v0_) ∧ Kd.R (Kd.int .u8) 5 w' w.heap.size (fun _ => True) v0_ r ∧ Below w.heap.size w w' := by
  have hu95 := Try.underlying95
  have HB := Aside0.mk (Below.refl w.heap.size w)
  have H : ((impl_CmdOk.f k a0_0 a0_1 a0_2 a0_3 a0_4 a0_5 a0_6 a0_7).bind fun t292 => (if t292 = true then ((impl_nums.f k (([wrap64 (a0_0 + 1), a0_1, a0_2, a0_3, a0_4, a0_5] : List Int))).bind fun t296 => ((impl_PutText.f k a0_6).bind fun t299 => ((impl_PutText.f k a0_7).bind fun t302 => ((slices_Concat_byte_byte.f (([t296, t299, t302] : List (List Int)))).bind fun t308 => (some t308))))) else (some ([] : List Int)))) = some r := h
  clear h
  replace H := Option.bind_eq_some_iff.mp H
  obtain ⟨t292, A20, H⟩ := H
  replace H : (if t292 = true then ((impl_nums.f k (([wrap64 (a0_0 + 1), a0_1, a0_2, a0_3, a0_4, a0_5] : List Int))).bind fun t296 => ((impl_PutText.f k a0_6).bind fun t299 => ((impl_PutText.f k a0_7).bind fun t302 => ((slices_Concat_byte_byte.f (([t296, t299, t302] : List (List Int)))).bind fun t308 => (some t308))))) else (some ([] : List Int))) = some r := H
  have A2 := Aside0.mk A20
  clear A20
  by_cases c3 : t292 = true
  · subst c3
    have H1 : ((impl_nums.f k (([wrap64 (a0_0 + 1), a0_1, a0_2, a0_3, a0_4, a0_5] : List Int))).bind fun t296 => ((impl_PutText.f k a0_6).bind fun t299 => ((impl_PutText.f k a0_7).bind fun t302 => ((slices_Concat_byte_byte.f (([t296, t299, t302] : List (List Int)))).bind fun t308 => (some t308))))) = some r := by rw [if_pos rfl] at H; exact H
    clear H
    have H := H1
    clear H1
    obtain ⟨y293, hy293⟩ : ∃ y_ : List Int, y_ = (([wrap64 (a0_0 + 1), a0_1, a0_2, a0_3, a0_4, a0_5] : List Int)) := ⟨_, rfl⟩
    replace H : ((impl_nums.f k y293).bind fun t296 => ((impl_PutText.f k a0_6).bind fun t299 => ((impl_PutText.f k a0_7).bind fun t302 => ((slices_Concat_byte_byte.f (([t296, t299, t302] : List (List Int)))).bind fun t308 => (some t308))))) = some r := by first | (rw [hy293]; with_reducible exact H) | (have H2_ := (Option.bind_some _ _).symm.trans H; rw [hy293]; with_reducible exact H2_) | (have H2_ := (Option.bind_some _ _).symm.trans H; with_reducible exact H2_) | with_reducible exact H | (rw [hy293]; exact H) | exact H
    have Ny293 := Aside0.mk hy293
    clear hy293
    replace H := Option.bind_eq_some_iff.mp H
    obtain ⟨t296, A40, H⟩ := H
    replace H : ((impl_PutText.f k a0_6).bind fun t299 => ((impl_PutText.f k a0_7).bind fun t302 => ((slices_Concat_byte_byte.f (([t296, t299, t302] : List (List Int)))).bind fun t308 => (some t308)))) = some r := H
    have A4 := Aside0.mk A40
    clear A40
    replace H := Option.bind_eq_some_iff.mp H
    obtain ⟨t299, A50, H⟩ := H
    replace H : ((impl_PutText.f k a0_7).bind fun t302 => ((slices_Concat_byte_byte.f (([t296, t299, t302] : List (List Int)))).bind fun t308 => (some t308))) = some r := H
    have A5 := Aside0.mk A50
    clear A50
    replace H := Option.bind_eq_some_iff.mp H
    obtain ⟨t302, A60, H⟩ := H
    replace H : ((slices_Concat_byte_byte.f (([t296, t299, t302] : List (List Int)))).bind fun t308 => (some t308)) = some r := H
    have A6 := Aside0.mk A60
    clear A60
    obtain ⟨y305, hy305⟩ : ∃ y_ : List (List Int), y_ = (([t296, t299, t302] : List (List Int))) := ⟨_, rfl⟩
    replace H : ((slices_Concat_byte_byte.f y305).bind fun t308 => (some t308)) = some r := by first | (rw [hy305]; with_reducible exact H) | (have H2_ := (Option.bind_some _ _).symm.trans H; rw [hy305]; with_reducible exact H2_) | (have H2_ := (Option.bind_some _ _).symm.trans H; with_reducible exact H2_) | with_reducible exact H | (rw [hy305]; exact H) | exact H
    have Ny305 := Aside0.mk hy305
    clear hy305
    replace H := Option.bind_eq_some_iff.mp H
    obtain ⟨t308, A70, H⟩ := H
    replace H : (some t308) = some r := H
    have A7 := Aside0.mk A70
    clear A70
    obtain rfl := Option.some.inj H
    go_enter Try.func63, Try.ntmps63
    try go_wp2_with (first | ((with_reducible refine gate_dst (N := 1) rfl ?_); refine box_event ?hg (N := 1) ?hd (cs := #[.int .i64 a0_0, .int .i64 a0_1, .int .i64 a0_2, .int .i64 a0_3, .int .i64 a0_4, .int .i64 a0_5, .string a0_6, .string a0_7]) (t := 95) ?hr ?_; (case hd => rfl); (case hg => rfl); (case hr => first | (go_simp; done) | (go_simp; rfl)); intro gb291 hg w8 hbox hb; have n0_ := Aside0.mk (below_step (qe7_) hb); have n1_ := Aside0.mk (hbox); have n2_ := Aside0.mk ((by rw [hg]; exact (below_size (qe7_)) : w.heap.size ≤ gb291)); have n3_ := Aside0.mk ((by rw [hg]; exact (below_size (qe7_)) : w.heap.size ≤ gb291)); clear HB; have HB := n0_; have BK291 := n1_; have GW291 := n2_; have GE291 := n3_; clear n0_ n1_ n2_ n3_; clear hb hbox hg; have hcz9_0 : w8.cell? ⟨gb291, 0, none⟩ = some (.int .i64 a0_0) := bc_ BK291 0; have hcz9_1 : w8.cell? ⟨gb291, 1, none⟩ = some (.int .i64 a0_1) := bc_ BK291 1; have hcz9_2 : w8.cell? ⟨gb291, 2, none⟩ = some (.int .i64 a0_2) := bc_ BK291 2; have hcz9_3 : w8.cell? ⟨gb291, 3, none⟩ = some (.int .i64 a0_3) := bc_ BK291 3; have hcz9_4 : w8.cell? ⟨gb291, 4, none⟩ = some (.int .i64 a0_4) := bc_ BK291 4; have hcz9_5 : w8.cell? ⟨gb291, 5, none⟩ = some (.int .i64 a0_5) := bc_ BK291 5; have hcz9_6 : w8.cell? ⟨gb291, 6, none⟩ = some (.string a0_6) := bc_ BK291 6; have hcz9_7 : w8.cell? ⟨gb291, 7, none⟩ = some (.string a0_7) := bc_ BK291 7; have hfz9_0 := blk_frozen BK291.out 0; have hfz9_1 := blk_frozen BK291.out 1; have hfz9_2 := blk_frozen BK291.out 2; have hfz9_3 := blk_frozen BK291.out 3; have hfz9_4 := blk_frozen BK291.out 4; have hfz9_5 := blk_frozen BK291.out 5; have hfz9_6 := blk_frozen BK291.out 6; have hfz9_7 := blk_frozen BK291.out 7) | ((with_reducible refine gate_callee (f := 68) rfl ?_); refine goesL_ (some 4) rfl rfl Try.func68 (by kernel_rfl) rfl #[.agg #[.int .i64 a0_0, .int .i64 a0_1, .int .i64 a0_2, .int .i64 a0_3, .int .i64 a0_4, .int .i64 a0_5, .string a0_6, .string a0_7]] rfl (qe5_) ?_; (with_reducible refine (impl_CmdOk.calls k a0_0 a0_1 a0_2 a0_3 a0_4 a0_5 a0_6 a0_7 true _ A2.out).mono ?_); rintro e w10 ⟨rfl, hb⟩; refine ⟨_, rfl, ?_⟩; have n0_ := Aside0.mk (blk_below (g := gb291) (o := .cells #[.int .i64 a0_0, .int .i64 a0_1, .int .i64 a0_2, .int .i64 a0_3, .int .i64 a0_4, .int .i64 a0_5, .string a0_6, .string a0_7] 95 (0, 0)) (bq_ BK291.out) hb); have n1_ := Aside0.mk (below_step (qe2_) hb); clear BK291; clear HB; have BK291 := n0_; have HB := n1_; clear n0_ n1_; (try clear hb); (try clear hb2); (try clear hk); (try clear hi)))
    have n0_ := Aside0.mk (blk_drew BK291.out)
    have n1_ := Aside0.mk (below_drew1 HB.out)
    clear BK291
    clear HB
    have BK291 := n0_
    have HB := n1_
    clear n0_ n1_
    refine start_ (n := 24) (S := fun w' => w'.cell? ⟨gb291, 0, none⟩ = some (.int .i64 a0_0) ∧ w'.cell? ⟨gb291, 1, none⟩ = some (.int .i64 a0_1) ∧ w'.cell? ⟨gb291, 2, none⟩ = some (.int .i64 a0_2) ∧ w'.cell? ⟨gb291, 3, none⟩ = some (.int .i64 a0_3) ∧ w'.cell? ⟨gb291, 4, none⟩ = some (.int .i64 a0_4) ∧ w'.cell? ⟨gb291, 5, none⟩ = some (.int .i64 a0_5) ∧ w'.cell? ⟨gb291, 6, none⟩ = some (.string a0_6) ∧ w'.cell? ⟨gb291, 7, none⟩ = some (.string a0_7)) (ds := []) #[false, false, false, false, false, false, false, false, false, false, false, false, false, false, false, false, false, false, false, false, false, false, false, false] (by kernel_rfl) rfl rfl ⟨bc_ BK291 0, bc_ BK291 1, bc_ BK291 2, bc_ BK291 3, bc_ BK291 4, bc_ BK291 5, bc_ BK291 6, bc_ BK291 7⟩ (fun hHeld => ?_); refine with_tabW impl_CmdBytes.tab3 impl_CmdBytes.bits3 (fun HT_ HW_ => ?_)
    generalize w10.drew = w11 at BK291 HB hHeld ⊢
    refine pure_ (i := 0) (N := some 6) (v := ?_) (a' := ?_) #[true, false, false, false, false, false, false, false, false, false, false, false, false, false, false, false, false, false, false, false, false, false, false, false] rfl rfl (any_of HT_.out (by kernel_rfl)) (fun _ _ _ h => h) (Or.inl ⟨by rfl, ?_⟩) ?_ ?_
    rotate_left
    · intro w'
      go_simp
      with_reducible rfl
    rotate_left
    · simp only [Act.put, List.setIfInBounds_toArray, List.set_cons_zero, List.set_cons_succ, i64_w, i32_w]
      rfl
    refine pure_ (i := 3) (N := some 9) (v := ?_) (a' := ?_) #[true, false, false, true, false, false, false, false, false, false, false, false, false, false, false, false, false, false, false, false, false, false, false, false] rfl rfl (any_of HT_.out (by kernel_rfl)) (fun _ _ _ h => h) (Or.inl ⟨by rfl, ?_⟩) ?_ ?_
    rotate_left
    · intro w'
      go_simp
      with_reducible rfl
    rotate_left
    · simp only [Act.put, List.setIfInBounds_toArray, List.set_cons_zero, List.set_cons_succ, i64_w, i32_w]
      rfl
    refine pure_ (i := 5) (N := some 11) (v := ?_) (a' := ?_) #[true, false, false, true, false, true, false, false, false, false, false, false, false, false, false, false, false, false, false, false, false, false, false, false] rfl rfl (any_of HT_.out (by kernel_rfl)) (fun _ _ _ h => h) (Or.inl ⟨by rfl, ?_⟩) ?_ ?_
    rotate_left
    · intro w'
      go_simp
      with_reducible rfl
    rotate_left
    · simp only [Act.put, List.setIfInBounds_toArray, List.set_cons_zero, List.set_cons_succ, i64_w, i32_w]
      rfl
    refine pure_ (i := 7) (N := some 13) (v := ?_) (a' := ?_) #[true, false, false, true, false, true, false, true, false, false, false, false, false, false, false, false, false, false, false, false, false, false, false, false] rfl rfl (any_of HT_.out (by kernel_rfl)) (fun _ _ _ h => h) (Or.inl ⟨by rfl, ?_⟩) ?_ ?_
    rotate_left
    · intro w'
      go_simp
      with_reducible rfl
    rotate_left
    · simp only [Act.put, List.setIfInBounds_toArray, List.set_cons_zero, List.set_cons_succ, i64_w, i32_w]
      rfl
    refine pure_ (i := 9) (N := some 15) (v := ?_) (a' := ?_) #[true, false, false, true, false, true, false, true, false, true, false, false, false, false, false, false, false, false, false, false, false, false, false, false] rfl rfl (any_of HT_.out (by kernel_rfl)) (fun _ _ _ h => h) (Or.inl ⟨by rfl, ?_⟩) ?_ ?_
    rotate_left
    · intro w'
      go_simp
      with_reducible rfl
    rotate_left
    · simp only [Act.put, List.setIfInBounds_toArray, List.set_cons_zero, List.set_cons_succ, i64_w, i32_w]
      rfl
    refine pure_ (i := 11) (N := some 17) (v := ?_) (a' := ?_) #[true, false, false, true, false, true, false, true, false, true, false, true, false, false, false, false, false, false, false, false, false, false, false, false] rfl rfl (any_of HT_.out (by kernel_rfl)) (fun _ _ _ h => h) (Or.inl ⟨by rfl, ?_⟩) ?_ ?_
    rotate_left
    · intro w'
      go_simp
      with_reducible rfl
    rotate_left
    · simp only [Act.put, List.setIfInBounds_toArray, List.set_cons_zero, List.set_cons_succ, i64_w, i32_w]
      rfl
    refine pure_ (i := 15) (N := some 21) (v := ?_) (a' := ?_) #[true, false, false, true, false, true, false, true, false, true, false, true, false, false, false, true, false, false, false, false, false, false, false, false] rfl rfl (any_of HT_.out (by kernel_rfl)) (fun _ _ _ h => h) (Or.inl ⟨by rfl, ?_⟩) ?_ ?_
    rotate_left
    · intro w'
      go_simp
      with_reducible rfl
    rotate_left
    · simp only [Act.put, List.setIfInBounds_toArray, List.set_cons_zero, List.set_cons_succ, i64_w, i32_w]
      rfl
    refine pure_ (i := 18) (N := some 24) (v := ?_) (a' := ?_) #[true, false, false, true, false, true, false, true, false, true, false, true, false, false, false, true, false, false, true, false, false, false, false, false] rfl rfl (any_of HT_.out (by kernel_rfl)) (fun _ _ _ h => h) (Or.inl ⟨by rfl, ?_⟩) ?_ ?_
    rotate_left
    · intro w'
      go_simp
      with_reducible rfl
    rotate_left
    · simp only [Act.put, List.setIfInBounds_toArray, List.set_cons_zero, List.set_cons_succ, i64_w, i32_w]
      rfl
    refine take_ (i := 1) (N := some 7) (v := ?_) (a' := ?_) #[true, true, false, true, false, true, false, true, false, true, false, true, false, false, false, true, false, false, true, false, false, false, false, false] rfl rfl (take_ofW HT_.out HW_.out (by kernel_rfl)) (fun _ _ _ h => h) (Or.inl ⟨by rfl, ?_⟩) hHeld ?_ ?_
    rotate_left
    · rintro w' ⟨s0, s1, s2, s3, s4, s5, s6, s7⟩
      go_simp
      with_reducible rfl
    rotate_left
    · simp only [Act.put, List.setIfInBounds_toArray, List.set_cons_zero, List.set_cons_succ, i64_w, i32_w]
      rfl
    refine pure_ (i := 2) (N := some 8) (v := ?_) (a' := ?_) #[true, true, true, true, false, true, false, true, false, true, false, true, false, false, false, true, false, false, true, false, false, false, false, false] rfl rfl (any_of HT_.out (by kernel_rfl)) (fun _ _ _ h => h) (Or.inl ⟨by rfl, ?_⟩) ?_ ?_
    rotate_left
    · intro w'
      go_simp
      with_reducible rfl
    rotate_left
    · simp only [Act.put, List.setIfInBounds_toArray, List.set_cons_zero, List.set_cons_succ, i64_w, i32_w]
      rfl
    refine take_ (i := 4) (N := some 10) (v := ?_) (a' := ?_) #[true, true, true, true, true, true, false, true, false, true, false, true, false, false, false, true, false, false, true, false, false, false, false, false] rfl rfl (take_ofW HT_.out HW_.out (by kernel_rfl)) (fun _ _ _ h => h) (Or.inl ⟨by rfl, ?_⟩) hHeld ?_ ?_
    rotate_left
    · rintro w' ⟨s0, s1, s2, s3, s4, s5, s6, s7⟩
      go_simp
      with_reducible rfl
    rotate_left
    · simp only [Act.put, List.setIfInBounds_toArray, List.set_cons_zero, List.set_cons_succ, i64_w, i32_w]
      rfl
    refine take_ (i := 6) (N := some 12) (v := ?_) (a' := ?_) #[true, true, true, true, true, true, true, true, false, true, false, true, false, false, false, true, false, false, true, false, false, false, false, false] rfl rfl (take_ofW HT_.out HW_.out (by kernel_rfl)) (fun _ _ _ h => h) (Or.inl ⟨by rfl, ?_⟩) hHeld ?_ ?_
    rotate_left
    · rintro w' ⟨s0, s1, s2, s3, s4, s5, s6, s7⟩
      go_simp
      with_reducible rfl
    rotate_left
    · simp only [Act.put, List.setIfInBounds_toArray, List.set_cons_zero, List.set_cons_succ, i64_w, i32_w]
      rfl
    refine take_ (i := 8) (N := some 14) (v := ?_) (a' := ?_) #[true, true, true, true, true, true, true, true, true, true, false, true, false, false, false, true, false, false, true, false, false, false, false, false] rfl rfl (take_ofW HT_.out HW_.out (by kernel_rfl)) (fun _ _ _ h => h) (Or.inl ⟨by rfl, ?_⟩) hHeld ?_ ?_
    rotate_left
    · rintro w' ⟨s0, s1, s2, s3, s4, s5, s6, s7⟩
      go_simp
      with_reducible rfl
    rotate_left
    · simp only [Act.put, List.setIfInBounds_toArray, List.set_cons_zero, List.set_cons_succ, i64_w, i32_w]
      rfl
    refine take_ (i := 10) (N := some 16) (v := ?_) (a' := ?_) #[true, true, true, true, true, true, true, true, true, true, true, true, false, false, false, true, false, false, true, false, false, false, false, false] rfl rfl (take_ofW HT_.out HW_.out (by kernel_rfl)) (fun _ _ _ h => h) (Or.inl ⟨by rfl, ?_⟩) hHeld ?_ ?_
    rotate_left
    · rintro w' ⟨s0, s1, s2, s3, s4, s5, s6, s7⟩
      go_simp
      with_reducible rfl
    rotate_left
    · simp only [Act.put, List.setIfInBounds_toArray, List.set_cons_zero, List.set_cons_succ, i64_w, i32_w]
      rfl
    refine take_ (i := 12) (N := some 18) (v := ?_) (a' := ?_) #[true, true, true, true, true, true, true, true, true, true, true, true, true, false, false, true, false, false, true, false, false, false, false, false] rfl rfl (take_ofW HT_.out HW_.out (by kernel_rfl)) (fun _ _ _ h => h) (Or.inl ⟨by rfl, ?_⟩) hHeld ?_ ?_
    rotate_left
    · rintro w' ⟨s0, s1, s2, s3, s4, s5, s6, s7⟩
      go_simp
      with_reducible rfl
    rotate_left
    · simp only [Act.put, List.setIfInBounds_toArray, List.set_cons_zero, List.set_cons_succ, i64_w, i32_w]
      rfl
    refine take_ (i := 16) (N := some 22) (v := ?_) (a' := ?_) #[true, true, true, true, true, true, true, true, true, true, true, true, true, false, false, true, true, false, true, false, false, false, false, false] rfl rfl (take_ofW HT_.out HW_.out (by kernel_rfl)) (fun _ _ _ h => h) (Or.inl ⟨by rfl, ?_⟩) hHeld ?_ ?_
    rotate_left
    · rintro w' ⟨s0, s1, s2, s3, s4, s5, s6, s7⟩
      go_simp
      with_reducible rfl
    rotate_left
    · simp only [Act.put, List.setIfInBounds_toArray, List.set_cons_zero, List.set_cons_succ, i64_w, i32_w]
      rfl
    refine take_ (i := 19) (N := some 25) (v := ?_) (a' := ?_) #[true, true, true, true, true, true, true, true, true, true, true, true, true, false, false, true, true, false, true, true, false, false, false, false] rfl rfl (take_ofW HT_.out HW_.out (by kernel_rfl)) (fun _ _ _ h => h) (Or.inl ⟨by rfl, ?_⟩) hHeld ?_ ?_
    rotate_left
    · rintro w' ⟨s0, s1, s2, s3, s4, s5, s6, s7⟩
      go_simp
      with_reducible rfl
    rotate_left
    · simp only [Act.put, List.setIfInBounds_toArray, List.set_cons_zero, List.set_cons_succ, i64_w, i32_w]
      rfl
    refine on_ 13 19 HT_ #[true, true, true, true, true, true, true, true, true, true, true, true, true, true, false, true, true, false, true, true, false, false, false, false] rfl rfl (fun K hK => ?_)
    refine Kd.R_lit_step (Kd.int .i64) _ 3 ?hg (N := 19) ?hd (xs := ([wrap64 (a0_0 + 1), a0_1, a0_2, a0_3, a0_4, a0_5] : List Int)) (inner := [.int .i64 (wrap64 (a0_0 + 1)), .int .i64 a0_1, .int .i64 a0_2, .int .i64 a0_3, .int .i64 a0_4, .int .i64 a0_5]) (ok := fun _ => True) (okp := fun _ => True) ?hr ?hp (fun _ hk => hk) trivial (Below.refl _ _) (Nat.le_refl _) (by simp) ?_; (case hd => rfl); (case hg => rfl); (case hr => first | (go_simp; done) | (go_simp; rfl)); (case hp => exact (Reps.one (show Kd.M (Kd.int .i64) _ _ _ (wrap64 (a0_0 + 1)) [.int .i64 (wrap64 (a0_0 + 1))] from rfl) (Reps.one (show Kd.M (Kd.int .i64) _ _ _ a0_1 [.int .i64 a0_1] from rfl) (Reps.one (show Kd.M (Kd.int .i64) _ _ _ a0_2 [.int .i64 a0_2] from rfl) (Reps.one (show Kd.M (Kd.int .i64) _ _ _ a0_3 [.int .i64 a0_3] from rfl) (Reps.one (show Kd.M (Kd.int .i64) _ _ _ a0_4 [.int .i64 a0_4] from rfl) (Reps.one (show Kd.M (Kd.int .i64) _ _ _ a0_5 [.int .i64 a0_5] from rfl) (Reps.none _ _))))))))
    intro v294 w12 ho13 hb hg_ hnew_
    clear hg_ hnew_
    (first | rw [← Ny293.out] at ho13 | (simp only [Int.reduceToNat] at ho13; rw [← Ny293.out] at ho13))
    have n0_ := Aside0.mk (Kd.R_lower ho13 (below_size (qe2_)))
    have n1_ := Aside0.mk (blk_below (g := gb291) (o := .cells #[.int .i64 a0_0, .int .i64 a0_1, .int .i64 a0_2, .int .i64 a0_3, .int .i64 a0_4, .int .i64 a0_5, .string a0_6, .string a0_7] 95 (0, 0)) (bq_ BK291.out) hb)
    have n2_ := Aside0.mk (below_step (qe2_) hb)
    clear BK291
    clear HB
    have HO295 := n0_
    have BK291 := n1_
    have HB := n2_
    clear n0_ n1_ n2_
    clear hb ho13
    obtain ⟨Ao14, co14, eo14⟩ := Kd.R_slice HO295.out
    (first | subst eo14 | (injection eo14 with f1_ f2_ f3_; have f4_ := f1_.symm; have f5_ := f3_.symm; clear f1_ f2_ f3_; subst f4_; subst f5_))
    refine hK.out _ _ ⟨bc_ BK291 0, bc_ BK291 1, bc_ BK291 2, bc_ BK291 3, bc_ BK291 4, bc_ BK291 5, bc_ BK291 6, bc_ BK291 7⟩ (fun hHeld => ?_)
    clear hK K
    refine norm_ (a' := ?_) ?_ ?_
    rotate_left
    · show Act.put _ (some 19) _ = _
      simp only [Act.put, List.setIfInBounds_toArray, List.set_cons_zero, List.set_cons_succ, i64_w, i32_w]
      rfl
    refine on_ 14 20 HT_ #[true, true, true, true, true, true, true, true, true, true, true, true, true, true, true, true, true, false, true, true, false, false, false, false] rfl rfl (fun K hK => ?_)
    refine goes_ Try.func119 (by kernel_rfl) rfl #[.slice Ao14 y293.length co14] (by rfl) rfl rfl (qe5_) ?_
    with_reducible refine (impl_nums.calls k _ _ y293 t296 _ ?side1 ?side2 A4.out).mono ?_
    (case side1 => repeat (first | exact (Kd.R_reads' HO295.out).2.2 | (with_reducible refine Kd.C_alloc ?_ _) | (with_reducible refine Kd.C_drewN ?_ _) | (with_reducible refine Kd.C_drew ?_)))
    (case side2 => exact (Kd.R_reads' HO295.out).2.1)
    rintro e w15 ⟨v297, rfl, ho0, hb⟩
    refine ⟨_, rfl, ?_⟩
    have n0_ := Aside0.mk (Kd.R_below (qe9_) hb)
    have n1_ := Aside0.mk (Kd.R_lower ho0 (below_size (qe2_)))
    have n2_ := Aside0.mk (blk_below (g := gb291) (o := .cells #[.int .i64 a0_0, .int .i64 a0_1, .int .i64 a0_2, .int .i64 a0_3, .int .i64 a0_4, .int .i64 a0_5, .string a0_6, .string a0_7] 95 (0, 0)) (bq_ BK291.out) hb)
    have n3_ := Aside0.mk (below_step (qe2_) hb)
    clear HO295
    clear BK291
    clear HB
    have HO295 := n0_
    have HO298 := n1_
    have BK291 := n2_
    have HB := n3_
    clear n0_ n1_ n2_ n3_
    (try clear hb)
    (try clear hb2)
    (try clear hk)
    (try clear hi)
    (try clear ho0)
    refine hK.out _ _ ⟨bc_ BK291 0, bc_ BK291 1, bc_ BK291 2, bc_ BK291 3, bc_ BK291 4, bc_ BK291 5, bc_ BK291 6, bc_ BK291 7⟩ (fun hHeld => ?_)
    clear hK K
    refine norm_ (a' := ?_) ?_ ?_
    rotate_left
    · show Act.put _ (some 20) _ = _
      simp only [Act.put, List.setIfInBounds_toArray, List.set_cons_zero, List.set_cons_succ, i64_w, i32_w]
      rfl
    refine on_ 17 23 HT_ #[true, true, true, true, true, true, true, true, true, true, true, true, true, true, true, true, true, true, true, true, false, false, false, false] rfl rfl (fun K hK => ?_)
    refine goes_ Try.func120 (by kernel_rfl) rfl #[.string a0_6] (by rfl) rfl rfl (qe5_) ?_
    with_reducible refine (impl_PutText.calls k a0_6 t299 _ A5.out).mono ?_
    rintro e w16 ⟨v300, rfl, ho0, hb⟩
    refine ⟨_, rfl, ?_⟩
    have n0_ := Aside0.mk (Kd.R_below (qe9_) hb)
    have n1_ := Aside0.mk (Kd.R_elder' (qe16_) (Kd.R_base ho0) hb)
    have n2_ := Aside0.mk (Kd.R_lower (Kd.R_new' ho0 (Kd.R_lt (qe16_))) (below_size (qe2_)))
    have n3_ := Aside0.mk (blk_below (g := gb291) (o := .cells #[.int .i64 a0_0, .int .i64 a0_1, .int .i64 a0_2, .int .i64 a0_3, .int .i64 a0_4, .int .i64 a0_5, .string a0_6, .string a0_7] 95 (0, 0)) (bq_ BK291.out) hb)
    have n4_ := Aside0.mk (below_step (qe2_) hb)
    clear HO295
    clear HO298
    clear BK291
    clear HB
    have HO295 := n0_
    have HO298 := n1_
    have HO301 := n2_
    have BK291 := n3_
    have HB := n4_
    clear n0_ n1_ n2_ n3_ n4_
    (try clear hb)
    (try clear hb2)
    (try clear hk)
    (try clear hi)
    (try clear ho0)
    refine hK.out _ _ ⟨bc_ BK291 0, bc_ BK291 1, bc_ BK291 2, bc_ BK291 3, bc_ BK291 4, bc_ BK291 5, bc_ BK291 6, bc_ BK291 7⟩ (fun hHeld => ?_)
    clear hK K
    refine norm_ (a' := ?_) ?_ ?_
    rotate_left
    · show Act.put _ (some 23) _ = _
      simp only [Act.put, List.setIfInBounds_toArray, List.set_cons_zero, List.set_cons_succ, i64_w, i32_w]
      rfl
    refine on_ 20 26 HT_ #[true, true, true, true, true, true, true, true, true, true, true, true, true, true, true, true, true, true, true, true, true, false, false, false] rfl rfl (fun K hK => ?_)
    refine goes_ Try.func120 (by kernel_rfl) rfl #[.string a0_7] (by rfl) rfl rfl (qe5_) ?_
    with_reducible refine (impl_PutText.calls k a0_7 t302 _ A6.out).mono ?_
    rintro e w17 ⟨v303, rfl, ho0, hb⟩
    refine ⟨_, rfl, ?_⟩
    have n0_ := Aside0.mk (Kd.R_below (qe9_) hb)
    have n1_ := Aside0.mk (Kd.R_elder' (qe16_) (Kd.R_base ho0) hb)
    have n2_ := Aside0.mk (Kd.R_elder' (by (with_reducible repeat (first | apply Kd.R_alloc | apply Kd.R_drewN | apply Kd.R_drew)); exact HO301.out) (Kd.R_base ho0) hb)
    have n3_ := Aside0.mk (Kd.R_lower (Kd.R_new' (Kd.R_new' ho0 (Kd.R_lt (qe16_))) (Kd.R_lt (by (with_reducible repeat (first | apply Kd.R_alloc | apply Kd.R_drewN | apply Kd.R_drew)); exact HO301.out))) (below_size (qe2_)))
    have n4_ := Aside0.mk (blk_below (g := gb291) (o := .cells #[.int .i64 a0_0, .int .i64 a0_1, .int .i64 a0_2, .int .i64 a0_3, .int .i64 a0_4, .int .i64 a0_5, .string a0_6, .string a0_7] 95 (0, 0)) (bq_ BK291.out) hb)
    have n5_ := Aside0.mk (below_step (qe2_) hb)
    clear HO295
    clear HO298
    clear HO301
    clear BK291
    clear HB
    have HO295 := n0_
    have HO298 := n1_
    have HO301 := n2_
    have HO304 := n3_
    have BK291 := n4_
    have HB := n5_
    clear n0_ n1_ n2_ n3_ n4_ n5_
    (try clear hb)
    (try clear hb2)
    (try clear hk)
    (try clear hi)
    (try clear ho0)
    obtain ⟨Ao18, co18, eo18⟩ := Kd.R_slice HO298.out
    (first | subst eo18 | (injection eo18 with f1_ f2_ f3_; have f4_ := f1_.symm; have f5_ := f3_.symm; clear f1_ f2_ f3_; subst f4_; subst f5_))
    obtain ⟨Ao19, co19, eo19⟩ := Kd.R_slice HO301.out
    (first | subst eo19 | (injection eo19 with f1_ f2_ f3_; have f4_ := f1_.symm; have f5_ := f3_.symm; clear f1_ f2_ f3_; subst f4_; subst f5_))
    obtain ⟨Ao20, co20, eo20⟩ := Kd.R_slice HO304.out
    (first | subst eo20 | (injection eo20 with f1_ f2_ f3_; have f4_ := f1_.symm; have f5_ := f3_.symm; clear f1_ f2_ f3_; subst f4_; subst f5_))
    refine hK.out _ _ ⟨bc_ BK291 0, bc_ BK291 1, bc_ BK291 2, bc_ BK291 3, bc_ BK291 4, bc_ BK291 5, bc_ BK291 6, bc_ BK291 7⟩ (fun hHeld => ?_)
    clear hK K
    refine norm_ (a' := ?_) ?_ ?_
    rotate_left
    · show Act.put _ (some 26) _ = _
      simp only [Act.put, List.setIfInBounds_toArray, List.set_cons_zero, List.set_cons_succ, i64_w, i32_w]
      rfl
    refine on_ 21 27 HT_ #[true, true, true, true, true, true, true, true, true, true, true, true, true, true, true, true, true, true, true, true, true, true, false, false] rfl rfl (fun K hK => ?_)
    refine Kd.N_lit_step (Kd.slice 5 (Kd.int .u8)) _ 22 ?hg (N' := 27) ?hd (xs := ([t296, t299, t302] : List (List Int))) (inner := [.slice Ao18 t296.length co18, .slice Ao19 t299.length co19, .slice Ao20 t302.length co20]) (ok := (fun k_ => some k_ ≠ (.slice Ao14 y293.length co14 : Value).ownBlock ∧ k_ ≠ gb291)) (okp := (fun k_ => some k_ ≠ (.slice Ao14 y293.length co14 : Value).ownBlock ∧ k_ ≠ gb291)) ?hr ?hp (fun _ hk => hk) ((show ∀ k_, w17.heap.size ≤ k_ → (fun k_ => some k_ ≠ (.slice Ao14 y293.length co14 : Value).ownBlock ∧ k_ ≠ gb291) k_ from fun k_ hk => ⟨Kd.fresh' (Kd.R_lt (qe9_)) k_ hk, Kd.freshB (g := gb291) (o := .cells #[.int .i64 a0_0, .int .i64 a0_1, .int .i64 a0_2, .int .i64 a0_3, .int .i64 a0_4, .int .i64 a0_5, .string a0_6, .string a0_7] 95 (0, 0)) (bq_ BK291.out) k_ hk⟩) _ (Nat.le_refl _)) (Below.refl _ _) (Nat.le_refl _) (by simp) ?_; (case hd => rfl); (case hg => rfl); (case hr => first | (go_simp; done) | (go_simp; rfl)); (case hp => exact (Reps.one (show Kd.FK (Kd.slice 5 (Kd.int .u8)) _ _ t296 [.slice Ao18 t296.length co18] from (Kd.FK_slice_mk (Kd.R_reads' (Kd.R_mono (ok' := (fun k_ => some k_ ≠ (.slice Ao14 y293.length co14 : Value).ownBlock ∧ k_ ≠ gb291)) (Kd.R_types (Kd.R_apart' (HO298.out) (Kd.R_typed HO295.out) (by decide)) BK291.out (by decide)) (fun k_ hk => ⟨hk.1.2, hk.2⟩))).2.1 (Kd.R_F (Kd.R_mono (ok' := (fun k_ => some k_ ≠ (.slice Ao14 y293.length co14 : Value).ownBlock ∧ k_ ≠ gb291)) (Kd.R_types (Kd.R_apart' (HO298.out) (Kd.R_typed HO295.out) (by decide)) BK291.out (by decide)) (fun k_ hk => ⟨hk.1.2, hk.2⟩))))) (Reps.one (show Kd.FK (Kd.slice 5 (Kd.int .u8)) _ _ t299 [.slice Ao19 t299.length co19] from (Kd.FK_slice_mk (Kd.R_reads' (Kd.R_mono (ok' := (fun k_ => some k_ ≠ (.slice Ao14 y293.length co14 : Value).ownBlock ∧ k_ ≠ gb291)) (Kd.R_types (Kd.R_apart' (HO301.out) (Kd.R_typed HO295.out) (by decide)) BK291.out (by decide)) (fun k_ hk => ⟨hk.1.2, hk.2⟩))).2.1 (Kd.R_F (Kd.R_mono (ok' := (fun k_ => some k_ ≠ (.slice Ao14 y293.length co14 : Value).ownBlock ∧ k_ ≠ gb291)) (Kd.R_types (Kd.R_apart' (HO301.out) (Kd.R_typed HO295.out) (by decide)) BK291.out (by decide)) (fun k_ hk => ⟨hk.1.2, hk.2⟩))))) (Reps.one (show Kd.FK (Kd.slice 5 (Kd.int .u8)) _ _ t302 [.slice Ao20 t302.length co20] from (Kd.FK_slice_mk (Kd.R_reads' (Kd.R_mono (ok' := (fun k_ => some k_ ≠ (.slice Ao14 y293.length co14 : Value).ownBlock ∧ k_ ≠ gb291)) (Kd.R_types (Kd.R_apart' (HO304.out) (Kd.R_typed HO295.out) (by decide)) BK291.out (by decide)) (fun k_ hk => ⟨hk.1.2, hk.2⟩))).2.1 (Kd.R_F (Kd.R_mono (ok' := (fun k_ => some k_ ≠ (.slice Ao14 y293.length co14 : Value).ownBlock ∧ k_ ≠ gb291)) (Kd.R_types (Kd.R_apart' (HO304.out) (Kd.R_typed HO295.out) (by decide)) BK291.out (by decide)) (fun k_ hk => ⟨hk.1.2, hk.2⟩))))) (Reps.none _ _)))))
    intro v306 w21 ho22 hb hg_ hnew_
    clear hg_ hnew_
    (first | rw [← Ny305.out] at ho22 | (simp only [Int.reduceToNat] at ho22; rw [← Ny305.out] at ho22))
    have n0_ := Aside0.mk (Kd.R_below (qe9_) hb)
    have n1_ := Aside0.mk (Kd.N_lower ho22 (below_size (qe2_)))
    have n2_ := Aside0.mk (blk_below (g := gb291) (o := .cells #[.int .i64 a0_0, .int .i64 a0_1, .int .i64 a0_2, .int .i64 a0_3, .int .i64 a0_4, .int .i64 a0_5, .string a0_6, .string a0_7] 95 (0, 0)) (bq_ BK291.out) hb)
    have n3_ := Aside0.mk (below_step (qe2_) hb)
    clear HO295
    clear BK291
    clear HB
    clear HO298
    clear HO301
    clear HO304
    have HO295 := n0_
    have HO307 := n1_
    have BK291 := n2_
    have HB := n3_
    clear n0_ n1_ n2_ n3_
    clear hb ho22
    obtain ⟨Ao23, co23, eo23⟩ := Kd.N_slice HO307.out
    (first | subst eo23 | (injection eo23 with f1_ f2_ f3_; have f4_ := f1_.symm; have f5_ := f3_.symm; clear f1_ f2_ f3_; subst f4_; subst f5_))
    refine hK.out _ _ ⟨bc_ BK291 0, bc_ BK291 1, bc_ BK291 2, bc_ BK291 3, bc_ BK291 4, bc_ BK291 5, bc_ BK291 6, bc_ BK291 7⟩ (fun hHeld => ?_)
    clear hK K
    refine norm_ (a' := ?_) ?_ ?_
    rotate_left
    · show Act.put _ (some 27) _ = _
      simp only [Act.put, List.setIfInBounds_toArray, List.set_cons_zero, List.set_cons_succ, i64_w, i32_w]
      rfl
    refine on_ 22 28 HT_ #[true, true, true, true, true, true, true, true, true, true, true, true, true, true, true, true, true, true, true, true, true, true, true, false] rfl rfl (fun K hK => ?_)
    refine goes_ Try.func118 (by kernel_rfl) rfl #[.slice Ao23 y305.length co23] (by rfl) rfl rfl (qe5_) ?_
    with_reducible refine (slices_Concat_byte_byte.calls _ _ y305 t308 _ ?side1 ?side2 A7.out).mono ?_
    (case side1 => repeat (first | exact (Kd.N_reads' HO307.out).2.2 | (with_reducible refine Kd.C_alloc ?_ _) | (with_reducible refine Kd.C_drewN ?_ _) | (with_reducible refine Kd.C_drew ?_)))
    (case side2 => exact (Kd.N_reads' HO307.out).2.1)
    rintro e w24 ⟨v309, rfl, ho0, hb⟩
    refine ⟨_, rfl, ?_⟩
    have n0_ := Aside0.mk (Kd.R_below (qe9_) hb)
    have n1_ := Aside0.mk (Kd.N_elder' (by (with_reducible repeat (first | apply Kd.N_alloc | apply Kd.N_drewN | apply Kd.N_drew)); exact HO307.out) (Kd.R_base ho0) hb)
    have n2_ := Aside0.mk (Kd.R_lower ho0 (below_size (qe2_)))
    have n3_ := Aside0.mk (blk_below (g := gb291) (o := .cells #[.int .i64 a0_0, .int .i64 a0_1, .int .i64 a0_2, .int .i64 a0_3, .int .i64 a0_4, .int .i64 a0_5, .string a0_6, .string a0_7] 95 (0, 0)) (bq_ BK291.out) hb)
    have n4_ := Aside0.mk (below_step (qe2_) hb)
    clear HO295
    clear HO307
    clear BK291
    clear HB
    have HO295 := n0_
    have HO307 := n1_
    have HO310 := n2_
    have BK291 := n3_
    have HB := n4_
    clear n0_ n1_ n2_ n3_ n4_
    (try clear hb)
    (try clear hb2)
    (try clear hk)
    (try clear hi)
    (try clear ho0)
    refine hK.out _ _ ⟨bc_ BK291 0, bc_ BK291 1, bc_ BK291 2, bc_ BK291 3, bc_ BK291 4, bc_ BK291 5, bc_ BK291 6, bc_ BK291 7⟩ (fun hHeld => ?_)
    clear hK K
    refine norm_ (a' := ?_) ?_ ?_
    rotate_left
    · show Act.put _ (some 28) _ = _
      simp only [Act.put, List.setIfInBounds_toArray, List.set_cons_zero, List.set_cons_succ, i64_w, i32_w]
      rfl
    refine pure_ (i := 23) (N := some 2) (v := ?_) (a' := ?_) #[true, true, true, true, true, true, true, true, true, true, true, true, true, true, true, true, true, true, true, true, true, true, true, true] rfl rfl (any_of HT_.out (by kernel_rfl)) (fun _ _ _ h => h) (Or.inl ⟨by rfl, ?_⟩) ?_ ?_
    rotate_left
    · intro w'
      go_simp
      with_reducible rfl
    rotate_left
    · simp only [Act.put, List.setIfInBounds_toArray, List.set_cons_zero, List.set_cons_succ, i64_w, i32_w]
      rfl
    refine done_ (done_of HT_.out (by kernel_rfl)) ?_
    try go_wp2
    go_ret
    exact ⟨_, qe13_, by (with_reducible repeat (first | apply Kd.R_alloc | apply Kd.R_drewN | apply Kd.R_drew)); exact HO310.out, qe2_⟩
  · replace c3 := Bool.eq_false_iff.mpr c3
    subst c3
    have H1 : (some ([] : List Int)) = some r := by rw [if_neg (show ¬ (false = true) by decide)] at H; exact H
    clear H
    have H := H1
    clear H1
    obtain rfl := Option.some.inj H
    go_enter Try.func63, Try.ntmps63
    go_wp2_with (first | ((with_reducible refine gate_dst (N := 1) rfl ?_); refine box_event ?hg (N := 1) ?hd (cs := #[.int .i64 a0_0, .int .i64 a0_1, .int .i64 a0_2, .int .i64 a0_3, .int .i64 a0_4, .int .i64 a0_5, .string a0_6, .string a0_7]) (t := 95) ?hr ?_; (case hd => rfl); (case hg => rfl); (case hr => first | (go_simp; done) | (go_simp; rfl)); intro gb291 hg w25 hbox hb; have n0_ := Aside0.mk (below_step (qe7_) hb); have n1_ := Aside0.mk (hbox); have n2_ := Aside0.mk ((by rw [hg]; exact (below_size (qe7_)) : w.heap.size ≤ gb291)); have n3_ := Aside0.mk ((by rw [hg]; exact (below_size (qe7_)) : w.heap.size ≤ gb291)); clear HB; have HB := n0_; have BK291 := n1_; have GW291 := n2_; have GE291 := n3_; clear n0_ n1_ n2_ n3_; clear hb hbox hg; have hcz26_0 : w25.cell? ⟨gb291, 0, none⟩ = some (.int .i64 a0_0) := bc_ BK291 0; have hcz26_1 : w25.cell? ⟨gb291, 1, none⟩ = some (.int .i64 a0_1) := bc_ BK291 1; have hcz26_2 : w25.cell? ⟨gb291, 2, none⟩ = some (.int .i64 a0_2) := bc_ BK291 2; have hcz26_3 : w25.cell? ⟨gb291, 3, none⟩ = some (.int .i64 a0_3) := bc_ BK291 3; have hcz26_4 : w25.cell? ⟨gb291, 4, none⟩ = some (.int .i64 a0_4) := bc_ BK291 4; have hcz26_5 : w25.cell? ⟨gb291, 5, none⟩ = some (.int .i64 a0_5) := bc_ BK291 5; have hcz26_6 : w25.cell? ⟨gb291, 6, none⟩ = some (.string a0_6) := bc_ BK291 6; have hcz26_7 : w25.cell? ⟨gb291, 7, none⟩ = some (.string a0_7) := bc_ BK291 7; have hfz26_0 := blk_frozen BK291.out 0; have hfz26_1 := blk_frozen BK291.out 1; have hfz26_2 := blk_frozen BK291.out 2; have hfz26_3 := blk_frozen BK291.out 3; have hfz26_4 := blk_frozen BK291.out 4; have hfz26_5 := blk_frozen BK291.out 5; have hfz26_6 := blk_frozen BK291.out 6; have hfz26_7 := blk_frozen BK291.out 7) | ((with_reducible refine gate_callee (f := 68) rfl ?_); refine goesL_ (some 4) rfl rfl Try.func68 (by kernel_rfl) rfl #[.agg #[.int .i64 a0_0, .int .i64 a0_1, .int .i64 a0_2, .int .i64 a0_3, .int .i64 a0_4, .int .i64 a0_5, .string a0_6, .string a0_7]] rfl (qe5_) ?_; (with_reducible refine (impl_CmdOk.calls k a0_0 a0_1 a0_2 a0_3 a0_4 a0_5 a0_6 a0_7 false _ A2.out).mono ?_); rintro e w27 ⟨rfl, hb⟩; refine ⟨_, rfl, ?_⟩; have n0_ := Aside0.mk (blk_below (g := gb291) (o := .cells #[.int .i64 a0_0, .int .i64 a0_1, .int .i64 a0_2, .int .i64 a0_3, .int .i64 a0_4, .int .i64 a0_5, .string a0_6, .string a0_7] 95 (0, 0)) (bq_ BK291.out) hb); have n1_ := Aside0.mk (below_step (qe2_) hb); clear BK291; clear HB; have BK291 := n0_; have HB := n1_; clear n0_ n1_; (try clear hb); (try clear hb2); (try clear hk); (try clear hi)))
    go_ret
    exact ⟨_, qe13_, by first | exact Kd.R_nil _ _ _ _ _ | exact Kd.N_nil _ _ _ _ _ | exact Kd.V_nil _ _ _ _ _ | exact Kd.Q_nil _ _ _ _ _ | exact Kd.S_nil _ _ _ _ _, qe2_⟩
/-! ### spec_l7Dent: function 121 -/
abbrev spec_l7Dent.m0 : Array Bool := #[t_,t_,t_,t_,t_,t_,t_,f_,f_,f_,t_,t_,t_,f_,f_,f_]
abbrev spec_l7Dent.m1 : Array Bool := #[t_,t_,t_,t_,f_,t_,t_,f_,f_,f_,t_,t_,t_,f_,f_,f_]
def spec_l7Dent.f (s0_0 : List Int) (s0_1 : Int) (s0_2 : Int) (l1 : List Int) : Option (List Int × Int × Int) := (spec_l1Below.f s0_0 s0_1 s0_2 (wrap64 ((l1.length : Int) + 1))).bind fun bt363 => ((spec_l1Below.f s0_0 bt363.2.1 bt363.2.2 5).bind fun bt366 => (if bt366.1 = 0 then (if 0 ≤ bt363.1 then (if bt363.1 ≤ (l1.length : Int) then (some ((l1.take (bt363.1 : Int).toNat), bt366.2.1, bt366.2.2)) else (none)) else (none)) else (if bt366.1 = 1 then ((some (([] : List Int) : List Int)).bind fun y372 => (if 0 ≤ bt363.1 then (if bt363.1 ≤ (l1.length : Int) then ((some (l1.take (bt363.1 : Int).toNat : List Int)).bind fun y375 => (if y372.length + y375.length < 140737488355328 then ((some (y372 ++ y375 : List Int)).bind fun y379 => ((spec_l1PickInt.f s0_0 bt366.2.1 bt366.2.2 (([0, 1, 128, 3] : List Int))).bind fun bt385 => ((some (([(bt385.1) % 256] : List Int) : List Int)).bind fun y388 => ((some (l1.drop (bt363.1 : Int).toNat : List Int)).bind fun y391 => (if y388.length + y391.length < 140737488355328 then ((some (y388 ++ y391 : List Int)).bind fun y395 => (if y379.length + y395.length < 140737488355328 then (some ((y379 ++ y395), bt385.2.1, bt385.2.2)) else (none))) else (none)))))) else (none))) else (none)) else (none))) else (some (l1, bt366.2.1, bt366.2.2)))))
def spec_l7Dent.T6 : Bool × List (List Nat × List Nat) := (true, [([], []), ([], []), ([], []), ([1, 2], [1, 2]), ([0, 3], [0, 3]), ([], []), ([], []), ([5, 6, 4], [5, 6]), ([7], [7]), ([8], [8]), ([], []), ([], []), ([10, 11], [10, 11]), ([9, 12, 7], [9, 12]), ([4, 13, 13], [4, 13]), ([14, 14, 0, 1, 2, 3, 4, 5, 6, 7, 8, 9, 10, 11, 12, 13, 14], [14])])
def spec_l7Dent.B6 : List Nat := [0, 0, 0, 6, 15, 0, 0, 127, 255, 511, 0, 0, 3072, 8191, 16383, 32767]
theorem spec_l7Dent.tab6 : rtab .any (opsOf Try.f121 6) = spec_l7Dent.T6 := by kernel_rfl
theorem spec_l7Dent.bits6 : waitsOk spec_l7Dent.T6.2 spec_l7Dent.B6 = true := by kernel_rfl
set_option maxHeartbeats 8000000 in
set_option maxRecDepth 100000 in
theorem spec_l7Dent.calls (g : Nat) (s0_0 : List Int) (s0_1 : Int) (s0_2 : Int) (P1_ : Nat → Prop) (u9000_ : Value) (l1 : List Int) (r1 : List Int) (r2 : Int) (r3 : Int) (w0 w : World) (hI : IsS_l1Cur w0 w g s0_0 s0_1 s0_2) (hB : Below w0.heap.size w0 w) (ho1 : Kd.R (Kd.int .u8) 5 w w0.heap.size P1_ u9000_ l1) (h : spec_l7Dent.f s0_0 s0_1 s0_2 l1 = some (r1, r2, r3)) :
 Calls Try.prog 121 #[.pointer (some ⟨g, 0, none⟩), u9000_] w fun e w' => ∃ v0_ : Value, e = .returned (v0_) ∧ Kd.R (Kd.int .u8) 5 w' w0.heap.size (fun k_ => (P1_ k_ ∨ w.heap.size ≤ k_)) v0_ r1 ∧ IsS_l1Cur w0 w' g s0_0 r2 r3 ∧ Below w0.heap.size w0 w' ∧ Kept w w' (fun k_ => (P1_ k_) ∨ k_ = g) := by
 have HO1 := Aside0.mk (show Kd.R (Kd.int .u8) 5 w w0.heap.size (fun k_ => (P1_ k_ ∨ w.heap.size ≤ k_)) u9000_ l1 from Kd.R_mono ho1 (fun k_ hk => (.inl hk)))
 have HI0 := Aside0.mk hI
 have HL := Aside0.mk hB.size
 clear hI
 have HK := Aside0.mk (Kept.refl w (fun k_ => (P1_ k_) ∨ k_ = g))
 have HW0 := Aside0.mk hB.size
 have HB := Aside0.mk hB
 clear hB
 have H : ((spec_l1Below.f s0_0 s0_1 s0_2 (wrap64 ((l1.length : Int) + 1))).bind fun bt363 => ((spec_l1Below.f s0_0 bt363.2.1 bt363.2.2 5).bind fun bt366 => (if bt366.1 = 0 then (if 0 ≤ bt363.1 then (if bt363.1 ≤ (l1.length : Int) then (some ((l1.take (bt363.1 : Int).toNat), bt366.2.1, bt366.2.2)) else (none)) else (none)) else (if bt366.1 = 1 then ((some (([] : List Int) : List Int)).bind fun y372 => (if 0 ≤ bt363.1 then (if bt363.1 ≤ (l1.length : Int) then ((some (l1.take (bt363.1 : Int).toNat : List Int)).bind fun y375 => (if y372.length + y375.length < 140737488355328 then ((some (y372 ++ y375 : List Int)).bind fun y379 => ((spec_l1PickInt.f s0_0 bt366.2.1 bt366.2.2 (([0, 1, 128, 3] : List Int))).bind fun bt385 => ((some (([(bt385.1) % 256] : List Int) : List Int)).bind fun y388 => ((some (l1.drop (bt363.1 : Int).toNat : List Int)).bind fun y391 => (if y388.length + y391.length < 140737488355328 then ((some (y388 ++ y391 : List Int)).bind fun y395 => (if y379.length + y395.length < 140737488355328 then (some ((y379 ++ y395), bt385.2.1, bt385.2.2)) else (none))) else (none)))))) else (none))) else (none)) else (none))) else (some (l1, bt366.2.1, bt366.2.2)))))) = some (r1, r2, r3) := h
 clear h
 replace H := Option.bind_eq_some_iff.mp H
 obtain ⟨⟨t363, t364, t365⟩, A30, H⟩ := H
 replace H : ((spec_l1Below.f s0_0 t364 t365 5).bind fun bt366 => (if bt366.1 = 0 then (if 0 ≤ t363 then (if t363 ≤ (l1.length : Int) then (some ((l1.take (t363 : Int).toNat), bt366.2.1, bt366.2.2)) else (none)) else (none)) else (if bt366.1 = 1 then ((some (([] : List Int) : List Int)).bind fun y372 => (if 0 ≤ t363 then (if t363 ≤ (l1.length : Int) then ((some (l1.take (t363 : Int).toNat : List Int)).bind fun y375 => (if y372.length + y375.length < 140737488355328 then ((some (y372 ++ y375 : List Int)).bind fun y379 => ((spec_l1PickInt.f s0_0 bt366.2.1 bt366.2.2 (([0, 1, 128, 3] : List Int))).bind fun bt385 => ((some (([(bt385.1) % 256] : List Int) : List Int)).bind fun y388 => ((some (l1.drop (t363 : Int).toNat : List Int)).bind fun y391 => (if y388.length + y391.length < 140737488355328 then ((some (y388 ++ y391 : List Int)).bind fun y395 => (if y379.length + y395.length < 140737488355328 then (some ((y379 ++ y395), bt385.2.1, bt385.2.2)) else (none))) else (none)))))) else (none))) else (none)) else (none))) else (some (l1, bt366.2.1, bt366.2.2))))) = some (r1, r2, r3) := H
 have A3 := Aside0.mk A30
 clear A30
 replace H := Option.bind_eq_some_iff.mp H
 obtain ⟨⟨t366, t367, t368⟩, A40, H⟩ := H
 replace H : (if t366 = 0 then (if 0 ≤ t363 then (if t363 ≤ (l1.length : Int) then (some ((l1.take (t363 : Int).toNat), t367, t368)) else (none)) else (none)) else (if t366 = 1 then ((some (([] : List Int) : List Int)).bind fun y372 => (if 0 ≤ t363 then (if t363 ≤ (l1.length : Int) then ((some (l1.take (t363 : Int).toNat : List Int)).bind fun y375 => (if y372.length + y375.length < 140737488355328 then ((some (y372 ++ y375 : List Int)).bind fun y379 => ((spec_l1PickInt.f s0_0 t367 t368 (([0, 1, 128, 3] : List Int))).bind fun bt385 => ((some (([(bt385.1) % 256] : List Int) : List Int)).bind fun y388 => ((some (l1.drop (t363 : Int).toNat : List Int)).bind fun y391 => (if y388.length + y391.length < 140737488355328 then ((some (y388 ++ y391 : List Int)).bind fun y395 => (if y379.length + y395.length < 140737488355328 then (some ((y379 ++ y395), bt385.2.1, bt385.2.2)) else (none))) else (none)))))) else (none))) else (none)) else (none))) else (some (l1, t367, t368)))) = some (r1, r2, r3) := H
 have A4 := Aside0.mk A40
 clear A40
 by_cases c5 : t366 = 0
 ·
  rw [if_pos c5] at H
  have c5b0 : (t366 == 0) = true := beq_iff_eq.mpr c5
  have c5b1 : (t366 != 0) = false := bne_eq_false_iff_eq.mpr c5
  clear c5
  by_cases c6 : 0 ≤ t363
  ·
   rw [if_pos c6] at H
   have c6b0 := eq_true c6
   have c6b1 : decide (0 ≤ t363) = true := decide_eq_true c6
   clear c6
   by_cases c7 : t363 ≤ (l1.length : Int)
   ·
    rw [if_pos c7] at H
    have c7b0 := eq_true c7
    have c7b1 : decide (t363 ≤ (l1.length : Int)) = true := decide_eq_true c7
    clear c7
    obtain ⟨y369, hy369⟩ : ∃ y_ : List Int, y_ = (l1.take (t363 : Int).toNat) := ⟨_, rfl⟩
    replace H : (some (y369, t367, t368)) = some (r1, r2, r3) := by first | (rw [hy369]; with_reducible exact H) | (have H2_ := (Option.bind_some _ _).symm.trans H; rw [hy369]; with_reducible exact H2_) | (have H2_ := (Option.bind_some _ _).symm.trans H; with_reducible exact H2_) | with_reducible exact H | (rw [hy369]; exact H) | exact H
    have Ny369 := Aside0.mk hy369
    clear hy369
    simp only [Option.some.injEq, Prod.mk.injEq] at H
    obtain ⟨rfl, rfl, rfl⟩ := H
    obtain ⟨Ao8, co8, eo8⟩ := Kd.R_slice HO1.out
    subst eo8
    go_enter Try.func121, Try.ntmps121
    go_wp2_with (first | ((with_reducible refine gate_callee (f := 78) rfl ?_); refine goesL_ (some 10) rfl rfl Try.func78 (by kernel_rfl) rfl #[.pointer (some ⟨g, 0, none⟩), .int .i64 (wrap64 ((l1.length : Int) + 1))] rfl sm_ ?_; (with_reducible refine (spec_l1Below.calls g s0_0 s0_1 s0_2 (wrap64 ((l1.length : Int) + 1)) t363 t364 t365 w0 _ ?side1 ?side2 A3.out).mono ?_); (case side1 => repeat (first | (with_reducible first | exact HI0.out | apply IsS_l1Cur.alloc | apply IsS_l1Cur.drewN | apply IsS_l1Cur.drew | apply IsS_l1Cur.set_1 | apply IsS_l1Cur.set_2) | exact HI0.out)); (case side2 => repeat (first | (with_reducible first | exact HB.out | apply below_alloc | apply pw_below_drewN | apply below_drew1 | refine below_set ?_ (IsS_l1Cur.ge HI0.out)) | exact HB.out)); rintro e w9 ⟨rfl, hi, hb, hk⟩; refine ⟨_, rfl, ?_⟩; have n0_ := Aside0.mk (Kd.R_mono (Kd.R_keep (IsS_l1Cur.apart (show IsS_l1Cur w0 _ g s0_0 s0_1 s0_2 from is_l1Cur_ HI0.out) (rq_ HO1.out) (by decide)) hk (fun _ h => h.2)) (fun _ h => h.1)); have n1_ := Aside0.mk (Kept.of_keep (S := (fun k_ => (P1_ k_) ∨ k_ = g)) (qe0_) hk (.inl (.inr rfl))); have n2_ := Aside0.mk (hb); have n3_ := Aside0.mk (hi); clear HO1; clear HK; clear HB; clear HI0; have HO1 := n0_; have HK := n1_; have HB := n2_; have HI0 := n3_; clear n0_ n1_ n2_ n3_; (try clear hb); (try clear hb2); (try clear hk); (try clear hi)) | ((with_reducible refine gate_callee (f := 78) rfl ?_); refine goesL_ (some 12) rfl rfl Try.func78 (by kernel_rfl) rfl #[.pointer (some ⟨g, 0, none⟩), .int .i64 5] rfl sm_ ?_; (with_reducible refine (spec_l1Below.calls g s0_0 t364 t365 5 t366 t367 t368 w0 _ ?side1 ?side2 A4.out).mono ?_); (case side1 => repeat (first | (with_reducible first | exact HI0.out | apply IsS_l1Cur.alloc | apply IsS_l1Cur.drewN | apply IsS_l1Cur.drew | apply IsS_l1Cur.set_1 | apply IsS_l1Cur.set_2) | exact HI0.out)); (case side2 => repeat (first | (with_reducible first | exact HB.out | apply below_alloc | apply pw_below_drewN | apply below_drew1 | refine below_set ?_ (IsS_l1Cur.ge HI0.out)) | exact HB.out)); rintro e w10 ⟨rfl, hi, hb, hk⟩; refine ⟨_, rfl, ?_⟩; have n0_ := Aside0.mk (Kd.R_mono (Kd.R_keep (IsS_l1Cur.apart (show IsS_l1Cur w0 _ g s0_0 t364 t365 from is_l1Cur_ HI0.out) (rq_ HO1.out) (by decide)) hk (fun _ h => h.2)) (fun _ h => h.1)); have n1_ := Aside0.mk (Kept.of_keep (S := (fun k_ => (P1_ k_) ∨ k_ = g)) (qe0_) hk (.inl (.inr rfl))); have n2_ := Aside0.mk (hb); have n3_ := Aside0.mk (hi); clear HO1; clear HK; clear HB; clear HI0; have HO1 := n0_; have HK := n1_; have HB := n2_; have HI0 := n3_; clear n0_ n1_ n2_ n3_; (try clear hb); (try clear hb2); (try clear hk); (try clear hi); have q11 : (t363 : Int) ≤ ((l1.length : Int) : Int) := of_decide_eq_true dt_; obtain ⟨i011, hi011, _, hsz11, _⟩ := info_parts info5; have hcut11 := cut_to (P := Try.prog) 22 5 .i64 Try.underlying22 hi011 Ao8 l1.length co8 t363 (of_decide_eq_true dt_) q11 (Kd.R_reads' HO1.out).2.1; have hr11 := Kd.R_take (m := (t363 : Int).toNat) HO1.out (by omega); have hy11 : y369.length = (t363 : Int).toNat := (by rw [Ny369.out, List.length_take]; omega); rw [← Ny369.out] at hr11; rw [← hy11] at hr11 hcut11; clear hy11 hi011 hsz11 HO1; have HO371 := Aside0.mk hr11; clear hr11; replace q11 := eq_true q11))
    go_ret
    exact ⟨_, er_, by (with_reducible repeat (first | apply Kd.R_alloc | apply Kd.R_drewN | apply Kd.R_drew)); exact HO371.out, is_l1Cur_ HI0.out, qe14_, qe0_⟩
   ·
    rw [if_neg c7] at H
    exact absurd H (by simp)
  ·
   rw [if_neg c6] at H
   exact absurd H (by simp)
 ·
  rw [if_neg c5] at H
  have c5b0 : (t366 == 0) = false := beq_eq_false_iff_ne.mpr c5
  have c5b1 : (t366 != 0) = true := bne_iff_ne.mpr c5
  by_cases c12 : t366 = 1
  ·
   rw [if_pos c12] at H
   have c12b0 : (t366 == 1) = true := beq_iff_eq.mpr c12
   have c12b1 : (t366 != 1) = false := bne_eq_false_iff_eq.mpr c12
   clear c12
   obtain ⟨y372, hy372⟩ : ∃ y_ : List Int, y_ = (([] : List Int)) := ⟨_, rfl⟩
   replace H : (if 0 ≤ t363 then (if t363 ≤ (l1.length : Int) then ((some (l1.take (t363 : Int).toNat : List Int)).bind fun y375 => (if y372.length + y375.length < 140737488355328 then ((some (y372 ++ y375 : List Int)).bind fun y379 => ((spec_l1PickInt.f s0_0 t367 t368 (([0, 1, 128, 3] : List Int))).bind fun bt385 => ((some (([(bt385.1) % 256] : List Int) : List Int)).bind fun y388 => ((some (l1.drop (t363 : Int).toNat : List Int)).bind fun y391 => (if y388.length + y391.length < 140737488355328 then ((some (y388 ++ y391 : List Int)).bind fun y395 => (if y379.length + y395.length < 140737488355328 then (some ((y379 ++ y395), bt385.2.1, bt385.2.2)) else (none))) else (none)))))) else (none))) else (none)) else (none)) = some (r1, r2, r3) := by first | (rw [hy372]; with_reducible exact H) | (have H2_ := (Option.bind_some _ _).symm.trans H; rw [hy372]; with_reducible exact H2_) | (have H2_ := (Option.bind_some _ _).symm.trans H; with_reducible exact H2_) | with_reducible exact H | (rw [hy372]; exact H) | exact H
   have Ny372 := Aside0.mk hy372
   clear hy372
   by_cases c13 : 0 ≤ t363
   ·
    rw [if_pos c13] at H
    have c13b0 := eq_true c13
    have c13b1 : decide (0 ≤ t363) = true := decide_eq_true c13
    clear c13
    by_cases c14 : t363 ≤ (l1.length : Int)
    ·
     rw [if_pos c14] at H
     have c14b0 := eq_true c14
     have c14b1 : decide (t363 ≤ (l1.length : Int)) = true := decide_eq_true c14
     clear c14
     obtain ⟨y375, hy375⟩ : ∃ y_ : List Int, y_ = (l1.take (t363 : Int).toNat) := ⟨_, rfl⟩
     replace H : (if y372.length + y375.length < 140737488355328 then ((some (y372 ++ y375 : List Int)).bind fun y379 => ((spec_l1PickInt.f s0_0 t367 t368 (([0, 1, 128, 3] : List Int))).bind fun bt385 => ((some (([(bt385.1) % 256] : List Int) : List Int)).bind fun y388 => ((some (l1.drop (t363 : Int).toNat : List Int)).bind fun y391 => (if y388.length + y391.length < 140737488355328 then ((some (y388 ++ y391 : List Int)).bind fun y395 => (if y379.length + y395.length < 140737488355328 then (some ((y379 ++ y395), bt385.2.1, bt385.2.2)) else (none))) else (none)))))) else (none)) = some (r1, r2, r3) := by first | (rw [hy375]; with_reducible exact H) | (have H2_ := (Option.bind_some _ _).symm.trans H; rw [hy375]; with_reducible exact H2_) | (have H2_ := (Option.bind_some _ _).symm.trans H; with_reducible exact H2_) | with_reducible exact H | (rw [hy375]; exact H) | exact H
     have Ny375 := Aside0.mk hy375
     clear hy375
     by_cases c15 : y372.length + y375.length < 140737488355328
     ·
      rw [if_pos c15] at H
      have LMc15 := Aside0.mk c15
      clear c15
      obtain ⟨y379, hy379⟩ : ∃ y_ : List Int, y_ = (y372 ++ y375) := ⟨_, rfl⟩
      replace H : ((spec_l1PickInt.f s0_0 t367 t368 (([0, 1, 128, 3] : List Int))).bind fun bt385 => ((some (([(bt385.1) % 256] : List Int) : List Int)).bind fun y388 => ((some (l1.drop (t363 : Int).toNat : List Int)).bind fun y391 => (if y388.length + y391.length < 140737488355328 then ((some (y388 ++ y391 : List Int)).bind fun y395 => (if y379.length + y395.length < 140737488355328 then (some ((y379 ++ y395), bt385.2.1, bt385.2.2)) else (none))) else (none))))) = some (r1, r2, r3) := by first | (rw [hy379]; with_reducible exact H) | (have H2_ := (Option.bind_some _ _).symm.trans H; rw [hy379]; with_reducible exact H2_) | (have H2_ := (Option.bind_some _ _).symm.trans H; with_reducible exact H2_) | with_reducible exact H | (rw [hy379]; exact H) | exact H
      have Ny379 := Aside0.mk hy379
      clear hy379
      obtain ⟨y382, hy382⟩ : ∃ y_ : List Int, y_ = (([0, 1, 128, 3] : List Int)) := ⟨_, rfl⟩
      replace H : ((spec_l1PickInt.f s0_0 t367 t368 y382).bind fun bt385 => ((some (([(bt385.1) % 256] : List Int) : List Int)).bind fun y388 => ((some (l1.drop (t363 : Int).toNat : List Int)).bind fun y391 => (if y388.length + y391.length < 140737488355328 then ((some (y388 ++ y391 : List Int)).bind fun y395 => (if y379.length + y395.length < 140737488355328 then (some ((y379 ++ y395), bt385.2.1, bt385.2.2)) else (none))) else (none))))) = some (r1, r2, r3) := by first | (rw [hy382]; with_reducible exact H) | (have H2_ := (Option.bind_some _ _).symm.trans H; rw [hy382]; with_reducible exact H2_) | (have H2_ := (Option.bind_some _ _).symm.trans H; with_reducible exact H2_) | with_reducible exact H | (rw [hy382]; exact H) | exact H
      have Ny382 := Aside0.mk hy382
      clear hy382
      replace H := Option.bind_eq_some_iff.mp H
      obtain ⟨⟨t385, t386, t387⟩, A160, H⟩ := H
      replace H : ((some (([(t385) % 256] : List Int) : List Int)).bind fun y388 => ((some (l1.drop (t363 : Int).toNat : List Int)).bind fun y391 => (if y388.length + y391.length < 140737488355328 then ((some (y388 ++ y391 : List Int)).bind fun y395 => (if y379.length + y395.length < 140737488355328 then (some ((y379 ++ y395), t386, t387)) else (none))) else (none)))) = some (r1, r2, r3) := H
      have A16 := Aside0.mk A160
      clear A160
      obtain ⟨y388, hy388⟩ : ∃ y_ : List Int, y_ = (([(t385) % 256] : List Int)) := ⟨_, rfl⟩
      replace H : ((some (l1.drop (t363 : Int).toNat : List Int)).bind fun y391 => (if y388.length + y391.length < 140737488355328 then ((some (y388 ++ y391 : List Int)).bind fun y395 => (if y379.length + y395.length < 140737488355328 then (some ((y379 ++ y395), t386, t387)) else (none))) else (none))) = some (r1, r2, r3) := by first | (rw [hy388]; with_reducible exact H) | (have H2_ := (Option.bind_some _ _).symm.trans H; rw [hy388]; with_reducible exact H2_) | (have H2_ := (Option.bind_some _ _).symm.trans H; with_reducible exact H2_) | with_reducible exact H | (rw [hy388]; exact H) | exact H
      have Ny388 := Aside0.mk hy388
      clear hy388
      have c17b0 := eq_true (of_decide_eq_true dt_ : 0 ≤ t363)
      have c18b0 := eq_true (of_decide_eq_true dt_ : t363 ≤ (l1.length : Int))
      obtain ⟨y391, hy391⟩ : ∃ y_ : List Int, y_ = (l1.drop (t363 : Int).toNat) := ⟨_, rfl⟩
      replace H : (if y388.length + y391.length < 140737488355328 then ((some (y388 ++ y391 : List Int)).bind fun y395 => (if y379.length + y395.length < 140737488355328 then (some ((y379 ++ y395), t386, t387)) else (none))) else (none)) = some (r1, r2, r3) := by first | (rw [hy391]; with_reducible exact H) | (have H2_ := (Option.bind_some _ _).symm.trans H; rw [hy391]; with_reducible exact H2_) | (have H2_ := (Option.bind_some _ _).symm.trans H; with_reducible exact H2_) | with_reducible exact H | (rw [hy391]; exact H) | exact H
      have Ny391 := Aside0.mk hy391
      clear hy391
      by_cases c19 : y388.length + y391.length < 140737488355328
      ·
       rw [if_pos c19] at H
       have LMc19 := Aside0.mk c19
       clear c19
       obtain ⟨y395, hy395⟩ : ∃ y_ : List Int, y_ = (y388 ++ y391) := ⟨_, rfl⟩
       replace H : (if y379.length + y395.length < 140737488355328 then (some ((y379 ++ y395), t386, t387)) else (none)) = some (r1, r2, r3) := by first | (rw [hy395]; with_reducible exact H) | (have H2_ := (Option.bind_some _ _).symm.trans H; rw [hy395]; with_reducible exact H2_) | (have H2_ := (Option.bind_some _ _).symm.trans H; with_reducible exact H2_) | with_reducible exact H | (rw [hy395]; exact H) | exact H
       have Ny395 := Aside0.mk hy395
       clear hy395
       by_cases c20 : y379.length + y395.length < 140737488355328
       ·
        rw [if_pos c20] at H
        have LMc20 := Aside0.mk c20
        clear c20
        obtain ⟨y398, hy398⟩ : ∃ y_ : List Int, y_ = (y379 ++ y395) := ⟨_, rfl⟩
        replace H : (some (y398, t386, t387)) = some (r1, r2, r3) := by first | (rw [hy398]; with_reducible exact H) | (have H2_ := (Option.bind_some _ _).symm.trans H; rw [hy398]; with_reducible exact H2_) | (have H2_ := (Option.bind_some _ _).symm.trans H; with_reducible exact H2_) | with_reducible exact H | (rw [hy398]; exact H) | exact H
        have Ny398 := Aside0.mk hy398
        clear hy398
        simp only [Option.some.injEq, Prod.mk.injEq] at H
        obtain ⟨rfl, rfl, rfl⟩ := H
        obtain ⟨Ao21, co21, eo21⟩ := Kd.R_slice HO1.out
        subst eo21
        go_enter Try.func121, Try.ntmps121
        try go_wp2_with (first | ((with_reducible refine gate_callee (f := 78) rfl ?_); refine goesL_ (some 10) rfl rfl Try.func78 (by kernel_rfl) rfl #[.pointer (some ⟨g, 0, none⟩), .int .i64 (wrap64 ((l1.length : Int) + 1))] rfl sm_ ?_; (with_reducible refine (spec_l1Below.calls g s0_0 s0_1 s0_2 (wrap64 ((l1.length : Int) + 1)) t363 t364 t365 w0 _ ?side1 ?side2 A3.out).mono ?_); (case side1 => repeat (first | (with_reducible first | exact HI0.out | apply IsS_l1Cur.alloc | apply IsS_l1Cur.drewN | apply IsS_l1Cur.drew | apply IsS_l1Cur.set_1 | apply IsS_l1Cur.set_2) | exact HI0.out)); (case side2 => repeat (first | (with_reducible first | exact HB.out | apply below_alloc | apply pw_below_drewN | apply below_drew1 | refine below_set ?_ (IsS_l1Cur.ge HI0.out)) | exact HB.out)); rintro e w22 ⟨rfl, hi, hb, hk⟩; refine ⟨_, rfl, ?_⟩; have n0_ := Aside0.mk (Kd.R_mono (Kd.R_keep (IsS_l1Cur.apart (show IsS_l1Cur w0 _ g s0_0 s0_1 s0_2 from is_l1Cur_ HI0.out) (rq_ HO1.out) (by decide)) hk (fun _ h => h.2)) (fun _ h => h.1)); have n1_ := Aside0.mk (Kept.of_keep (S := (fun k_ => (P1_ k_) ∨ k_ = g)) (qe0_) hk (.inl (.inr rfl))); have n2_ := Aside0.mk (hb); have n3_ := Aside0.mk (hi); clear HO1; clear HK; clear HB; clear HI0; have HO1 := n0_; have HK := n1_; have HB := n2_; have HI0 := n3_; clear n0_ n1_ n2_ n3_; (try clear hb); (try clear hb2); (try clear hk); (try clear hi)) | ((with_reducible refine gate_callee (f := 78) rfl ?_); refine goesL_ (some 12) rfl rfl Try.func78 (by kernel_rfl) rfl #[.pointer (some ⟨g, 0, none⟩), .int .i64 5] rfl sm_ ?_; (with_reducible refine (spec_l1Below.calls g s0_0 t364 t365 5 t366 t367 t368 w0 _ ?side1 ?side2 A4.out).mono ?_); (case side1 => repeat (first | (with_reducible first | exact HI0.out | apply IsS_l1Cur.alloc | apply IsS_l1Cur.drewN | apply IsS_l1Cur.drew | apply IsS_l1Cur.set_1 | apply IsS_l1Cur.set_2) | exact HI0.out)); (case side2 => repeat (first | (with_reducible first | exact HB.out | apply below_alloc | apply pw_below_drewN | apply below_drew1 | refine below_set ?_ (IsS_l1Cur.ge HI0.out)) | exact HB.out)); rintro e w23 ⟨rfl, hi, hb, hk⟩; refine ⟨_, rfl, ?_⟩; have n0_ := Aside0.mk (Kd.R_mono (Kd.R_keep (IsS_l1Cur.apart (show IsS_l1Cur w0 _ g s0_0 t364 t365 from is_l1Cur_ HI0.out) (rq_ HO1.out) (by decide)) hk (fun _ h => h.2)) (fun _ h => h.1)); have n1_ := Aside0.mk (Kept.of_keep (S := (fun k_ => (P1_ k_) ∨ k_ = g)) (qe0_) hk (.inl (.inr rfl))); have n2_ := Aside0.mk (hb); have n3_ := Aside0.mk (hi); clear HO1; clear HK; clear HB; clear HI0; have HO1 := n0_; have HK := n1_; have HB := n2_; have HI0 := n3_; clear n0_ n1_ n2_ n3_; (try clear hb); (try clear hb2); (try clear hk); (try clear hi)))
        have n0_ := Aside0.mk (Kd.R_drew HO1.out)
        have n1_ := Aside0.mk (IsS_l1Cur.drew HI0.out)
        have n2_ := Aside0.mk (Kept.drew HK.out)
        have n3_ := Aside0.mk (below_drew1 HB.out)
        clear HO1; clear HI0
        clear HK; clear HB
        have HO1 := n0_
        have HI0 := n1_
        have HK := n2_
        have HB := n3_
        clear n0_ n1_ n2_ n3_
        have q25 : (t363 : Int) ≤ ((l1.length : Int) : Int) := of_decide_eq_true dt_
        obtain ⟨i025, hi025, _, hsz25, _⟩ := info_parts info5
        have hroom25 : l1.length ≤ co21 := (Kd.R_reads' HO1.out).2.1
        have hC25 : Kd.C (Kd.int .u8) _ Ao21 l1.length l1 := (Kd.R_reads' HO1.out).2.2
        have hcut25 := cut_to (P := Try.prog) 22 5 .i64 Try.underlying22 hi025 Ao21 l1.length co21 t363 (of_decide_eq_true dt_) q25 hroom25
        have hr25 := Kd.C_take (m := (t363 : Int).toNat) hC25 (by omega)
        have hy25 : y375.length = (t363 : Int).toNat := (by rw [Ny375.out, List.length_take]; omega)
        rw [← Ny375.out] at hr25
        rw [← hy25] at hcut25
        have HR378 := Aside0.mk hr25
        have HC378 := Aside0.mk (show y375.length ≤ co21 from by omega)
        clear hr25 hC25 hroom25 hi025 hsz25
        have KY25 := Aside0.mk hy25
        clear hy25
        have KL25 := Aside0.mk (show (t363 : Int).toNat ≤ l1.length from by omega)
        replace q25 := eq_true q25
        have q26 : (t363 : Int) ≤ ((l1.length : Int) : Int) := of_decide_eq_true dt_
        obtain ⟨i026, hi026, _, hsz26, _⟩ := info_parts info5
        have hroom26 : l1.length ≤ co21 := (Kd.R_reads' HO1.out).2.1
        have hC26 : Kd.C (Kd.int .u8) _ Ao21 l1.length l1 := (Kd.R_reads' HO1.out).2.2
        have q026 : (0 : Int) ≤ (t363 : Int) := of_decide_eq_true dt_
        have hcut26 := cut_from (P := Try.prog) 22 5 .i64 Try.underlying22 hi026 1 hsz26 Ao21 l1.length co21 t363 q026 q26
        have hr26 := Kd.C_drop (m := (t363 : Int).toNat) (c := co21) hC26 (by omega) hroom26
        obtain ⟨A26, hA26⟩ : ∃ A1, A1 = (if co21 = (t363 : Int).toNat then Ao21 else (Ao21 : Option Addr).map (·.add ((t363 : Int).toNat * 1))) := ⟨_, rfl⟩
        obtain ⟨c26, hc26⟩ : ∃ c1, c1 = co21 - (t363 : Int).toNat := ⟨_, rfl⟩
        have hy26 : y391.length = l1.length - (t363 : Int).toNat := (by rw [Ny391.out, List.length_drop] <;> omega)
        rw [show (l1).drop (t363 : Int).toNat = y391 from Ny391.out.symm] at hr26
        replace hr26 : Kd.C (Kd.int .u8) _ A26 y391.length y391 := (by rw [hA26]; exact hr26)
        rw [← hy26, ← hA26, ← hc26] at hcut26
        have HR394 := Aside0.mk hr26
        have HC394 := Aside0.mk (show y391.length ≤ c26 from by rw [hy26, hc26]; exact Nat.sub_le_sub_right hroom26 _)
        clear hr26 hC26 hroom26 hi026 hsz26 hc26
        have KY26 := Aside0.mk hy26
        have KA26 := Aside0.mk hA26
        clear hy26 hA26
        have KL26 := Aside0.mk (show (t363 : Int).toNat ≤ l1.length from by omega)
        replace q26 := eq_true q26
        refine start_ (n := 16) (S := fun w' => True) (ds := []) #[false, false, false, false, false, false, false, false, false, false, false, false, false, false, false, false] (by kernel_rfl) rfl rfl trivial (fun hHeld => ?_); refine with_tabW spec_l7Dent.tab6 spec_l7Dent.bits6 (fun HT_ HW_ => ?_)
        generalize w23.drew = w24 at HO1 HI0 HK HB HR378 HR394 hHeld ⊢
        refine pI_ 1 21 HT_ #[false, true, false, false, false, false, false, false, false, false, false, false, false, false, false, false] rfl rfl ?_
        refine pI_ 2 22 HT_ #[false, true, true, false, false, false, false, false, false, false, false, false, false, false, false, false] rfl rfl ?_
        refine pI_ 3 23 HT_ #[false, true, true, true, false, false, false, false, false, false, false, false, false, false, false, false] rfl rfl ?_
        refine pI_ 5 25 HT_ #[false, true, true, true, false, true, false, false, false, false, false, false, false, false, false, false] rfl rfl ?_
        refine pI_ 10 30 HT_ #[false, true, true, true, false, true, false, false, false, false, true, false, false, false, false, false] rfl rfl ?_
        refine pI_ 11 31 HT_ #[false, true, true, true, false, true, false, false, false, false, true, true, false, false, false, false] rfl rfl ?_
        refine pI_ 12 32 HT_ #[false, true, true, true, false, true, false, false, false, false, true, true, true, false, false, false] rfl rfl ?_
        refine join_ (σ := Value × Value × Value) 6 spec_l7Dent.m0 (fun s_ => [(20, s_.1), (24, s_.2.1), (26, s_.2.2)]) (fun s_ w' => (Kd.R (Kd.int .u8) 5 w' w0.heap.size (fun k_ => (P1_ k_ ∨ w.heap.size ≤ k_) ∧ some k_ ≠ (s_.2.1 : Value).ownBlock) (.slice Ao21 l1.length co21) l1) ∧ (Kd.R (Kd.int .u8) 5 w' w0.heap.size (fun k_ => (P1_ k_ ∨ w.heap.size ≤ k_) ∧ some k_ ≠ (.slice Ao21 l1.length co21 : Value).ownBlock) s_.2.1 y379) ∧ (Kd.R (Kd.int .i64) 3 w' w0.heap.size (fun k_ => (P1_ k_ ∨ w.heap.size ≤ k_)) s_.2.2 y382) ∧ (IsS_l1Cur w0 w' g s0_0 t367 t368) ∧ (Kd.C (Kd.int .u8) w' Ao21 y375.length y375) ∧ (Kd.C (Kd.int .u8) w' A26 y391.length y391) ∧ (Kept w w' (fun k_ => (P1_ k_) ∨ k_ = g)) ∧ (Below w0.heap.size w0 w')) ?_ ?_
        rotate_left
        ·
         intro hCont
         refine two_ (i := 0) (j := 6) (Ni := some 20) (Nj := some 26) #[true, true, true, true, false, true, false, false, false, false, true, true, true, false, false, false] #[false, true, true, true, false, true, true, false, false, false, true, true, true, false, false, false] rfl rfl rfl rfl (two_of HT_.out (by kernel_rfl)) (by decide) (by decide) (fun K hK => ?_) (fun K hK => ?_)
         ·
          skip
          refine Kd.R_lit_step (Kd.int .u8) _ 5 ?hg (N := 20) ?hd (xs := ([] : List Int)) (inner := []) (ok := fun _ => True) (okp := fun _ => True) ?hr ?hp (fun _ hk => hk) trivial (Below.refl _ _) (Nat.le_refl _) (by simp) ?_; (case hd => rfl); (case hg => rfl); (case hr => first | (go_simp; done) | (go_simp; rfl)); (case hp => exact (Reps.none _ _))
          intro v373 w27 ho28 hb hg_ hnew_
          clear hg_ hnew_
          (first | rw [← Ny372.out] at ho28 | (simp only [Int.reduceToNat] at ho28; rw [← Ny372.out] at ho28))
          have n0_ := Aside0.mk (Kd.R_elder' (rq_ HO1.out) (Kd.R_base ho28) hb)
          have n1_ := Aside0.mk (Kd.R_lower (Kd.R_new' (Kd.R_newM (M := fun k_ => (P1_ k_ ∨ w.heap.size ≤ k_)) ho28 (qe1_) (fun k_ h_ => .inr h_)) (Kd.R_lt (rq_ HO1.out))) (below_size (hi_ HB.out)))
          have n2_ := Aside0.mk (IsS_l1Cur.below (is_l1Cur_ HI0.out) hb)
          have n3_ := Aside0.mk (Kd.C_below (qe3_) hb)
          have n4_ := Aside0.mk (Kd.C_below (qe4_) hb)
          have n5_ := Aside0.mk (Kept.below (S := (fun k_ => (P1_ k_) ∨ k_ = g)) (qe0_) hb)
          have n6_ := Aside0.mk (below_step (hi_ HB.out) hb)
          clear HO1; clear HI0
          clear HR378; clear HR394
          clear HK; clear HB
          have HO1 := n0_
          have HO374 := n1_
          have HI0 := n2_
          have HR378 := n3_
          have HR394 := n4_
          have HK := n5_
          have HB := n6_
          clear n0_ n1_ n2_ n3_ n4_ n5_ n6_; clear hb ho28
          refine hK.out _ _ trivial (fun hHeld => ?_)
          clear hK K
          refine nm_ ?_
          refine two_ (i := 4) (j := 6) (Ni := some 24) (Nj := some 26) #[true, true, true, true, true, true, false, false, false, false, true, true, true, false, false, false] spec_l7Dent.m1 rfl rfl rfl rfl (two_of HT_.out (by kernel_rfl)) (by decide) (by decide) (fun K hK => ?_) (fun K hK => ?_)
          ·
           skip
           refine Kd.R_append_rows_step (Kd.int .u8) (w0 := w0) w0.heap.size (by rfl) (.tmp 20) (.tmp 23) 22 5 (.int .u8 0) 1 rfl Try.underlying22 info5 rfl (by decide) (by omega) v373 y372 y375 _ _ _ (fun k_ => (P1_ k_ ∨ w.heap.size ≤ k_) ∧ some k_ ≠ (.slice Ao21 l1.length co21 : Value).ownBlock) (fun _ => False) rfl rfl ?aO ?aR (fun _ _ h => h) (fun _ h => h.elim) ?aF ?aB ?aS ?aL ?_
           (case aR => repeat (first | exact (qe3_) | (with_reducible refine Kd.C_alloc ?_ _) | (with_reducible refine Kd.C_drewN ?_ _) | (with_reducible refine Kd.C_drew ?_)))
           (case aB => exact (hi_ HB.out))
           (case aF => exact (fun k_ hk => ⟨(.inr (Nat.le_trans (qe1_) hk)), Kd.fresh' (Kd.R_lt (rq_ HO1.out)) k_ hk⟩))
           (case aO => exact (rm_ HO374.out))
           (case aS => exact (below_size (hi_ HB.out)))
           (case aL => have := LMc15.out; omega)
           intro v380 w29 ho hb hg hat
           rw [← Ny379.out] at ho
           have n0_ := Aside0.mk (IsS_l1Cur.grown (is_l1Cur_ HI0.out) hg (IsS_l1Cur.own_ne HI0.out HO374.out (by decide)))
           have n1_ := Aside0.mk (Kd.R_after (ok := (fun k_ => (P1_ k_ ∨ w.heap.size ≤ k_))) (rq_ HO1.out) hg hat)
           have n2_ := Aside0.mk (hb)
           have n3_ := Aside0.mk (Kept.of_grown (S := (fun k_ => (P1_ k_) ∨ k_ = g)) hg (qe0_) (fun k_ e_ => Or.imp_left Or.inl ((HO374.out.1 k_ e_).1.1)))
           have n4_ := Aside0.mk ((show Kd.C (Kd.int .u8) w29 Ao21 y375.length y375 from by rw [Ny375.out]; exact Kd.C_take (m := (t363 : Int).toNat) ((Kd.R_reads' (Kd.R_after (ok := (fun k_ => (P1_ k_ ∨ w.heap.size ≤ k_))) (rq_ HO1.out) hg hat)).2.2) KL25.out))
           have n5_ := Aside0.mk ((show Kd.C (Kd.int .u8) w29 A26 y391.length y391 from by rw [Ny391.out, KA26.out]; exact Kd.C_drop (m := (t363 : Int).toNat) (c := co21) ((Kd.R_reads' (Kd.R_after (ok := (fun k_ => (P1_ k_ ∨ w.heap.size ≤ k_))) (rq_ HO1.out) hg hat)).2.2) KL26.out ((Kd.R_reads' (Kd.R_after (ok := (fun k_ => (P1_ k_ ∨ w.heap.size ≤ k_))) (rq_ HO1.out) hg hat)).2.1)))
           have n6_ := Aside0.mk (ho)
           clear HI0; clear HO1
           clear HB; clear HK
           clear HR378; clear HR394
           clear HO374
           have HI0 := n0_
           have HO1 := n1_
           have HB := n2_
           have HK := n3_
           have HR378 := n4_
           have HR394 := n5_
           have HO381 := n6_
           clear n0_ n1_ n2_ n3_ n4_ n5_ n6_; clear ho hb hg hat
           refine hK.out _ _ trivial (fun hHeld => ?_)
           clear hK K
           refine nm_ ?_
           refine on_ 6 26 HT_ spec_l7Dent.m0 rfl rfl (fun K hK => ?_)
           refine Kd.R_lit_step (Kd.int .i64) _ 3 ?hg (N := 26) ?hd (xs := ([0, 1, 128, 3] : List Int)) (inner := [.int .i64 0, .int .i64 1, .int .i64 128, .int .i64 3]) (ok := fun _ => True) (okp := fun _ => True) ?hr ?hp (fun _ hk => hk) trivial (Below.refl _ _) (Nat.le_refl _) (by simp) ?_; (case hd => rfl); (case hg => rfl); (case hr => first | (go_simp; done) | (go_simp; rfl)); (case hp => exact (Reps.one (show Kd.M (Kd.int .i64) _ _ _ 0 [.int .i64 0] from rfl) (Reps.one (show Kd.M (Kd.int .i64) _ _ _ 1 [.int .i64 1] from rfl) (Reps.one (show Kd.M (Kd.int .i64) _ _ _ 128 [.int .i64 128] from rfl) (Reps.one (show Kd.M (Kd.int .i64) _ _ _ 3 [.int .i64 3] from rfl) (Reps.none _ _))))))
           intro v383 w30 ho31 hb hg_ hnew_
           clear hg_ hnew_
           (first | rw [← Ny382.out] at ho31 | (simp only [Int.reduceToNat] at ho31; rw [← Ny382.out] at ho31))
           have n0_ := Aside0.mk (Kd.R_below (rq_ HO1.out) hb)
           have n1_ := Aside0.mk (Kd.R_below (rq_ HO381.out) hb)
           have n2_ := Aside0.mk (Kd.R_lower (Kd.R_newM (M := fun k_ => (P1_ k_ ∨ w.heap.size ≤ k_)) ho31 (qe1_) (fun k_ h_ => .inr h_)) (below_size (hi_ HB.out)))
           have n3_ := Aside0.mk (IsS_l1Cur.below (is_l1Cur_ HI0.out) hb)
           have n4_ := Aside0.mk (Kd.C_below (qe3_) hb)
           have n5_ := Aside0.mk (Kd.C_below (qe4_) hb)
           have n6_ := Aside0.mk (Kept.below (S := (fun k_ => (P1_ k_) ∨ k_ = g)) (qe0_) hb)
           have n7_ := Aside0.mk (below_step (hi_ HB.out) hb)
           clear HO1; clear HO381
           clear HI0; clear HR378
           clear HR394; clear HK
           clear HB
           have HO1 := n0_
           have HO381 := n1_
           have HO384 := n2_
           have HI0 := n3_
           have HR378 := n4_
           have HR394 := n5_
           have HK := n6_
           have HB := n7_
           clear n0_ n1_ n2_ n3_ n4_ n5_ n6_ n7_; clear hb ho31
           refine hK.out _ _ trivial (fun hHeld => ?_)
           clear hK K
           refine nm_ ?_
           exact norm_ (qe17_) (hCont (v373, v380, v383) _ ⟨(rq_ HO1.out), (rq_ HO381.out), (rm_ HO384.out), (is_l1Cur_ HI0.out), (qe3_), (qe4_), (qe0_), (hi_ HB.out)⟩)
          ·
           skip
           refine Kd.R_lit_step (Kd.int .i64) _ 3 ?hg (N := 26) ?hd (xs := ([0, 1, 128, 3] : List Int)) (inner := [.int .i64 0, .int .i64 1, .int .i64 128, .int .i64 3]) (ok := fun _ => True) (okp := fun _ => True) ?hr ?hp (fun _ hk => hk) trivial (Below.refl _ _) (Nat.le_refl _) (by simp) ?_; (case hd => rfl); (case hg => rfl); (case hr => first | (go_simp; done) | (go_simp; rfl)); (case hp => exact (Reps.one (show Kd.M (Kd.int .i64) _ _ _ 0 [.int .i64 0] from rfl) (Reps.one (show Kd.M (Kd.int .i64) _ _ _ 1 [.int .i64 1] from rfl) (Reps.one (show Kd.M (Kd.int .i64) _ _ _ 128 [.int .i64 128] from rfl) (Reps.one (show Kd.M (Kd.int .i64) _ _ _ 3 [.int .i64 3] from rfl) (Reps.none _ _))))))
           intro v383 w29 ho30 hb hg_ hnew_
           clear hg_ hnew_
           (first | rw [← Ny382.out] at ho30 | (simp only [Int.reduceToNat] at ho30; rw [← Ny382.out] at ho30))
           have n0_ := Aside0.mk (Kd.R_below (rq_ HO1.out) hb)
           have n1_ := Aside0.mk (Kd.R_below (rq_ HO374.out) hb)
           have n2_ := Aside0.mk (Kd.R_lower (Kd.R_newM (M := fun k_ => (P1_ k_ ∨ w.heap.size ≤ k_)) ho30 (qe1_) (fun k_ h_ => .inr h_)) (below_size (hi_ HB.out)))
           have n3_ := Aside0.mk (IsS_l1Cur.below (is_l1Cur_ HI0.out) hb)
           have n4_ := Aside0.mk (Kd.C_below (qe3_) hb)
           have n5_ := Aside0.mk (Kd.C_below (qe4_) hb)
           have n6_ := Aside0.mk (Kept.below (S := (fun k_ => (P1_ k_) ∨ k_ = g)) (qe0_) hb)
           have n7_ := Aside0.mk (below_step (hi_ HB.out) hb)
           clear HO1; clear HO374
           clear HI0; clear HR378
           clear HR394; clear HK
           clear HB
           have HO1 := n0_
           have HO374 := n1_
           have HO384 := n2_
           have HI0 := n3_
           have HR378 := n4_
           have HR394 := n5_
           have HK := n6_
           have HB := n7_
           clear n0_ n1_ n2_ n3_ n4_ n5_ n6_ n7_; clear hb ho30
           refine hK.out _ _ trivial (fun hHeld => ?_)
           clear hK K
           refine nm_ ?_
           refine on_ 4 24 HT_ spec_l7Dent.m0 rfl rfl (fun K hK => ?_)
           refine Kd.R_append_rows_step (Kd.int .u8) (w0 := w0) w0.heap.size (by rfl) (.tmp 20) (.tmp 23) 22 5 (.int .u8 0) 1 rfl Try.underlying22 info5 rfl (by decide) (by omega) v373 y372 y375 _ _ _ (fun k_ => (P1_ k_ ∨ w.heap.size ≤ k_) ∧ some k_ ≠ (.slice Ao21 l1.length co21 : Value).ownBlock) (fun _ => False) rfl rfl ?aO ?aR (fun _ _ h => h) (fun _ h => h.elim) ?aF ?aB ?aS ?aL ?_
           (case aR => repeat (first | exact (qe3_) | (with_reducible refine Kd.C_alloc ?_ _) | (with_reducible refine Kd.C_drewN ?_ _) | (with_reducible refine Kd.C_drew ?_)))
           (case aB => exact (hi_ HB.out))
           (case aF => exact (fun k_ hk => ⟨(.inr (Nat.le_trans (qe1_) hk)), Kd.fresh' (Kd.R_lt (rq_ HO1.out)) k_ hk⟩))
           (case aO => exact (rm_ HO374.out))
           (case aS => exact (below_size (hi_ HB.out)))
           (case aL => have := LMc15.out; omega)
           intro v380 w31 ho hb hg hat
           rw [← Ny379.out] at ho
           have n0_ := Aside0.mk (IsS_l1Cur.grown (is_l1Cur_ HI0.out) hg (IsS_l1Cur.own_ne HI0.out HO374.out (by decide)))
           have n1_ := Aside0.mk (Kd.R_after (ok := (fun k_ => (P1_ k_ ∨ w.heap.size ≤ k_))) (rq_ HO1.out) hg hat)
           have n2_ := Aside0.mk (Kd.R_over' (rq_ HO384.out) (Kd.R_typed (rq_ HO374.out)) (by decide) hg)
           have n3_ := Aside0.mk (hb)
           have n4_ := Aside0.mk (Kept.of_grown (S := (fun k_ => (P1_ k_) ∨ k_ = g)) hg (qe0_) (fun k_ e_ => Or.imp_left Or.inl ((HO374.out.1 k_ e_).1.1)))
           have n5_ := Aside0.mk ((show Kd.C (Kd.int .u8) w31 Ao21 y375.length y375 from by rw [Ny375.out]; exact Kd.C_take (m := (t363 : Int).toNat) ((Kd.R_reads' (Kd.R_after (ok := (fun k_ => (P1_ k_ ∨ w.heap.size ≤ k_))) (rq_ HO1.out) hg hat)).2.2) KL25.out))
           have n6_ := Aside0.mk ((show Kd.C (Kd.int .u8) w31 A26 y391.length y391 from by rw [Ny391.out, KA26.out]; exact Kd.C_drop (m := (t363 : Int).toNat) (c := co21) ((Kd.R_reads' (Kd.R_after (ok := (fun k_ => (P1_ k_ ∨ w.heap.size ≤ k_))) (rq_ HO1.out) hg hat)).2.2) KL26.out ((Kd.R_reads' (Kd.R_after (ok := (fun k_ => (P1_ k_ ∨ w.heap.size ≤ k_))) (rq_ HO1.out) hg hat)).2.1)))
           have n7_ := Aside0.mk (ho)
           clear HI0; clear HO1
           clear HO384; clear HB
           clear HK; clear HR378
           clear HR394; clear HO374
           have HI0 := n0_
           have HO1 := n1_
           have HO384 := n2_
           have HB := n3_
           have HK := n4_
           have HR378 := n5_
           have HR394 := n6_
           have HO381 := n7_
           clear n0_ n1_ n2_ n3_ n4_ n5_ n6_ n7_; clear ho hb hg hat
           refine hK.out _ _ trivial (fun hHeld => ?_)
           clear hK K
           refine nm_ ?_
           exact norm_ (qe17_) (hCont (v373, v380, v383) _ ⟨(rq_ HO1.out), (rq_ HO381.out), (rm_ HO384.out), (is_l1Cur_ HI0.out), (qe3_), (qe4_), (qe0_), (hi_ HB.out)⟩)
         ·
          skip
          refine Kd.R_lit_step (Kd.int .i64) _ 3 ?hg (N := 26) ?hd (xs := ([0, 1, 128, 3] : List Int)) (inner := [.int .i64 0, .int .i64 1, .int .i64 128, .int .i64 3]) (ok := fun _ => True) (okp := fun _ => True) ?hr ?hp (fun _ hk => hk) trivial (Below.refl _ _) (Nat.le_refl _) (by simp) ?_; (case hd => rfl); (case hg => rfl); (case hr => first | (go_simp; done) | (go_simp; rfl)); (case hp => exact (Reps.one (show Kd.M (Kd.int .i64) _ _ _ 0 [.int .i64 0] from rfl) (Reps.one (show Kd.M (Kd.int .i64) _ _ _ 1 [.int .i64 1] from rfl) (Reps.one (show Kd.M (Kd.int .i64) _ _ _ 128 [.int .i64 128] from rfl) (Reps.one (show Kd.M (Kd.int .i64) _ _ _ 3 [.int .i64 3] from rfl) (Reps.none _ _))))))
          intro v383 w27 ho28 hb hg_ hnew_
          clear hg_ hnew_
          (first | rw [← Ny382.out] at ho28 | (simp only [Int.reduceToNat] at ho28; rw [← Ny382.out] at ho28))
          have n0_ := Aside0.mk (Kd.R_below (rq_ HO1.out) hb)
          have n1_ := Aside0.mk (Kd.R_lower (Kd.R_newM (M := fun k_ => (P1_ k_ ∨ w.heap.size ≤ k_)) ho28 (qe1_) (fun k_ h_ => .inr h_)) (below_size (hi_ HB.out)))
          have n2_ := Aside0.mk (IsS_l1Cur.below (is_l1Cur_ HI0.out) hb)
          have n3_ := Aside0.mk (Kd.C_below (qe3_) hb)
          have n4_ := Aside0.mk (Kd.C_below (qe4_) hb)
          have n5_ := Aside0.mk (Kept.below (S := (fun k_ => (P1_ k_) ∨ k_ = g)) (qe0_) hb)
          have n6_ := Aside0.mk (below_step (hi_ HB.out) hb)
          clear HO1; clear HI0
          clear HR378; clear HR394
          clear HK; clear HB
          have HO1 := n0_
          have HO384 := n1_
          have HI0 := n2_
          have HR378 := n3_
          have HR394 := n4_
          have HK := n5_
          have HB := n6_
          clear n0_ n1_ n2_ n3_ n4_ n5_ n6_; clear hb ho28
          refine hK.out _ _ trivial (fun hHeld => ?_)
          clear hK K
          refine nm_ ?_
          refine on_ 0 20 HT_ spec_l7Dent.m1 rfl rfl (fun K hK => ?_)
          refine Kd.R_lit_step (Kd.int .u8) _ 5 ?hg (N := 20) ?hd (xs := ([] : List Int)) (inner := []) (ok := fun _ => True) (okp := fun _ => True) ?hr ?hp (fun _ hk => hk) trivial (Below.refl _ _) (Nat.le_refl _) (by simp) ?_; (case hd => rfl); (case hg => rfl); (case hr => first | (go_simp; done) | (go_simp; rfl)); (case hp => exact (Reps.none _ _))
          intro v373 w29 ho30 hb hg_ hnew_
          clear hg_ hnew_
          (first | rw [← Ny372.out] at ho30 | (simp only [Int.reduceToNat] at ho30; rw [← Ny372.out] at ho30))
          have n0_ := Aside0.mk (Kd.R_elder' (rq_ HO1.out) (Kd.R_base ho30) hb)
          have n1_ := Aside0.mk (Kd.R_below (rq_ HO384.out) hb)
          have n2_ := Aside0.mk (Kd.R_lower (Kd.R_new' (Kd.R_newM (M := fun k_ => (P1_ k_ ∨ w.heap.size ≤ k_)) ho30 (qe1_) (fun k_ h_ => .inr h_)) (Kd.R_lt (rq_ HO1.out))) (below_size (hi_ HB.out)))
          have n3_ := Aside0.mk (IsS_l1Cur.below (is_l1Cur_ HI0.out) hb)
          have n4_ := Aside0.mk (Kd.C_below (qe3_) hb)
          have n5_ := Aside0.mk (Kd.C_below (qe4_) hb)
          have n6_ := Aside0.mk (Kept.below (S := (fun k_ => (P1_ k_) ∨ k_ = g)) (qe0_) hb)
          have n7_ := Aside0.mk (below_step (hi_ HB.out) hb)
          clear HO1; clear HO384
          clear HI0; clear HR378
          clear HR394; clear HK
          clear HB
          have HO1 := n0_
          have HO384 := n1_
          have HO374 := n2_
          have HI0 := n3_
          have HR378 := n4_
          have HR394 := n5_
          have HK := n6_
          have HB := n7_
          clear n0_ n1_ n2_ n3_ n4_ n5_ n6_ n7_; clear hb ho30
          refine hK.out _ _ trivial (fun hHeld => ?_)
          clear hK K
          refine nm_ ?_
          refine on_ 4 24 HT_ spec_l7Dent.m0 rfl rfl (fun K hK => ?_)
          refine Kd.R_append_rows_step (Kd.int .u8) (w0 := w0) w0.heap.size (by rfl) (.tmp 20) (.tmp 23) 22 5 (.int .u8 0) 1 rfl Try.underlying22 info5 rfl (by decide) (by omega) v373 y372 y375 _ _ _ (fun k_ => (P1_ k_ ∨ w.heap.size ≤ k_) ∧ some k_ ≠ (.slice Ao21 l1.length co21 : Value).ownBlock) (fun _ => False) rfl rfl ?aO ?aR (fun _ _ h => h) (fun _ h => h.elim) ?aF ?aB ?aS ?aL ?_
          (case aR => repeat (first | exact (qe3_) | (with_reducible refine Kd.C_alloc ?_ _) | (with_reducible refine Kd.C_drewN ?_ _) | (with_reducible refine Kd.C_drew ?_)))
          (case aB => exact (hi_ HB.out))
          (case aF => exact (fun k_ hk => ⟨(.inr (Nat.le_trans (qe1_) hk)), Kd.fresh' (Kd.R_lt (rq_ HO1.out)) k_ hk⟩))
          (case aO => exact (rm_ HO374.out))
          (case aS => exact (below_size (hi_ HB.out)))
          (case aL => have := LMc15.out; omega)
          intro v380 w31 ho hb hg hat
          rw [← Ny379.out] at ho
          have n0_ := Aside0.mk (IsS_l1Cur.grown (is_l1Cur_ HI0.out) hg (IsS_l1Cur.own_ne HI0.out HO374.out (by decide)))
          have n1_ := Aside0.mk (Kd.R_after (ok := (fun k_ => (P1_ k_ ∨ w.heap.size ≤ k_))) (rq_ HO1.out) hg hat)
          have n2_ := Aside0.mk (Kd.R_over' (rq_ HO384.out) (Kd.R_typed (rq_ HO374.out)) (by decide) hg)
          have n3_ := Aside0.mk (hb)
          have n4_ := Aside0.mk (Kept.of_grown (S := (fun k_ => (P1_ k_) ∨ k_ = g)) hg (qe0_) (fun k_ e_ => Or.imp_left Or.inl ((HO374.out.1 k_ e_).1.1)))
          have n5_ := Aside0.mk ((show Kd.C (Kd.int .u8) w31 Ao21 y375.length y375 from by rw [Ny375.out]; exact Kd.C_take (m := (t363 : Int).toNat) ((Kd.R_reads' (Kd.R_after (ok := (fun k_ => (P1_ k_ ∨ w.heap.size ≤ k_))) (rq_ HO1.out) hg hat)).2.2) KL25.out))
          have n6_ := Aside0.mk ((show Kd.C (Kd.int .u8) w31 A26 y391.length y391 from by rw [Ny391.out, KA26.out]; exact Kd.C_drop (m := (t363 : Int).toNat) (c := co21) ((Kd.R_reads' (Kd.R_after (ok := (fun k_ => (P1_ k_ ∨ w.heap.size ≤ k_))) (rq_ HO1.out) hg hat)).2.2) KL26.out ((Kd.R_reads' (Kd.R_after (ok := (fun k_ => (P1_ k_ ∨ w.heap.size ≤ k_))) (rq_ HO1.out) hg hat)).2.1)))
          have n7_ := Aside0.mk (ho)
          clear HI0; clear HO1
          clear HO384; clear HB
          clear HK; clear HR378
          clear HR394; clear HO374
          have HI0 := n0_
          have HO1 := n1_
          have HO384 := n2_
          have HB := n3_
          have HK := n4_
          have HR378 := n5_
          have HR394 := n6_
          have HO381 := n7_
          clear n0_ n1_ n2_ n3_ n4_ n5_ n6_ n7_; clear ho hb hg hat
          refine hK.out _ _ trivial (fun hHeld => ?_)
          clear hK K
          refine nm_ ?_
          exact norm_ (qe17_) (hCont (v373, v380, v383) _ ⟨(rq_ HO1.out), (rq_ HO381.out), (rm_ HO384.out), (is_l1Cur_ HI0.out), (qe3_), (qe4_), (qe0_), (hi_ HB.out)⟩)
        rintro ⟨v373, v380, v383⟩ w32 ⟨h0_, h1_, h2_, h3_, h4_, h5_, h6_, h7_⟩
        have n0_ : Aside0 (Kd.R (Kd.int .u8) 5 w32 w0.heap.size (fun k_ => (P1_ k_ ∨ w.heap.size ≤ k_) ∧ some k_ ≠ (v380 : Value).ownBlock) (.slice Ao21 l1.length co21) l1) := ⟨h0_⟩
        have n1_ : Aside0 (Kd.R (Kd.int .u8) 5 w32 w0.heap.size (fun k_ => (P1_ k_ ∨ w.heap.size ≤ k_) ∧ some k_ ≠ (.slice Ao21 l1.length co21 : Value).ownBlock) v380 y379) := ⟨h1_⟩
        have n2_ : Aside0 (Kd.R (Kd.int .i64) 3 w32 w0.heap.size (fun k_ => (P1_ k_ ∨ w.heap.size ≤ k_)) v383 y382) := ⟨h2_⟩
        have n3_ : Aside0 (IsS_l1Cur w0 w32 g s0_0 t367 t368) := ⟨h3_⟩
        have n4_ : Aside0 (Kd.C (Kd.int .u8) w32 Ao21 y375.length y375) := ⟨h4_⟩
        have n5_ : Aside0 (Kd.C (Kd.int .u8) w32 A26 y391.length y391) := ⟨h5_⟩
        have n6_ : Aside0 (Kept w w32 (fun k_ => (P1_ k_) ∨ k_ = g)) := ⟨h6_⟩
        have n7_ : Aside0 (Below w0.heap.size w0 w32) := ⟨h7_⟩
        clear HO1; clear HI0
        clear HK; clear HB
        clear h0_ h1_ h2_ h3_ h4_ h5_ h6_ h7_
        have HO1 := n0_
        have HO381 := n1_
        have HO384 := n2_
        have HI0 := n3_
        have HR378 := n4_
        have HR394 := n5_
        have HK := n6_
        have HB := n7_
        clear n0_ n1_ n2_ n3_ n4_ n5_ n6_ n7_
        have hHeld := trivial
        obtain ⟨Ao33, co33, eo33⟩ := Kd.R_slice HO384.out
        (first | subst eo33 | (injection eo33 with f1_ f2_ f3_; have f4_ := f1_.symm; have f5_ := f3_.symm; clear f1_ f2_ f3_; subst f4_; subst f5_))
        refine norm_ (a' := ?_) ?_ ?_
        rotate_left; (focus simp only [putAll, Act.put, List.setIfInBounds_toArray, List.set_cons_zero, List.set_cons_succ]; rfl)
        refine on_ 7 27 HT_ #[true, true, true, true, true, true, true, true, false, false, true, true, true, false, false, false] rfl rfl (fun K hK => ?_)
        refine goes_ Try.func104 (by kernel_rfl) rfl #[.pointer (some ⟨g, 0, none⟩), .slice Ao33 y382.length co33] (by rfl) rfl rfl sm_ ?_
        with_reducible refine (spec_l1PickInt.calls g s0_0 t367 t368 _ _ y382 t385 t386 t387 w0 _ ?side1 ?side2 ?side3 ?side4 ?side5 A16.out).mono ?_
        (case side1 => repeat (first | (with_reducible first | exact HI0.out | apply IsS_l1Cur.alloc | apply IsS_l1Cur.drewN | apply IsS_l1Cur.drew | apply IsS_l1Cur.set_1 | apply IsS_l1Cur.set_2) | exact HI0.out))
        (case side2 => repeat (first | (with_reducible first | exact HB.out | apply below_alloc | apply pw_below_drewN | apply below_drew1 | refine below_set ?_ (IsS_l1Cur.ge HI0.out)) | exact HB.out))
        (case side3 => repeat (first | exact (Kd.R_reads' HO384.out).2.2 | (with_reducible refine Kd.C_alloc ?_ _) | (with_reducible refine Kd.C_drewN ?_ _) | (with_reducible refine Kd.C_drew ?_)))
        (case side4 => exact (Kd.R_reads' HO384.out).2.1)
        (case side5 => exact far_slice (IsS_l1Cur.own_ne HI0.out HO384.out (by decide)))
        rintro e w34 ⟨rfl, hi, hb, hk⟩
        refine ⟨_, rfl, ?_⟩
        have n0_ := Aside0.mk (Kd.R_mono (Kd.R_keep (IsS_l1Cur.apart (show IsS_l1Cur w0 _ g s0_0 t367 t368 from is_l1Cur_ HI0.out) (rq_ HO1.out) (by decide)) hk (fun _ h => h.2)) (fun _ h => h.1))
        have n1_ := Aside0.mk (Kd.R_mono (Kd.R_keep (IsS_l1Cur.apart (show IsS_l1Cur w0 _ g s0_0 t367 t368 from is_l1Cur_ HI0.out) (rq_ HO381.out) (by decide)) hk (fun _ h => h.2)) (fun _ h => h.1))
        have n2_ := Aside0.mk (Kd.R_mono (Kd.R_keep (IsS_l1Cur.apart (show IsS_l1Cur w0 _ g s0_0 t367 t368 from is_l1Cur_ HI0.out) (rq_ HO384.out) (by decide)) hk (fun _ h => h.2)) (fun _ h => h.1))
        have n3_ := Aside0.mk ((show Kd.C (Kd.int .u8) w34 Ao21 y375.length y375 from by rw [Ny375.out]; exact Kd.C_take (m := (t363 : Int).toNat) ((Kd.R_reads' (Kd.R_mono (Kd.R_keep (IsS_l1Cur.apart (show IsS_l1Cur w0 _ g s0_0 t367 t368 from is_l1Cur_ HI0.out) (rq_ HO1.out) (by decide)) hk (fun _ h => h.2)) (fun _ h => h.1))).2.2) KL25.out))
        have n4_ := Aside0.mk ((show Kd.C (Kd.int .u8) w34 A26 y391.length y391 from by rw [Ny391.out, KA26.out]; exact Kd.C_drop (m := (t363 : Int).toNat) (c := co21) ((Kd.R_reads' (Kd.R_mono (Kd.R_keep (IsS_l1Cur.apart (show IsS_l1Cur w0 _ g s0_0 t367 t368 from is_l1Cur_ HI0.out) (rq_ HO1.out) (by decide)) hk (fun _ h => h.2)) (fun _ h => h.1))).2.2) KL26.out ((Kd.R_reads' (Kd.R_mono (Kd.R_keep (IsS_l1Cur.apart (show IsS_l1Cur w0 _ g s0_0 t367 t368 from is_l1Cur_ HI0.out) (rq_ HO1.out) (by decide)) hk (fun _ h => h.2)) (fun _ h => h.1))).2.1)))
        have n5_ := Aside0.mk (Kept.of_keep (S := (fun k_ => (P1_ k_) ∨ k_ = g)) (qe0_) hk (.inl (.inr rfl)))
        have n6_ := Aside0.mk (hb)
        have n7_ := Aside0.mk (hi)
        clear HO1; clear HO381
        clear HO384; clear HR378
        clear HR394; clear HK
        clear HB; clear HI0
        have HO1 := n0_
        have HO381 := n1_
        have HO384 := n2_
        have HR378 := n3_
        have HR394 := n4_
        have HK := n5_
        have HB := n6_
        have HI0 := n7_
        clear n0_ n1_ n2_ n3_ n4_ n5_ n6_ n7_
        (try clear hb)
        (try clear hb2)
        (try clear hk)
        (try clear hi)
        refine hK.out _ _ trivial (fun hHeld => ?_)
        clear hK K
        refine nm_ ?_
        refine pI_ 8 28 HT_ #[true, true, true, true, true, true, true, true, true, false, true, true, true, false, false, false] rfl rfl ?_
        refine on_ 9 29 HT_ #[true, true, true, true, true, true, true, true, true, true, true, true, true, false, false, false] rfl rfl (fun K hK => ?_)
        refine Kd.R_lit_step (Kd.int .u8) _ 5 ?hg (N := 29) ?hd (xs := ([(t385) % 256] : List Int)) (inner := [.int .u8 ((t385) % 256)]) (ok := fun _ => True) (okp := fun _ => True) ?hr ?hp (fun _ hk => hk) trivial (Below.refl _ _) (Nat.le_refl _) (by simp) ?_; (case hd => rfl); (case hg => rfl); (case hr => first | (go_simp; done) | (go_simp; rfl)); (case hp => exact (Reps.one (show Kd.M (Kd.int .u8) _ _ _ ((t385) % 256) [.int .u8 ((t385) % 256)] from rfl) (Reps.none _ _)))
        intro v389 w35 ho36 hb hg_ hnew_
        clear hg_ hnew_
        (first | rw [← Ny388.out] at ho36 | (simp only [Int.reduceToNat] at ho36; rw [← Ny388.out] at ho36))
        have n0_ := Aside0.mk (Kd.R_elder' (rq_ HO1.out) (Kd.R_base ho36) hb)
        have n1_ := Aside0.mk (Kd.R_elder' (rq_ HO381.out) (Kd.R_base ho36) hb)
        have n2_ := Aside0.mk (Kd.R_below (rq_ HO384.out) hb)
        have n3_ := Aside0.mk (Kd.R_lower (Kd.R_new' (Kd.R_new' (Kd.R_newM (M := fun k_ => (P1_ k_ ∨ w.heap.size ≤ k_)) ho36 (qe1_) (fun k_ h_ => .inr h_)) (Kd.R_lt (rq_ HO1.out))) (Kd.R_lt (rq_ HO381.out))) (below_size (hi_ HB.out)))
        have n4_ := Aside0.mk (IsS_l1Cur.below (is_l1Cur_ HI0.out) hb)
        have n5_ := Aside0.mk (Kd.C_below (qe3_) hb)
        have n6_ := Aside0.mk (Kd.C_below (qe4_) hb)
        have n7_ := Aside0.mk (Kept.below (S := (fun k_ => (P1_ k_) ∨ k_ = g)) (qe0_) hb)
        have n8_ := Aside0.mk (below_step (hi_ HB.out) hb)
        clear HO1; clear HO381
        clear HO384; clear HI0
        clear HR378; clear HR394
        clear HK; clear HB
        have HO1 := n0_
        have HO381 := n1_
        have HO384 := n2_
        have HO390 := n3_
        have HI0 := n4_
        have HR378 := n5_
        have HR394 := n6_
        have HK := n7_
        have HB := n8_
        clear n0_ n1_ n2_ n3_ n4_ n5_ n6_ n7_ n8_; clear hb ho36
        refine hK.out _ _ trivial (fun hHeld => ?_)
        clear hK K
        refine nm_ ?_
        refine on_ 13 33 HT_ #[true, true, true, true, true, true, true, true, true, true, true, true, true, true, false, false] rfl rfl (fun K hK => ?_)
        refine Kd.R_append_rows_step (Kd.int .u8) (w0 := w0) w0.heap.size (by rfl) (.tmp 29) (.tmp 32) 22 5 (.int .u8 0) 1 rfl Try.underlying22 info5 rfl (by decide) (by omega) v389 y388 y391 _ _ _ (fun k_ => (P1_ k_ ∨ w.heap.size ≤ k_) ∧ some k_ ≠ (.slice Ao21 l1.length co21 : Value).ownBlock ∧ some k_ ≠ (v380 : Value).ownBlock) (fun _ => False) rfl rfl ?aO ?aR (fun _ _ h => h) (fun _ h => h.elim) ?aF ?aB ?aS ?aL ?_
        (case aR => repeat (first | exact (qe4_) | (with_reducible refine Kd.C_alloc ?_ _) | (with_reducible refine Kd.C_drewN ?_ _) | (with_reducible refine Kd.C_drew ?_)))
        (case aB => exact (hi_ HB.out))
        (case aF => exact (fun k_ hk => ⟨(.inr (Nat.le_trans (qe1_) hk)), Kd.fresh' (Kd.R_lt (rq_ HO1.out)) k_ hk, Kd.fresh' (Kd.R_lt (rq_ HO381.out)) k_ hk⟩))
        (case aO => exact (rm_ HO390.out))
        (case aS => exact (below_size (hi_ HB.out)))
        (case aL => have := LMc19.out; omega)
        intro v396 w37 ho hb hg hat
        rw [← Ny395.out] at ho
        have n0_ := Aside0.mk (IsS_l1Cur.grown (is_l1Cur_ HI0.out) hg (IsS_l1Cur.own_ne HI0.out HO390.out (by decide)))
        have n1_ := Aside0.mk (Kd.R_after (ok := (fun k_ => (P1_ k_ ∨ w.heap.size ≤ k_) ∧ some k_ ≠ (v380 : Value).ownBlock)) (rq_ HO1.out) hg hat)
        have n2_ := Aside0.mk (Kd.R_after (ok := (fun k_ => (P1_ k_ ∨ w.heap.size ≤ k_) ∧ some k_ ≠ (.slice Ao21 l1.length co21 : Value).ownBlock)) (rq_ HO381.out) hg hat)
        have n3_ := Aside0.mk (Kd.R_over' (rq_ HO384.out) (Kd.R_typed (rq_ HO390.out)) (by decide) hg)
        have n4_ := Aside0.mk (hb)
        have n5_ := Aside0.mk (Kept.of_grown (S := (fun k_ => (P1_ k_) ∨ k_ = g)) hg (qe0_) (fun k_ e_ => Or.imp_left Or.inl ((HO390.out.1 k_ e_).1.1.1)))
        have n6_ := Aside0.mk ((show Kd.C (Kd.int .u8) w37 Ao21 y375.length y375 from by rw [Ny375.out]; exact Kd.C_take (m := (t363 : Int).toNat) ((Kd.R_reads' (Kd.R_after (ok := (fun k_ => (P1_ k_ ∨ w.heap.size ≤ k_) ∧ some k_ ≠ (v380 : Value).ownBlock)) (rq_ HO1.out) hg hat)).2.2) KL25.out))
        have n7_ := Aside0.mk ((show Kd.C (Kd.int .u8) w37 A26 y391.length y391 from by rw [Ny391.out, KA26.out]; exact Kd.C_drop (m := (t363 : Int).toNat) (c := co21) ((Kd.R_reads' (Kd.R_after (ok := (fun k_ => (P1_ k_ ∨ w.heap.size ≤ k_) ∧ some k_ ≠ (v380 : Value).ownBlock)) (rq_ HO1.out) hg hat)).2.2) KL26.out ((Kd.R_reads' (Kd.R_after (ok := (fun k_ => (P1_ k_ ∨ w.heap.size ≤ k_) ∧ some k_ ≠ (v380 : Value).ownBlock)) (rq_ HO1.out) hg hat)).2.1)))
        have n8_ := Aside0.mk (ho)
        clear HI0; clear HO1
        clear HO381; clear HO384
        clear HB; clear HK
        clear HR378; clear HR394
        clear HO390
        have HI0 := n0_
        have HO1 := n1_
        have HO381 := n2_
        have HO384 := n3_
        have HB := n4_
        have HK := n5_
        have HR378 := n6_
        have HR394 := n7_
        have HO397 := n8_
        clear n0_ n1_ n2_ n3_ n4_ n5_ n6_ n7_ n8_; clear ho hb hg hat
        obtain ⟨Ao39, co39, eo39⟩ := Kd.R_slice HO397.out
        (first | subst eo39 | (injection eo39 with f1_ f2_ f3_; have f4_ := f1_.symm; have f5_ := f3_.symm; clear f1_ f2_ f3_; subst f4_; subst f5_))
        refine hK.out _ _ trivial (fun hHeld => ?_)
        clear hK K
        refine nm_ ?_
        refine on_ 14 34 HT_ #[true, true, true, true, true, true, true, true, true, true, true, true, true, true, true, false] rfl rfl (fun K hK => ?_)
        refine Kd.R_append_rows_step (Kd.int .u8) (w0 := w0) w0.heap.size (by rfl) (.tmp 24) (.tmp 33) 22 5 (.int .u8 0) 1 rfl Try.underlying22 info5 rfl (by decide) (by omega) v380 y379 y395 _ _ _ (fun k_ => (P1_ k_ ∨ w.heap.size ≤ k_) ∧ some k_ ≠ (.slice Ao21 l1.length co21 : Value).ownBlock ∧ some k_ ≠ (.slice Ao39 y395.length co39 : Value).ownBlock) (fun _ => False) rfl rfl ?aO ?aR (fun _ _ h => h) (fun _ h => h.elim) ?aF ?aB ?aS ?aL ?_
        (case aR => repeat (first | exact (Kd.R_reads' HO397.out).2.2 | (with_reducible refine Kd.C_alloc ?_ _) | (with_reducible refine Kd.C_drewN ?_ _) | (with_reducible refine Kd.C_drew ?_)))
        (case aB => exact (hi_ HB.out))
        (case aF => exact (fun k_ hk => ⟨(.inr (Nat.le_trans (qe1_) hk)), Kd.fresh' (Kd.R_lt (rq_ HO1.out)) k_ hk, Kd.fresh' (Kd.R_lt (rq_ HO397.out)) k_ hk⟩))
        (case aO => exact (rm_ HO381.out))
        (case aS => exact (below_size (hi_ HB.out)))
        (case aL => have := LMc20.out; omega)
        intro v399 w38 ho hb hg hat
        rw [← Ny398.out] at ho
        have n0_ := Aside0.mk (IsS_l1Cur.grown (is_l1Cur_ HI0.out) hg (IsS_l1Cur.own_ne HI0.out HO381.out (by decide)))
        have n1_ := Aside0.mk (Kd.R_after (ok := (fun k_ => (P1_ k_ ∨ w.heap.size ≤ k_) ∧ some k_ ≠ (.slice Ao39 y395.length co39 : Value).ownBlock)) (rm_ HO1.out) hg hat)
        have n2_ := Aside0.mk (Kd.R_over' (rq_ HO384.out) (Kd.R_typed (rq_ HO381.out)) (by decide) hg)
        have n3_ := Aside0.mk (Kd.R_after (ok := (fun k_ => (P1_ k_ ∨ w.heap.size ≤ k_) ∧ some k_ ≠ (.slice Ao21 l1.length co21 : Value).ownBlock)) (rm_ HO397.out) hg hat)
        have n4_ := Aside0.mk (hb)
        have n5_ := Aside0.mk (Kept.of_grown (S := (fun k_ => (P1_ k_) ∨ k_ = g)) hg (qe0_) (fun k_ e_ => Or.imp_left Or.inl ((HO381.out.1 k_ e_).1.1)))
        have n6_ := Aside0.mk ((show Kd.C (Kd.int .u8) w38 Ao21 y375.length y375 from by rw [Ny375.out]; exact Kd.C_take (m := (t363 : Int).toNat) ((Kd.R_reads' (Kd.R_after (ok := (fun k_ => (P1_ k_ ∨ w.heap.size ≤ k_) ∧ some k_ ≠ (.slice Ao39 y395.length co39 : Value).ownBlock)) (rm_ HO1.out) hg hat)).2.2) KL25.out))
        have n7_ := Aside0.mk ((show Kd.C (Kd.int .u8) w38 A26 y391.length y391 from by rw [Ny391.out, KA26.out]; exact Kd.C_drop (m := (t363 : Int).toNat) (c := co21) ((Kd.R_reads' (Kd.R_after (ok := (fun k_ => (P1_ k_ ∨ w.heap.size ≤ k_) ∧ some k_ ≠ (.slice Ao39 y395.length co39 : Value).ownBlock)) (rm_ HO1.out) hg hat)).2.2) KL26.out ((Kd.R_reads' (Kd.R_after (ok := (fun k_ => (P1_ k_ ∨ w.heap.size ≤ k_) ∧ some k_ ≠ (.slice Ao39 y395.length co39 : Value).ownBlock)) (rm_ HO1.out) hg hat)).2.1)))
        have n8_ := Aside0.mk (ho)
        clear HI0; clear HO1
        clear HO384; clear HO397
        clear HB; clear HK
        clear HR378; clear HR394
        clear HO381
        have HI0 := n0_
        have HO1 := n1_
        have HO384 := n2_
        have HO397 := n3_
        have HB := n4_
        have HK := n5_
        have HR378 := n6_
        have HR394 := n7_
        have HO400 := n8_
        clear n0_ n1_ n2_ n3_ n4_ n5_ n6_ n7_ n8_; clear ho hb hg hat
        refine hK.out _ _ trivial (fun hHeld => ?_)
        clear hK K
        refine nm_ ?_
        refine pI_ 15 4 HT_ #[true, true, true, true, true, true, true, true, true, true, true, true, true, true, true, true] rfl rfl ?_
        refine done_ (done_of HT_.out (by kernel_rfl)) ?_
        try go_wp2
        go_ret
        exact ⟨_, er_, by (with_reducible repeat (first | apply Kd.R_alloc | apply Kd.R_drewN | apply Kd.R_drew)); exact Kd.R_mono HO400.out (fun _ hk => hk.1), is_l1Cur_ HI0.out, qe14_, qe0_⟩
       ·
        rw [if_neg c20] at H
        exact absurd H (by simp)
      ·
       rw [if_neg c19] at H
       exact absurd H (by simp)
     ·
      rw [if_neg c15] at H
      exact absurd H (by simp)
    ·
     rw [if_neg c14] at H
     exact absurd H (by simp)
   ·
    rw [if_neg c13] at H
    exact absurd H (by simp)
  ·
   rw [if_neg c12] at H
   have c12b0 : (t366 == 1) = false := beq_eq_false_iff_ne.mpr c12
   have c12b1 : (t366 != 1) = true := bne_iff_ne.mpr c12
   simp only [Option.some.injEq, Prod.mk.injEq] at H
   obtain ⟨rfl, rfl, rfl⟩ := H
   obtain ⟨Ao40, co40, eo40⟩ := Kd.R_slice HO1.out
   subst eo40
   go_enter Try.func121, Try.ntmps121
   go_wp2_with (first | ((with_reducible refine gate_callee (f := 78) rfl ?_); refine goesL_ (some 10) rfl rfl Try.func78 (by kernel_rfl) rfl #[.pointer (some ⟨g, 0, none⟩), .int .i64 (wrap64 ((l1.length : Int) + 1))] rfl sm_ ?_; (with_reducible refine (spec_l1Below.calls g s0_0 s0_1 s0_2 (wrap64 ((l1.length : Int) + 1)) t363 t364 t365 w0 _ ?side1 ?side2 A3.out).mono ?_); (case side1 => repeat (first | (with_reducible first | exact HI0.out | apply IsS_l1Cur.alloc | apply IsS_l1Cur.drewN | apply IsS_l1Cur.drew | apply IsS_l1Cur.set_1 | apply IsS_l1Cur.set_2) | exact HI0.out)); (case side2 => repeat (first | (with_reducible first | exact HB.out | apply below_alloc | apply pw_below_drewN | apply below_drew1 | refine below_set ?_ (IsS_l1Cur.ge HI0.out)) | exact HB.out)); rintro e w41 ⟨rfl, hi, hb, hk⟩; refine ⟨_, rfl, ?_⟩; have n0_ := Aside0.mk (Kd.R_mono (Kd.R_keep (IsS_l1Cur.apart (show IsS_l1Cur w0 _ g s0_0 s0_1 s0_2 from is_l1Cur_ HI0.out) (rq_ HO1.out) (by decide)) hk (fun _ h => h.2)) (fun _ h => h.1)); have n1_ := Aside0.mk (Kept.of_keep (S := (fun k_ => (P1_ k_) ∨ k_ = g)) (qe0_) hk (.inl (.inr rfl))); have n2_ := Aside0.mk (hb); have n3_ := Aside0.mk (hi); clear HO1; clear HK; clear HB; clear HI0; have HO1 := n0_; have HK := n1_; have HB := n2_; have HI0 := n3_; clear n0_ n1_ n2_ n3_; (try clear hb); (try clear hb2); (try clear hk); (try clear hi)) | ((with_reducible refine gate_callee (f := 78) rfl ?_); refine goesL_ (some 12) rfl rfl Try.func78 (by kernel_rfl) rfl #[.pointer (some ⟨g, 0, none⟩), .int .i64 5] rfl sm_ ?_; (with_reducible refine (spec_l1Below.calls g s0_0 t364 t365 5 t366 t367 t368 w0 _ ?side1 ?side2 A4.out).mono ?_); (case side1 => repeat (first | (with_reducible first | exact HI0.out | apply IsS_l1Cur.alloc | apply IsS_l1Cur.drewN | apply IsS_l1Cur.drew | apply IsS_l1Cur.set_1 | apply IsS_l1Cur.set_2) | exact HI0.out)); (case side2 => repeat (first | (with_reducible first | exact HB.out | apply below_alloc | apply pw_below_drewN | apply below_drew1 | refine below_set ?_ (IsS_l1Cur.ge HI0.out)) | exact HB.out)); rintro e w42 ⟨rfl, hi, hb, hk⟩; refine ⟨_, rfl, ?_⟩; have n0_ := Aside0.mk (Kd.R_mono (Kd.R_keep (IsS_l1Cur.apart (show IsS_l1Cur w0 _ g s0_0 t364 t365 from is_l1Cur_ HI0.out) (rq_ HO1.out) (by decide)) hk (fun _ h => h.2)) (fun _ h => h.1)); have n1_ := Aside0.mk (Kept.of_keep (S := (fun k_ => (P1_ k_) ∨ k_ = g)) (qe0_) hk (.inl (.inr rfl))); have n2_ := Aside0.mk (hb); have n3_ := Aside0.mk (hi); clear HO1; clear HK; clear HB; clear HI0; have HO1 := n0_; have HK := n1_; have HB := n2_; have HI0 := n3_; clear n0_ n1_ n2_ n3_; (try clear hb); (try clear hb2); (try clear hk); (try clear hi)))
   go_ret
   exact ⟨_, er_, by (with_reducible repeat (first | apply Kd.R_alloc | apply Kd.R_drewN | apply Kd.R_drew)); exact HO1.out, is_l1Cur_ HI0.out, qe14_, qe0_⟩
/-! ### spec_DrawCmdOf: function 64 -/
def spec_DrawCmdOf.f (k : Nat) (l0 : List Int) : Option (List Int × Int) := (spec_l1New.f k l0).bind fun bt437 => ((spec_l2DrawRight.f bt437.1 bt437.2.1 bt437.2.2).bind fun bt441 => ((spec_CmdBytes.f k bt441.1 bt441.2.1 bt441.2.2.1 bt441.2.2.2.1 bt441.2.2.2.2.1 bt441.2.2.2.2.2.1 bt441.2.2.2.2.2.2.1 bt441.2.2.2.2.2.2.2.1).bind fun t451 => ((spec_l7DrawNums.f k bt437.1 bt441.2.2.2.2.2.2.2.2.1 bt441.2.2.2.2.2.2.2.2.2).bind fun bt454 => (if t451.length + bt454.1.length < 140737488355328 then ((spec_l7Dent.f bt437.1 bt454.2.1 bt454.2.2 (t451 ++ bt454.1)).bind fun bt462 => ((spec_l1PickInt.f bt437.1 bt462.2.1 bt462.2.2 (([0, 0, 0, 1, (bt462.1.length : Int), (-1)] : List Int))).bind fun bt470 => (some (bt462.1, bt470.1)))) else (none)))))
theorem spec_DrawCmdOf.mono : ∀ a0 k, LeO (spec_DrawCmdOf.f k a0) (spec_DrawCmdOf.f (k + 1) a0) := by
  intro a0 k
  unfold spec_DrawCmdOf.f
  repeat' first
      | (with_reducible exact spec_CmdBytes.mono _ _ _ _ _ _ _ _ _)
      | (with_reducible exact spec_l1New.mono _ _)
      | (with_reducible exact spec_l7DrawNums.mono _ _ _ _)
      | (with_reducible exact LeO.refl _)
      | (with_reducible exact LeO.none _)
      | (with_reducible refine LeO.ite ?_ ?_)
      | (with_reducible refine LeO.bind ?_ (fun _ => ?_))
      | exact spec_CmdBytes.mono _ _ _ _ _ _ _ _ _
      | exact spec_l1New.mono _ _
      | exact spec_l7DrawNums.mono _ _ _ _
      | exact LeO.none _
      | refine LeO.ite ?_ ?_
      | refine LeO.bind ?_ (fun _ => ?_)
set_option maxHeartbeats 8000000 in
set_option maxRecDepth 100000 in
theorem spec_DrawCmdOf.calls (k : Nat) (A0 : Option Addr) (c0 : Nat) (l0 : List Int) (r1 : List Int) (r2 : Int) (w : World) (hr0 : Kd.C (Kd.int .u8) w A0 l0.length l0) (hc0 : l0.length ≤ c0) (h : spec_DrawCmdOf.f k l0 = some (r1, r2)) :
    Calls Try.prog 64 #[.slice A0 l0.length c0] w fun e w' => ∃ v0_ : Value, e = .returned (.tuple #[v0_, .int .i64 r2]) ∧ Kd.R (Kd.int .u8) 5 w' w.heap.size (fun _ => True) v0_ r1 ∧ Below w.heap.size w w' := by
  have HR0 := Aside0.mk hr0
  have HC0 := Aside0.mk hc0
  clear hr0 hc0
  have HB := Aside0.mk (Below.refl w.heap.size w)
  have H : ((spec_l1New.f k l0).bind fun bt437 => ((spec_l2DrawRight.f bt437.1 bt437.2.1 bt437.2.2).bind fun bt441 => ((spec_CmdBytes.f k bt441.1 bt441.2.1 bt441.2.2.1 bt441.2.2.2.1 bt441.2.2.2.2.1 bt441.2.2.2.2.2.1 bt441.2.2.2.2.2.2.1 bt441.2.2.2.2.2.2.2.1).bind fun t451 => ((spec_l7DrawNums.f k bt437.1 bt441.2.2.2.2.2.2.2.2.1 bt441.2.2.2.2.2.2.2.2.2).bind fun bt454 => (if t451.length + bt454.1.length < 140737488355328 then ((spec_l7Dent.f bt437.1 bt454.2.1 bt454.2.2 (t451 ++ bt454.1)).bind fun bt462 => ((spec_l1PickInt.f bt437.1 bt462.2.1 bt462.2.2 (([0, 0, 0, 1, (bt462.1.length : Int), (-1)] : List Int))).bind fun bt470 => (some (bt462.1, bt470.1)))) else (none)))))) = some (r1, r2) := h
  clear h
  replace H := Option.bind_eq_some_iff.mp H
  obtain ⟨⟨t437, t438, t439⟩, A20, H⟩ := H
  replace H : ((spec_l2DrawRight.f t437 t438 t439).bind fun bt441 => ((spec_CmdBytes.f k bt441.1 bt441.2.1 bt441.2.2.1 bt441.2.2.2.1 bt441.2.2.2.2.1 bt441.2.2.2.2.2.1 bt441.2.2.2.2.2.2.1 bt441.2.2.2.2.2.2.2.1).bind fun t451 => ((spec_l7DrawNums.f k t437 bt441.2.2.2.2.2.2.2.2.1 bt441.2.2.2.2.2.2.2.2.2).bind fun bt454 => (if t451.length + bt454.1.length < 140737488355328 then ((spec_l7Dent.f t437 bt454.2.1 bt454.2.2 (t451 ++ bt454.1)).bind fun bt462 => ((spec_l1PickInt.f t437 bt462.2.1 bt462.2.2 (([0, 0, 0, 1, (bt462.1.length : Int), (-1)] : List Int))).bind fun bt470 => (some (bt462.1, bt470.1)))) else (none))))) = some (r1, r2) := H
  have A2 := Aside0.mk A20
  clear A20
  replace H := Option.bind_eq_some_iff.mp H
  obtain ⟨⟨t441, t442, t443, t444, t445, t446, t447, t448, t449, t450⟩, A30, H⟩ := H
  replace H : ((spec_CmdBytes.f k t441 t442 t443 t444 t445 t446 t447 t448).bind fun t451 => ((spec_l7DrawNums.f k t437 t449 t450).bind fun bt454 => (if t451.length + bt454.1.length < 140737488355328 then ((spec_l7Dent.f t437 bt454.2.1 bt454.2.2 (t451 ++ bt454.1)).bind fun bt462 => ((spec_l1PickInt.f t437 bt462.2.1 bt462.2.2 (([0, 0, 0, 1, (bt462.1.length : Int), (-1)] : List Int))).bind fun bt470 => (some (bt462.1, bt470.1)))) else (none)))) = some (r1, r2) := H
  have A3 := Aside0.mk A30
  clear A30
  replace H := Option.bind_eq_some_iff.mp H
  obtain ⟨t451, A40, H⟩ := H
  replace H : ((spec_l7DrawNums.f k t437 t449 t450).bind fun bt454 => (if t451.length + bt454.1.length < 140737488355328 then ((spec_l7Dent.f t437 bt454.2.1 bt454.2.2 (t451 ++ bt454.1)).bind fun bt462 => ((spec_l1PickInt.f t437 bt462.2.1 bt462.2.2 (([0, 0, 0, 1, (bt462.1.length : Int), (-1)] : List Int))).bind fun bt470 => (some (bt462.1, bt470.1)))) else (none))) = some (r1, r2) := H
  have A4 := Aside0.mk A40
  clear A40
  replace H := Option.bind_eq_some_iff.mp H
  obtain ⟨⟨t454, t457, t458⟩, A50, H⟩ := H
  replace H : (if t451.length + t454.length < 140737488355328 then ((spec_l7Dent.f t437 t457 t458 (t451 ++ t454)).bind fun bt462 => ((spec_l1PickInt.f t437 bt462.2.1 bt462.2.2 (([0, 0, 0, 1, (bt462.1.length : Int), (-1)] : List Int))).bind fun bt470 => (some (bt462.1, bt470.1)))) else (none)) = some (r1, r2) := H
  have A5 := Aside0.mk A50
  clear A50
  by_cases c6 : t451.length + t454.length < 140737488355328
  · rw [if_pos c6] at H
    have LMc6 := Aside0.mk c6
    clear c6
    obtain ⟨y459, hy459⟩ : ∃ y_ : List Int, y_ = (t451 ++ t454) := ⟨_, rfl⟩
    replace H : ((spec_l7Dent.f t437 t457 t458 y459).bind fun bt462 => ((spec_l1PickInt.f t437 bt462.2.1 bt462.2.2 (([0, 0, 0, 1, (bt462.1.length : Int), (-1)] : List Int))).bind fun bt470 => (some (bt462.1, bt470.1)))) = some (r1, r2) := by first | (rw [hy459]; with_reducible exact H) | (have H2_ := (Option.bind_some _ _).symm.trans H; rw [hy459]; with_reducible exact H2_) | (have H2_ := (Option.bind_some _ _).symm.trans H; with_reducible exact H2_) | with_reducible exact H | (rw [hy459]; exact H) | exact H
    have Ny459 := Aside0.mk hy459
    clear hy459
    replace H := Option.bind_eq_some_iff.mp H
    obtain ⟨⟨t462, t465, t466⟩, A70, H⟩ := H
    replace H : ((spec_l1PickInt.f t437 t465 t466 (([0, 0, 0, 1, (t462.length : Int), (-1)] : List Int))).bind fun bt470 => (some (t462, bt470.1))) = some (r1, r2) := H
    have A7 := Aside0.mk A70
    clear A70
    obtain ⟨y467, hy467⟩ : ∃ y_ : List Int, y_ = (([0, 0, 0, 1, (t462.length : Int), (-1)] : List Int)) := ⟨_, rfl⟩
    replace H : ((spec_l1PickInt.f t437 t465 t466 y467).bind fun bt470 => (some (t462, bt470.1))) = some (r1, r2) := by first | (rw [hy467]; with_reducible exact H) | (have H2_ := (Option.bind_some _ _).symm.trans H; rw [hy467]; with_reducible exact H2_) | (have H2_ := (Option.bind_some _ _).symm.trans H; with_reducible exact H2_) | with_reducible exact H | (rw [hy467]; exact H) | exact H
    have Ny467 := Aside0.mk hy467
    clear hy467
    replace H := Option.bind_eq_some_iff.mp H
    obtain ⟨⟨t470, t471, t472⟩, A80, H⟩ := H
    replace H : (some (t462, t470)) = some (r1, r2) := H
    have A8 := Aside0.mk A80
    clear A80
    simp only [Option.some.injEq, Prod.mk.injEq] at H
    obtain ⟨rfl, rfl⟩ := H
    go_enter Try.func64, Try.ntmps64
    go_wp2_with (first | ((with_reducible refine gate_callee (f := 76) rfl ?_); refine goesL_ (some 7) rfl rfl Try.func76 (by kernel_rfl) rfl #[.slice A0 l0.length c0] rfl (qe5_) ?_; (with_reducible refine (spec_l1New.calls k _ _ l0 t437 t438 t439 w _ ?side1 ?side2 ?side3 A2.out).mono ?_); (case side1 => repeat (first | (with_reducible first | exact HB.out | apply below_alloc | apply pw_below_drewN | apply below_drew1) | exact HB.out)); (case side2 => exact HR0.out); (case side3 => exact HC0.out); rintro e w9 ⟨g440, rfl, hi, hb, hb2⟩; refine ⟨_, rfl, ?_⟩; have n0_ := Aside0.mk (hb); have n1_ := Aside0.mk (hi); clear HB; have HB := n0_; have HI440 := n1_; clear n0_ n1_; (try clear hb); (try clear hb2); (try clear hk); (try clear hi)) | ((with_reducible refine gate_callee (f := 122) rfl ?_); refine goesL_ (some 10) rfl rfl Try.func122 (by kernel_rfl) rfl #[.pointer (some ⟨g440, 0, none⟩)] rfl (qe5_) ?_; (with_reducible refine (spec_l2DrawRight.calls g440 t437 t438 t439 t441 t442 t443 t444 t445 t446 t447 t448 t449 t450 w _ ?side1 ?side2 A3.out).mono ?_); (case side1 => repeat (first | (with_reducible first | exact HI440.out | apply IsS_l1Cur.alloc | apply IsS_l1Cur.drewN | apply IsS_l1Cur.drew | apply IsS_l1Cur.set_1 | apply IsS_l1Cur.set_2) | exact HI440.out)); (case side2 => repeat (first | (with_reducible first | exact HB.out | apply below_alloc | apply pw_below_drewN | apply below_drew1 | refine below_set ?_ (IsS_l1Cur.ge HI440.out)) | exact HB.out)); rintro e w10 ⟨rfl, hi, hb, hk⟩; refine ⟨_, rfl, ?_⟩; have n0_ := Aside0.mk (hb); have n1_ := Aside0.mk (hi); clear HB; clear HI440; have HB := n0_; have HI440 := n1_; clear n0_ n1_; (try clear hb); (try clear hb2); (try clear hk); (try clear hi)) | ((with_reducible refine gate_callee (f := 67) rfl ?_); refine goesL_ (some 11) rfl rfl Try.func67 (by kernel_rfl) rfl #[.agg #[.int .i64 t441, .int .i64 t442, .int .i64 t443, .int .i64 t444, .int .i64 t445, .int .i64 t446, .string t447, .string t448]] rfl (qe5_) ?_; (with_reducible refine (spec_CmdBytes.calls k t441 t442 t443 t444 t445 t446 t447 t448 t451 _ A4.out).mono ?_); rintro e w11 ⟨v452, rfl, ho0, hb⟩; refine ⟨_, rfl, ?_⟩; have n0_ := Aside0.mk (Kd.R_lower ho0 (below_size (qe6_))); have n1_ := Aside0.mk (IsS_l1Cur.below (qe12_) hb); have n2_ := Aside0.mk (below_step (qe6_) hb); clear HI440; clear HB; have HO453 := n0_; have HI440 := n1_; have HB := n2_; clear n0_ n1_ n2_; (try clear hb); (try clear hb2); (try clear hk); (try clear hi); (try clear ho0)) | ((with_reducible refine gate_callee (f := 123) rfl ?_); refine goesL_ (some 13) rfl rfl Try.func123 (by kernel_rfl) rfl #[.pointer (some ⟨g440, 0, none⟩)] rfl (qe5_) ?_; (with_reducible refine (spec_l7DrawNums.calls k g440 t437 t449 t450 t454 t457 t458 w _ ?side1 ?side2 A5.out).mono ?_); (case side1 => repeat (first | (with_reducible first | exact HI440.out | apply IsS_l1Cur.alloc | apply IsS_l1Cur.drewN | apply IsS_l1Cur.drew | apply IsS_l1Cur.set_1 | apply IsS_l1Cur.set_2) | exact HI440.out)); (case side2 => repeat (first | (with_reducible first | exact HB.out | apply below_alloc | apply pw_below_drewN | apply below_drew1 | refine below_set ?_ (IsS_l1Cur.ge HI440.out)) | exact HB.out)); rintro e w12 ⟨v455, rfl, ho0, hi, hb, hk⟩; refine ⟨_, rfl, ?_⟩; have n0_ := Aside0.mk (Kd.R_mono (Kd.R_told (Kd.R_oldK (IsS_l1Cur.apart (show IsS_l1Cur w _ g440 t437 t449 t450 from by repeat (first | (with_reducible first | exact HI440.out | apply IsS_l1Cur.alloc | apply IsS_l1Cur.drewN | apply IsS_l1Cur.drew | apply IsS_l1Cur.set_1 | apply IsS_l1Cur.set_2) | exact HI440.out)) (by (with_reducible repeat (first | apply Kd.R_alloc | apply Kd.R_drewN | apply Kd.R_drew)); exact HO453.out) (by decide)) hk) (Kd.R_base ho0)) (fun _ h_ => h_.1)); have n1_ := Aside0.mk (Kd.R_lower (Kd.R_new' ho0 (Kd.R_lt (by (with_reducible repeat (first | apply Kd.R_alloc | apply Kd.R_drewN | apply Kd.R_drew)); exact HO453.out))) (below_size (qe6_))); have n2_ := Aside0.mk (hb); have n3_ := Aside0.mk (hi); clear HO453; clear HB; clear HI440; have HO453 := n0_; have HO456 := n1_; have HB := n2_; have HI440 := n3_; clear n0_ n1_ n2_ n3_; (try clear hb); (try clear hb2); (try clear hk); (try clear hi); (try clear ho0); obtain ⟨Ao14, co14, eo14⟩ := Kd.R_slice HO456.out; subst eo14) | ((with_reducible refine gate_builtin (b := .append) (xs := #[.tmp 11, .tmp 13]) rfl ?_); at_builtin; refine Kd.R_append_rows (Kd.int .u8) (w0 := w) w.heap.size rfl (.tmp 11) (.tmp 13) 22 5 (.int .u8 0) 1 rfl Try.underlying22 info5 rfl (by decide) (by omega) v452 t451 t454 _ _ _ (fun k_ => some k_ ≠ (.slice Ao14 t454.length co14 : Value).ownBlock) (fun _ => False) rfl rfl ?aO ?aR (fun _ _ h => h) (fun _ h => h.elim) ?aF ?aB ?aS ?aL ?_; (case aR => repeat (first | exact (Kd.R_reads' HO456.out).2.2 | (with_reducible refine Kd.C_alloc ?_ _) | (with_reducible refine Kd.C_drewN ?_ _) | (with_reducible refine Kd.C_drew ?_))); (case aB => exact (qe6_)); (case aF => exact (fun k_ hk => Kd.fresh' (Kd.R_lt (qe10_)) k_ hk)); (case aO => exact (by (with_reducible repeat (first | apply Kd.R_alloc | apply Kd.R_drewN | apply Kd.R_drew)); exact Kd.R_mono HO453.out (fun _ hk => hk.2))); (case aS => exact (below_size (qe6_))); (case aL => have := LMc6.out; omega); intro v460 w13 ho hb hg hat; rw [← Ny459.out] at ho; have n0_ := Aside0.mk (IsS_l1Cur.grown (qe12_) hg (IsS_l1Cur.own_ne HI440.out HO453.out (by decide))); have n1_ := Aside0.mk (Kd.R_after (ok := (fun _ => True)) (qe10_) hg hat); have n2_ := Aside0.mk (hb); have n3_ := Aside0.mk (ho); clear HI440; clear HO456; clear HB; clear HO453; have HI440 := n0_; have HO456 := n1_; have HB := n2_; have HO461 := n3_; clear n0_ n1_ n2_ n3_; clear ho hb hg hat; obtain ⟨Ao15, co15, eo15⟩ := Kd.R_slice HO461.out; subst eo15) | ((with_reducible refine gate_callee (f := 121) rfl ?_); refine goesL_ (some 15) rfl rfl Try.func121 (by kernel_rfl) rfl #[.pointer (some ⟨g440, 0, none⟩), .slice Ao15 y459.length co15] rfl (qe5_) ?_; (with_reducible refine (spec_l7Dent.calls g440 t437 t457 t458 (fun k_ => some k_ = (.slice Ao15 y459.length co15 : Value).ownBlock) (.slice Ao15 y459.length co15) y459 t462 t465 t466 w _ ?side1 ?side2 ?side3 A7.out).mono ?_); (case side1 => repeat (first | (with_reducible first | exact HI440.out | apply IsS_l1Cur.alloc | apply IsS_l1Cur.drewN | apply IsS_l1Cur.drew | apply IsS_l1Cur.set_1 | apply IsS_l1Cur.set_2) | exact HI440.out)); (case side2 => repeat (first | (with_reducible first | exact HB.out | apply below_alloc | apply pw_below_drewN | apply below_drew1 | refine below_set ?_ (IsS_l1Cur.ge HI440.out)) | exact HB.out)); (case side3 => exact Kd.R_tight rfl HO461.out); rintro e w16 ⟨v463, rfl, ho0, hi, hb, hkp⟩; refine ⟨_, rfl, ?_⟩; have n0_ := Aside0.mk (hi); have n1_ := Aside0.mk (Kd.R_mono (ok' := fun k_ => some k_ ≠ (v463 : Value).ownBlock) (Kd.R_keptB ((IsS_l1Cur.apart HI440.out HO456.out (by decide))) hkp (fun k_ hk_ hs_ => Or.elim hs_ (fun hs_ => (hk_.1.2) hs_) (fun e_ => (hk_.2) e_))) (fun k_ hk_ => fun e_ => Or.elim (ho0.1 k_ e_.symm) (fun hs_ => hk_.2.1 (by first | exact hs_ | exact .inl hs_)) (fun hn_ => Nat.not_le.2 hk_.2.2 hn_))); have n2_ := Aside0.mk (Kd.R_mono (ok' := fun k_ => some k_ ≠ (.slice Ao14 t454.length co14 : Value).ownBlock) ho0 (fun k_ hk_ => Or.elim hk_ (fun hs_ => fun e_ => ((((IsS_l1Cur.apart HI440.out HO456.out (by decide))).1 k_ e_.symm).1.2) hs_) (fun hn_ => (Kd.fresh' (Kd.R_lt (qe10_)) k_ hn_)))); have n3_ := Aside0.mk (hb); clear HI440; clear HO456; clear HB; clear HO461; have HI440 := n0_; have HO456 := n1_; have HO464 := n2_; have HB := n3_; clear n0_ n1_ n2_ n3_; (try clear hb); (try clear hkp); (try clear ho0); obtain ⟨Ao17, co17, eo17⟩ := Kd.R_slice HO464.out; subst eo17) | ((with_reducible refine gate_dst (N := 20) rfl ?_); refine Kd.R_lit (Kd.int .i64) _ 3 ?hg (N := 20) ?hd (xs := ([0, 0, 0, 1, (t462.length : Int), (-1)] : List Int)) (inner := [.int .i64 0, .int .i64 0, .int .i64 0, .int .i64 1, .int .i64 (t462.length : Int), .int .i64 (-1)]) (ok := fun _ => True) (okp := fun _ => True) ?hr ?hp (fun _ hk => hk) trivial (Below.refl _ _) (Nat.le_refl _) (by simp) ?_; (case hd => rfl); (case hg => rfl); (case hr => first | (go_simp; done) | (go_simp; rfl)); (case hp => exact (Reps.one (show Kd.M (Kd.int .i64) _ _ _ 0 [.int .i64 0] from rfl) (Reps.one (show Kd.M (Kd.int .i64) _ _ _ 0 [.int .i64 0] from rfl) (Reps.one (show Kd.M (Kd.int .i64) _ _ _ 0 [.int .i64 0] from rfl) (Reps.one (show Kd.M (Kd.int .i64) _ _ _ 1 [.int .i64 1] from rfl) (Reps.one (show Kd.M (Kd.int .i64) _ _ _ (t462.length : Int) [.int .i64 (t462.length : Int)] from rfl) (Reps.one (show Kd.M (Kd.int .i64) _ _ _ (-1) [.int .i64 (-1)] from rfl) (Reps.none _ _)))))))); intro v468 w18 ho19 hb hg_ hnew_; clear hg_ hnew_; (first | rw [← Ny467.out] at ho19 | (simp only [Int.reduceToNat] at ho19; rw [← Ny467.out] at ho19)); have n0_ := Aside0.mk (Kd.R_below (qe10_) hb); have n1_ := Aside0.mk (Kd.R_below (by (with_reducible repeat (first | apply Kd.R_alloc | apply Kd.R_drewN | apply Kd.R_drew)); exact HO464.out) hb); have n2_ := Aside0.mk (Kd.R_lower ho19 (below_size (qe6_))); have n3_ := Aside0.mk (IsS_l1Cur.below (qe12_) hb); have n4_ := Aside0.mk (below_step (qe6_) hb); clear HO456; clear HO464; clear HI440; clear HB; have HO456 := n0_; have HO464 := n1_; have HO469 := n2_; have HI440 := n3_; have HB := n4_; clear n0_ n1_ n2_ n3_ n4_; clear hb ho19; obtain ⟨Ao20, co20, eo20⟩ := Kd.R_slice HO469.out; subst eo20) | ((with_reducible refine gate_callee (f := 104) rfl ?_); refine goesL_ (some 21) rfl rfl Try.func104 (by kernel_rfl) rfl #[.pointer (some ⟨g440, 0, none⟩), .slice Ao20 y467.length co20] rfl (qe5_) ?_; (with_reducible refine (spec_l1PickInt.calls g440 t437 t465 t466 _ _ y467 t470 t471 t472 w _ ?side1 ?side2 ?side3 ?side4 ?side5 A8.out).mono ?_); (case side1 => repeat (first | (with_reducible first | exact HI440.out | apply IsS_l1Cur.alloc | apply IsS_l1Cur.drewN | apply IsS_l1Cur.drew | apply IsS_l1Cur.set_1 | apply IsS_l1Cur.set_2) | exact HI440.out)); (case side2 => repeat (first | (with_reducible first | exact HB.out | apply below_alloc | apply pw_below_drewN | apply below_drew1 | refine below_set ?_ (IsS_l1Cur.ge HI440.out)) | exact HB.out)); (case side3 => repeat (first | exact (Kd.R_reads' HO469.out).2.2 | (with_reducible refine Kd.C_alloc ?_ _) | (with_reducible refine Kd.C_drewN ?_ _) | (with_reducible refine Kd.C_drew ?_))); (case side4 => exact (Kd.R_reads' HO469.out).2.1); (case side5 => exact far_slice (IsS_l1Cur.own_ne HI440.out HO469.out (by decide))); rintro e w21 ⟨rfl, hi, hb, hk⟩; refine ⟨_, rfl, ?_⟩; have n0_ := Aside0.mk (Kd.R_mono (Kd.R_keep (IsS_l1Cur.apart (show IsS_l1Cur w _ g440 t437 t465 t466 from by repeat (first | (with_reducible first | exact HI440.out | apply IsS_l1Cur.alloc | apply IsS_l1Cur.drewN | apply IsS_l1Cur.drew | apply IsS_l1Cur.set_1 | apply IsS_l1Cur.set_2) | exact HI440.out)) (qe10_) (by decide)) hk (fun _ h => h.2)) (fun _ h => h.1)); have n1_ := Aside0.mk (Kd.R_mono (Kd.R_keep (IsS_l1Cur.apart (show IsS_l1Cur w _ g440 t437 t465 t466 from by repeat (first | (with_reducible first | exact HI440.out | apply IsS_l1Cur.alloc | apply IsS_l1Cur.drewN | apply IsS_l1Cur.drew | apply IsS_l1Cur.set_1 | apply IsS_l1Cur.set_2) | exact HI440.out)) (by (with_reducible repeat (first | apply Kd.R_alloc | apply Kd.R_drewN | apply Kd.R_drew)); exact HO464.out) (by decide)) hk (fun _ h => h.2)) (fun _ h => h.1)); have n2_ := Aside0.mk (Kd.R_mono (Kd.R_keep (IsS_l1Cur.apart (show IsS_l1Cur w _ g440 t437 t465 t466 from by repeat (first | (with_reducible first | exact HI440.out | apply IsS_l1Cur.alloc | apply IsS_l1Cur.drewN | apply IsS_l1Cur.drew | apply IsS_l1Cur.set_1 | apply IsS_l1Cur.set_2) | exact HI440.out)) (by (with_reducible repeat (first | apply Kd.R_alloc | apply Kd.R_drewN | apply Kd.R_drew)); exact HO469.out) (by decide)) hk (fun _ h => h.2)) (fun _ h => h.1)); have n3_ := Aside0.mk (hb); have n4_ := Aside0.mk (hi); clear HO456; clear HO464; clear HO469; clear HB; clear HI440; have HO456 := n0_; have HO464 := n1_; have HO469 := n2_; have HB := n3_; have HI440 := n4_; clear n0_ n1_ n2_ n3_ n4_; (try clear hb); (try clear hb2); (try clear hk); (try clear hi)))
    go_ret2
    exact ⟨_, qe13_, by (with_reducible repeat (first | apply Kd.R_alloc | apply Kd.R_drewN | apply Kd.R_drew)); exact Kd.R_mono HO464.out (fun _ hk => trivial), qe6_⟩
  · rw [if_neg c6] at H
    exact absurd H (by simp)
section
attribute [local go_sem high] eqA_Cmd
/-! ### laws_FnCmdBytes: function 10 -/
abbrev laws_FnCmdBytes.m0 : Array Bool := #[f_,f_,f_,f_,f_,f_,f_,f_,f_,f_,f_,f_,f_,f_,f_,f_,f_,f_,f_,f_,f_,f_,f_,f_,f_,f_,f_,f_,f_]
abbrev laws_FnCmdBytes.m1 : Array Bool := #[t_,f_,f_,f_,f_,f_,f_,f_,f_,f_,f_,f_,f_,f_,f_,f_,f_,f_,f_,f_,f_,f_,f_,f_,f_,f_,f_,f_,f_]
abbrev laws_FnCmdBytes.m2 : Array Bool := #[t_,f_,t_,f_,f_,f_,f_,f_,f_,f_,f_,f_,f_,f_,f_,f_,f_,f_,f_,f_,f_,f_,f_,f_,f_,f_,f_,f_,f_]
abbrev laws_FnCmdBytes.m3 : Array Bool := #[t_,t_,t_,t_,t_,f_,f_,f_,f_,f_,f_,f_,f_,f_,f_,f_,f_,f_,f_,f_,f_,f_,f_,f_,f_,f_,f_,f_,f_]
abbrev laws_FnCmdBytes.m4 : Array Bool := #[t_,t_,t_,f_,f_,f_,f_,f_,f_,f_,f_,f_,f_,f_,f_,f_,f_,f_,f_,f_,f_,f_,f_,f_,f_,f_,f_,f_,f_]
abbrev laws_FnCmdBytes.m5 : Array Bool := #[t_,f_,t_,t_,f_,f_,f_,f_,f_,f_,f_,f_,f_,f_,f_,f_,f_,f_,f_,f_,f_,f_,f_,f_,f_,f_,f_,f_,f_]
abbrev laws_FnCmdBytes.m6 : Array Bool := #[t_,t_,t_,t_,f_,f_,f_,f_,f_,f_,f_,f_,f_,f_,f_,f_,f_,f_,f_,f_,f_,f_,f_,f_,f_,f_,f_,f_,f_]
abbrev laws_FnCmdBytes.m7 : Array Bool := #[t_,f_,t_,t_,t_,f_,f_,f_,f_,f_,f_,f_,f_,f_,f_,f_,f_,f_,f_,f_,f_,f_,f_,f_,f_,f_,f_,f_,f_]
abbrev laws_FnCmdBytes.m8 : Array Bool := #[t_,t_,t_,t_,t_,t_,f_,f_,f_,f_,f_,f_,f_,f_,f_,f_,f_,f_,f_,f_,f_,f_,f_,f_,f_,f_,f_,f_,f_]
abbrev laws_FnCmdBytes.m9 : Array Bool := #[t_,t_,t_,t_,t_,t_,t_,f_,f_,f_,f_,f_,f_,f_,f_,f_,f_,f_,f_,f_,f_,f_,f_,f_,f_,f_,f_,f_,f_]
abbrev laws_FnCmdBytes.m10 : Array Bool := #[t_,t_,t_,t_,t_,t_,t_,t_,f_,f_,f_,f_,f_,f_,f_,f_,f_,f_,f_,f_,f_,f_,f_,f_,f_,f_,f_,f_,f_]
abbrev laws_FnCmdBytes.m11 : Array Bool := #[t_,t_,t_,t_,t_,t_,t_,t_,t_,f_,f_,f_,f_,f_,f_,f_,f_,f_,f_,f_,f_,f_,f_,f_,f_,f_,f_,f_,f_]
abbrev laws_FnCmdBytes.m12 : Array Bool := #[t_,t_,t_,t_,t_,t_,t_,t_,t_,t_,f_,f_,f_,f_,f_,f_,f_,f_,f_,f_,f_,f_,f_,f_,f_,f_,f_,f_,f_]
abbrev laws_FnCmdBytes.m13 : Array Bool := #[t_,t_,t_,t_,t_,t_,t_,t_,t_,t_,t_,f_,f_,f_,f_,f_,f_,f_,f_,f_,f_,f_,f_,f_,f_,f_,f_,f_,f_]
abbrev laws_FnCmdBytes.m14 : Array Bool := #[t_,t_,t_,t_,t_,t_,t_,t_,t_,t_,t_,t_,f_,f_,f_,f_,f_,f_,f_,f_,f_,f_,f_,f_,f_,f_,f_,f_,f_]
abbrev laws_FnCmdBytes.m15 : Array Bool := #[t_,t_,t_,t_,t_,t_,t_,t_,t_,t_,t_,t_,t_,f_,f_,f_,f_,f_,f_,f_,f_,f_,f_,f_,f_,f_,f_,f_,f_]
abbrev laws_FnCmdBytes.m16 : Array Bool := #[t_,t_,t_,t_,t_,t_,t_,t_,t_,t_,t_,t_,t_,t_,f_,f_,f_,f_,f_,f_,f_,f_,f_,f_,f_,f_,f_,f_,f_]
abbrev laws_FnCmdBytes.m17 : Array Bool := #[t_,t_,t_,t_,t_,t_,t_,t_,t_,t_,t_,t_,t_,t_,t_,f_,f_,f_,f_,f_,f_,f_,f_,f_,f_,f_,f_,f_,f_]
abbrev laws_FnCmdBytes.m18 : Array Bool := #[t_,t_,t_,t_,t_,t_,t_,t_,t_,t_,t_,t_,t_,t_,t_,t_,f_,f_,f_,f_,f_,f_,f_,f_,f_,f_,f_,f_,f_]
abbrev laws_FnCmdBytes.m19 : Array Bool := #[t_,t_,t_,t_,t_,t_,t_,t_,t_,t_,t_,t_,t_,t_,t_,t_,t_,f_,f_,f_,f_,f_,f_,f_,f_,f_,f_,f_,f_]
abbrev laws_FnCmdBytes.m20 : Array Bool := #[t_,t_,t_,t_,t_,t_,t_,t_,t_,t_,t_,t_,t_,t_,t_,t_,t_,t_,f_,f_,f_,f_,f_,f_,f_,f_,f_,f_,f_]
abbrev laws_FnCmdBytes.m21 : Array Bool := #[t_,t_,t_,t_,t_,t_,t_,t_,t_,t_,t_,t_,t_,t_,t_,t_,t_,t_,t_,f_,f_,f_,f_,f_,f_,f_,f_,f_,f_]
abbrev laws_FnCmdBytes.m22 : Array Bool := #[t_,t_,t_,t_,t_,t_,t_,t_,t_,t_,t_,t_,t_,t_,t_,t_,t_,t_,t_,t_,f_,f_,f_,f_,f_,f_,f_,f_,f_]
abbrev laws_FnCmdBytes.m23 : Array Bool := #[t_,t_,t_,t_,t_,t_,t_,t_,t_,t_,t_,t_,t_,t_,t_,t_,t_,t_,t_,t_,t_,f_,f_,f_,f_,f_,f_,f_,f_]
abbrev laws_FnCmdBytes.m24 : Array Bool := #[t_,t_,t_,t_,t_,t_,t_,t_,t_,t_,t_,t_,t_,t_,t_,t_,t_,t_,t_,t_,t_,t_,f_,f_,f_,f_,f_,f_,f_]
abbrev laws_FnCmdBytes.m25 : Array Bool := #[t_,t_,t_,t_,t_,t_,t_,t_,t_,t_,t_,t_,t_,t_,t_,t_,t_,t_,t_,t_,t_,t_,t_,f_,f_,f_,f_,f_,f_]
abbrev laws_FnCmdBytes.m26 : Array Bool := #[t_,t_,t_,t_,t_,t_,t_,t_,t_,t_,t_,t_,t_,t_,t_,t_,t_,t_,t_,t_,t_,t_,t_,t_,f_,f_,f_,f_,f_]
abbrev laws_FnCmdBytes.m27 : Array Bool := #[t_,t_,t_,t_,t_,t_,t_,t_,t_,t_,t_,t_,t_,t_,t_,t_,t_,t_,t_,t_,t_,t_,t_,t_,t_,f_,f_,f_,f_]
abbrev laws_FnCmdBytes.m28 : Array Bool := #[t_,t_,t_,t_,t_,t_,t_,t_,t_,t_,t_,t_,t_,t_,t_,t_,t_,t_,t_,t_,t_,t_,t_,t_,t_,t_,f_,f_,f_]
abbrev laws_FnCmdBytes.m29 : Array Bool := #[t_,t_,t_,t_,t_,t_,t_,t_,t_,t_,t_,t_,t_,t_,t_,t_,t_,t_,t_,t_,t_,t_,t_,t_,t_,t_,t_,f_,f_]
abbrev laws_FnCmdBytes.m30 : Array Bool := #[t_,t_,t_,t_,t_,t_,t_,t_,t_,t_,t_,t_,t_,t_,t_,t_,t_,t_,t_,t_,t_,t_,t_,t_,t_,t_,t_,t_,f_]
abbrev laws_FnCmdBytes.m31 : Array Bool := #[t_,t_,t_,t_,t_,t_,t_,t_,t_,t_,t_,t_,t_,t_,t_,t_,t_,t_,t_,t_,t_,t_,t_,t_,t_,t_,t_,t_,t_]
abbrev laws_FnCmdBytes.m32 : Array Bool := #[f_,f_,f_,f_,f_,f_,f_,f_,f_,f_,f_,f_]
abbrev laws_FnCmdBytes.m33 : Array Bool := #[t_,f_,f_,f_,f_,f_,f_,f_,f_,f_,f_,f_]
abbrev laws_FnCmdBytes.m34 : Array Bool := #[t_,t_,f_,f_,f_,f_,f_,f_,f_,f_,f_,f_]
abbrev laws_FnCmdBytes.m35 : Array Bool := #[t_,t_,t_,t_,t_,t_,t_,t_,t_,t_,f_,f_]
abbrev laws_FnCmdBytes.m36 : Array Bool := #[t_,t_,t_,t_,t_,t_,t_,t_,t_,f_,f_,f_]
abbrev laws_FnCmdBytes.m37 : Array Bool := #[t_,t_,t_,t_,f_,t_,t_,t_,t_,t_,f_,f_]
abbrev laws_FnCmdBytes.m38 : Array Bool := #[t_,t_,t_,t_,t_,t_,t_,t_,t_,t_,t_,f_]
abbrev laws_FnCmdBytes.m39 : Array Bool := #[t_,t_,t_,t_,t_,t_,t_,t_,t_,t_,t_,t_]
mutual
def laws_FnCmdBytes.j0 : Nat → List Int → List Int → List Int → Int → Int → Bool → Bool → Int → Int → Int → Int → Int → Int → ByteArray → ByteArray → Int → Int → Int → Int → Int → Int → ByteArray → ByteArray → Option (Bool)
 | 0, _, _, _, _, _, _, _, _, _, _, _, _, _, _, _, _, _, _, _, _, _, _, _ => none
 | k + 1, x0, x4, x5, x6, x8, x9, x69, x588000, x588001, x588002, x588003, x588004, x588005, x588006, x588007, x606000, x606001, x606002, x606003, x606004, x606005, x606006, x606007 => if x69 = true then (some false) else (if x9 = true then ((impl_CmdBytes.f k x606000 x606001 x606002 x606003 x606004 x606005 x606006 x606007).bind fun t621 => (if 0 ≤ x6 then (if x6 ≤ x8 then (if x8 ≤ (x5.length : Int) then (laws_FnCmdBytes.j1 k x0 x4 ((strOfNums t621).toList != (strOfNums ((x5.take (x8 : Int).toNat).drop (x6 : Int).toNat)).toList) x588000 x588001 x588002 x588003 x588004 x588005 x588006 x588007) else (none)) else (none)) else (none))) else (laws_FnCmdBytes.j1 k x0 x4 false x588000 x588001 x588002 x588003 x588004 x588005 x588006 x588007))
def laws_FnCmdBytes.j1 : Nat → List Int → List Int → Bool → Int → Int → Int → Int → Int → Int → ByteArray → ByteArray → Option (Bool)
 | 0, _, _, _, _, _, _, _, _, _, _, _ => none
 | k + 1, x0, x4, x81, x588000, x588001, x588002, x588003, x588004, x588005, x588006, x588007 => if x81 = true then (some false) else (if (x4.length : Int) = 0 then (some true) else ((some (([] : List Int) : List Int)).bind fun y628 => (if y628.length + x4.length < 140737488355328 then ((some (y628 ++ x4 : List Int)).bind fun y631 => ((laws_at.f x0 1).bind fun t634 => (if y631.length < 140737488355328 then ((impl_CmdOf.f k (y631 ++ [(t634) % 256]) 0).bind fun bt638 => (if bt638.2.2.2.2.2.2.2.2.2 = true then (if (bt638.1 == x588000 && (bt638.2.1 == x588001 && (bt638.2.2.1 == x588002 && (bt638.2.2.2.1 == x588003 && (bt638.2.2.2.2.1 == x588004 && (bt638.2.2.2.2.2.1 == x588005 && (bt638.2.2.2.2.2.2.1.toList == x588006.toList && (bt638.2.2.2.2.2.2.2.1.toList == x588007.toList)))))))) = true then (some (bt638.2.2.2.2.2.2.2.2.1 == (x4.length : Int))) else (some false)) else (some false))) else (none)))) else (none))))
end
def laws_FnCmdBytes.f (k : Nat) (l0 : List Int) : Option (Bool) := (laws_big.f l0).bind fun t578 => (if t578 = true then (some true) else ((spec_DrawCmdBytes.f k l0).bind fun bt579 => ((impl_CmdBytes.f k bt579.1 bt579.2.1 bt579.2.2.1 bt579.2.2.2.1 bt579.2.2.2.2.1 bt579.2.2.2.2.2.1 bt579.2.2.2.2.2.2.1 bt579.2.2.2.2.2.2.2).bind fun t588 => ((spec_DrawCmdOf.f k l0).bind fun bt591 => ((impl_CmdOf.f k bt591.1 bt591.2).bind fun bt595 => ((spec_CmdOf.f k bt591.1 bt591.2).bind fun bt606 => ((spec_CmdBytes.f k bt579.1 bt579.2.1 bt579.2.2.1 bt579.2.2.2.1 bt579.2.2.2.2.1 bt579.2.2.2.2.2.1 bt579.2.2.2.2.2.2.1 bt579.2.2.2.2.2.2.2).bind fun t617 => (if (strOfNums t588).toList = (strOfNums t617).toList then ((impl_CmdOk.f k bt579.1 bt579.2.1 bt579.2.2.1 bt579.2.2.2.1 bt579.2.2.2.2.1 bt579.2.2.2.2.2.1 bt579.2.2.2.2.2.2.1 bt579.2.2.2.2.2.2.2).bind fun t620 => (if ((decide ((t588.length : Int) > 0)) != t620) = true then (laws_FnCmdBytes.j0 k l0 t588 bt591.1 bt591.2 bt595.2.2.2.2.2.2.2.2.1 bt595.2.2.2.2.2.2.2.2.2 true bt579.1 bt579.2.1 bt579.2.2.1 bt579.2.2.2.1 bt579.2.2.2.2.1 bt579.2.2.2.2.2.1 bt579.2.2.2.2.2.2.1 bt579.2.2.2.2.2.2.2 bt595.1 bt595.2.1 bt595.2.2.1 bt595.2.2.2.1 bt595.2.2.2.2.1 bt595.2.2.2.2.2.1 bt595.2.2.2.2.2.2.1 bt595.2.2.2.2.2.2.2.1) else (if (bt595.2.2.2.2.2.2.2.2.2 != bt606.2.2.2.2.2.2.2.2.2) = true then (laws_FnCmdBytes.j0 k l0 t588 bt591.1 bt591.2 bt595.2.2.2.2.2.2.2.2.1 bt595.2.2.2.2.2.2.2.2.2 true bt579.1 bt579.2.1 bt579.2.2.1 bt579.2.2.2.1 bt579.2.2.2.2.1 bt579.2.2.2.2.2.1 bt579.2.2.2.2.2.2.1 bt579.2.2.2.2.2.2.2 bt595.1 bt595.2.1 bt595.2.2.1 bt595.2.2.2.1 bt595.2.2.2.2.1 bt595.2.2.2.2.2.1 bt595.2.2.2.2.2.2.1 bt595.2.2.2.2.2.2.2.1) else (if (!(bt595.1 == bt606.1) || (!(bt595.2.1 == bt606.2.1) || (!(bt595.2.2.1 == bt606.2.2.1) || (!(bt595.2.2.2.1 == bt606.2.2.2.1) || (!(bt595.2.2.2.2.1 == bt606.2.2.2.2.1) || (!(bt595.2.2.2.2.2.1 == bt606.2.2.2.2.2.1) || (!(bt595.2.2.2.2.2.2.1.toList == bt606.2.2.2.2.2.2.1.toList) || (!(bt595.2.2.2.2.2.2.2.1.toList == bt606.2.2.2.2.2.2.2.1.toList))))))))) = true then (laws_FnCmdBytes.j0 k l0 t588 bt591.1 bt591.2 bt595.2.2.2.2.2.2.2.2.1 bt595.2.2.2.2.2.2.2.2.2 true bt579.1 bt579.2.1 bt579.2.2.1 bt579.2.2.2.1 bt579.2.2.2.2.1 bt579.2.2.2.2.2.1 bt579.2.2.2.2.2.2.1 bt579.2.2.2.2.2.2.2 bt595.1 bt595.2.1 bt595.2.2.1 bt595.2.2.2.1 bt595.2.2.2.2.1 bt595.2.2.2.2.2.1 bt595.2.2.2.2.2.2.1 bt595.2.2.2.2.2.2.2.1) else (laws_FnCmdBytes.j0 k l0 t588 bt591.1 bt591.2 bt595.2.2.2.2.2.2.2.2.1 bt595.2.2.2.2.2.2.2.2.2 (bt595.2.2.2.2.2.2.2.2.1 != bt606.2.2.2.2.2.2.2.2.1) bt579.1 bt579.2.1 bt579.2.2.1 bt579.2.2.2.1 bt579.2.2.2.2.1 bt579.2.2.2.2.2.1 bt579.2.2.2.2.2.2.1 bt579.2.2.2.2.2.2.2 bt595.1 bt595.2.1 bt595.2.2.1 bt595.2.2.2.1 bt595.2.2.2.2.1 bt595.2.2.2.2.2.1 bt595.2.2.2.2.2.2.1 bt595.2.2.2.2.2.2.2.1))))) else (laws_FnCmdBytes.j0 k l0 t588 bt591.1 bt591.2 bt595.2.2.2.2.2.2.2.2.1 bt595.2.2.2.2.2.2.2.2.2 true bt579.1 bt579.2.1 bt579.2.2.1 bt579.2.2.2.1 bt579.2.2.2.2.1 bt579.2.2.2.2.2.1 bt579.2.2.2.2.2.2.1 bt579.2.2.2.2.2.2.2 bt595.1 bt595.2.1 bt595.2.2.1 bt595.2.2.2.1 bt595.2.2.2.2.1 bt595.2.2.2.2.2.1 bt595.2.2.2.2.2.2.1 bt595.2.2.2.2.2.2.2.1)))))))))
theorem laws_FnCmdBytes.mono_l : ∀ k, (∀ y0 y1 y2 y3 y4 y5 y6 y7 y8 y9 y10 y11 y12 y13 y14 y15 y16 y17 y18 y19 y20 y21 y22, LeO (laws_FnCmdBytes.j0 k y0 y1 y2 y3 y4 y5 y6 y7 y8 y9 y10 y11 y12 y13 y14 y15 y16 y17 y18 y19 y20 y21 y22) (laws_FnCmdBytes.j0 (k + 1) y0 y1 y2 y3 y4 y5 y6 y7 y8 y9 y10 y11 y12 y13 y14 y15 y16 y17 y18 y19 y20 y21 y22)) ∧ (∀ y0 y1 y2 y3 y4 y5 y6 y7 y8 y9 y10, LeO (laws_FnCmdBytes.j1 k y0 y1 y2 y3 y4 y5 y6 y7 y8 y9 y10) (laws_FnCmdBytes.j1 (k + 1) y0 y1 y2 y3 y4 y5 y6 y7 y8 y9 y10))
 | 0 => ⟨fun _ _ _ _ _ _ _ _ _ _ _ _ _ _ _ _ _ _ _ _ _ _ _ r h => by simp [laws_FnCmdBytes.j0] at h, fun _ _ _ _ _ _ _ _ _ _ _ r h => by simp [laws_FnCmdBytes.j1] at h⟩
 | k + 1 => by
  obtain ⟨ih0, ih1⟩ := laws_FnCmdBytes.mono_l k
  refine ⟨?_, ?_⟩
  ·
   intro y0 y1 y2 y3 y4 y5 y6 y7 y8 y9 y10 y11 y12 y13 y14 y15 y16 y17 y18 y19 y20 y21 y22
   unfold laws_FnCmdBytes.j0
   repeat' first
   | (with_reducible exact ih0 _ _ _ _ _ _ _ _ _ _ _ _ _ _ _ _ _ _ _ _ _ _ _)
   | (with_reducible exact ih1 _ _ _ _ _ _ _ _ _ _ _)
   | (with_reducible exact impl_CmdBytes.mono _ _ _ _ _ _ _ _ _)
   | (with_reducible exact impl_CmdOf.mono _ _ _)
   | (with_reducible exact impl_CmdOk.mono _ _ _ _ _ _ _ _ _)
   | (with_reducible exact spec_CmdBytes.mono _ _ _ _ _ _ _ _ _)
   | (with_reducible exact spec_CmdOf.mono _ _ _)
   | (with_reducible exact spec_DrawCmdBytes.mono _ _)
   | (with_reducible exact spec_DrawCmdOf.mono _ _)
   | (with_reducible exact LeO.refl _)
   | (with_reducible exact LeO.none _)
   | (with_reducible refine LeO.ite ?_ ?_)
   | (with_reducible refine LeO.bind ?_ (fun _ => ?_))
   | exact ih0 _ _ _ _ _ _ _ _ _ _ _ _ _ _ _ _ _ _ _ _ _ _ _
   | exact ih1 _ _ _ _ _ _ _ _ _ _ _
   | exact impl_CmdBytes.mono _ _ _ _ _ _ _ _ _
   | exact impl_CmdOf.mono _ _ _
   | exact impl_CmdOk.mono _ _ _ _ _ _ _ _ _
   | exact spec_CmdBytes.mono _ _ _ _ _ _ _ _ _
   | exact spec_CmdOf.mono _ _ _
   | exact spec_DrawCmdBytes.mono _ _
   | exact spec_DrawCmdOf.mono _ _
   | exact LeO.none _
   | refine LeO.ite ?_ ?_
   | refine LeO.bind ?_ (fun _ => ?_)
  ·
   intro y0 y1 y2 y3 y4 y5 y6 y7 y8 y9 y10
   unfold laws_FnCmdBytes.j1
   repeat' first
   | (with_reducible exact ih0 _ _ _ _ _ _ _ _ _ _ _ _ _ _ _ _ _ _ _ _ _ _ _)
   | (with_reducible exact ih1 _ _ _ _ _ _ _ _ _ _ _)
   | (with_reducible exact impl_CmdBytes.mono _ _ _ _ _ _ _ _ _)
   | (with_reducible exact impl_CmdOf.mono _ _ _)
   | (with_reducible exact impl_CmdOk.mono _ _ _ _ _ _ _ _ _)
   | (with_reducible exact spec_CmdBytes.mono _ _ _ _ _ _ _ _ _)
   | (with_reducible exact spec_CmdOf.mono _ _ _)
   | (with_reducible exact spec_DrawCmdBytes.mono _ _)
   | (with_reducible exact spec_DrawCmdOf.mono _ _)
   | (with_reducible exact LeO.refl _)
   | (with_reducible exact LeO.none _)
   | (with_reducible refine LeO.ite ?_ ?_)
   | (with_reducible refine LeO.bind ?_ (fun _ => ?_))
   | exact ih0 _ _ _ _ _ _ _ _ _ _ _ _ _ _ _ _ _ _ _ _ _ _ _
   | exact ih1 _ _ _ _ _ _ _ _ _ _ _
   | exact impl_CmdBytes.mono _ _ _ _ _ _ _ _ _
   | exact impl_CmdOf.mono _ _ _
   | exact impl_CmdOk.mono _ _ _ _ _ _ _ _ _
   | exact spec_CmdBytes.mono _ _ _ _ _ _ _ _ _
   | exact spec_CmdOf.mono _ _ _
   | exact spec_DrawCmdBytes.mono _ _
   | exact spec_DrawCmdOf.mono _ _
   | exact LeO.none _
   | refine LeO.ite ?_ ?_
   | refine LeO.bind ?_ (fun _ => ?_)
theorem laws_FnCmdBytes.mono : ∀ a0 k, LeO (laws_FnCmdBytes.f k a0) (laws_FnCmdBytes.f (k + 1) a0) := by
 intro a0 k
 obtain ⟨ih0, ih1⟩ := laws_FnCmdBytes.mono_l k
 unfold laws_FnCmdBytes.f
 repeat' first
  | (with_reducible exact ih0 _ _ _ _ _ _ _ _ _ _ _ _ _ _ _ _ _ _ _ _ _ _ _)
  | (with_reducible exact ih1 _ _ _ _ _ _ _ _ _ _ _)
  | (with_reducible exact impl_CmdBytes.mono _ _ _ _ _ _ _ _ _)
  | (with_reducible exact impl_CmdOf.mono _ _ _)
  | (with_reducible exact impl_CmdOk.mono _ _ _ _ _ _ _ _ _)
  | (with_reducible exact spec_CmdBytes.mono _ _ _ _ _ _ _ _ _)
  | (with_reducible exact spec_CmdOf.mono _ _ _)
  | (with_reducible exact spec_DrawCmdBytes.mono _ _)
  | (with_reducible exact spec_DrawCmdOf.mono _ _)
  | (with_reducible exact LeO.refl _)
  | (with_reducible exact LeO.none _)
  | (with_reducible refine LeO.ite ?_ ?_)
  | (with_reducible refine LeO.bind ?_ (fun _ => ?_))
  | exact ih0 _ _ _ _ _ _ _ _ _ _ _ _ _ _ _ _ _ _ _ _ _ _ _
  | exact ih1 _ _ _ _ _ _ _ _ _ _ _
  | exact impl_CmdBytes.mono _ _ _ _ _ _ _ _ _
  | exact impl_CmdOf.mono _ _ _
  | exact impl_CmdOk.mono _ _ _ _ _ _ _ _ _
  | exact spec_CmdBytes.mono _ _ _ _ _ _ _ _ _
  | exact spec_CmdOf.mono _ _ _
  | exact spec_DrawCmdBytes.mono _ _
  | exact spec_DrawCmdOf.mono _ _
  | exact LeO.none _
  | refine LeO.ite ?_ ?_
  | refine LeO.bind ?_ (fun _ => ?_)
def laws_FnCmdBytes.T8 : Bool × List (List Nat × List Nat) := (true, [([], []), ([0], [0]), ([], []), ([2], [2]), ([3], [3]), ([1, 4], [1, 4]), ([5, 3], [5]), ([6], [6]), ([7, 6], [6, 7]), ([8, 6], [6, 8]), ([6], [6]), ([10, 6, 6], [6, 10]), ([9, 11, 6], [6, 9, 11]), ([6, 12], [6, 12]), ([13, 11], [13]), ([14], [14]), ([14], [14]), ([15, 16, 14], [14, 15, 16]), ([14, 17], [14, 17]), ([18, 14], [18]), ([19], [19]), ([19], [19]), ([20, 21, 19], [19, 20, 21]), ([19, 22], [19, 22]), ([23, 19], [23]), ([24], [24]), ([24], [24]), ([25, 26, 24], [24, 25, 26]), ([24, 27], [24, 27])])
def laws_FnCmdBytes.B8 : List Nat := [0, 1, 0, 4, 12, 31, 63, 127, 255, 511, 127, 1151, 4095, 8191, 16383, 32767, 32767, 131071, 262143, 524287, 1048575, 1048575, 4194303, 8388607, 16777215, 33554431, 33554431, 134217727, 268435455]
theorem laws_FnCmdBytes.tab8 : rtab .any (opsOf Try.f10 8) = laws_FnCmdBytes.T8 := by kernel_rfl
theorem laws_FnCmdBytes.bits8 : waitsOk laws_FnCmdBytes.T8.2 laws_FnCmdBytes.B8 = true := by kernel_rfl
def laws_FnCmdBytes.T10 : Bool × List (List Nat × List Nat) := (true, [([], []), ([0], [0]), ([1], [1]), ([2, 1, 1], [1, 2]), ([3, 1], [1, 3]), ([1], [1]), ([1], [1]), ([1], [1]), ([5, 6, 7, 1], [1, 5, 6, 7]), ([8, 1], [1, 8]), ([4, 9, 1], [1, 4, 9]), ([1, 10], [1, 10])])
def laws_FnCmdBytes.B10 : List Nat := [0, 1, 3, 7, 15, 3, 3, 3, 227, 483, 1023, 2047]
theorem laws_FnCmdBytes.tab10 : rtab .any (opsOf Try.f10 10) = laws_FnCmdBytes.T10 := by kernel_rfl
theorem laws_FnCmdBytes.bits10 : waitsOk laws_FnCmdBytes.T10.2 laws_FnCmdBytes.B10 = true := by kernel_rfl
end
end Go.Proofs.Ytiknkolclcdajaa.Q
