/- Made by a program of ours out of the print of the loaded functions: for each of some functions a plain function, and the walk that shows that a call comes to what it says. No condition but those of each theorem. -/
import Derived.Test.YthmjhhkheohgfaaZFnMakers0
import Derived.Test.YthmjhhkheohgfaaZFnMakersa
import Derived.Test.YthmjhhkheohgfaaZFnMakersb
namespace Go.Proofs.Ythmjhhkheohgfaa.Q
open Go.RowKit Go.Proofs.YthmjhhkheohgfaaW.PrintWords Go.Proofs.YthmjhhkheohgfaaW.PrintLast Go.Proofs.YthmjhhkheohgfaaW.PrintMore
attribute [local go_sem] max2_int min2_int max_two min_two max_three min_three max_four min_four   -- for this text's walks alone
set_option linter.unusedVariables false
set_option linter.unusedSimpArgs false
theorem qc0_ {P : Prop} (h : P := by repeat (first | (with_reducible first | exact HB.out | apply below_alloc | apply pw_below_drewN | apply below_drew1 | refine below_set ?_ GE881.out) | exact HB.out)) : P := h
theorem qc1_ {P : Prop} (h : P := by repeat (first | (with_reducible first | exact HB.out | apply below_alloc | apply pw_below_drewN | apply below_drew1 | refine below_set ?_ (IsS_l1Cur.ge HI851.out) | refine below_set ?_ GE847.out | refine below_set ?_ GE861.out) | exact HB.out)) : P := h
theorem qc2_ {P : Prop} (h : P := by repeat (first | (with_reducible first | exact HB.out | apply below_alloc | apply pw_below_drewN | apply below_drew1) | exact HB.out)) : P := h
theorem qc3_ {P : Prop} (h : P := by repeat (first | (with_reducible first | exact HI851.out | apply IsS_l1Cur.alloc | apply IsS_l1Cur.drewN | apply IsS_l1Cur.drew | apply IsS_l1Cur.set_1 | apply IsS_l1Cur.set_2 | refine IsS_l1Cur.far ?_ NB851_847.out _ | refine IsS_l1Cur.far ?_ NB851_861.out _) | exact HI851.out)) : P := h
theorem qc4_ {P : Prop} (h : P := by (try simp only [List.map_toArray, List.map_cons, List.map_nil]); first | done | rfl | (simp only [List.length_drop, List.length_take]; rfl)) : P := h
theorem qc5_ {P : Prop} (h : P := by repeat (first | (with_reducible first | exact HB.out | apply below_alloc | apply pw_below_drewN | apply below_drew1 | refine below_set ?_ (IsS_l1Cur.ge HI0.out) | refine below_set ?_ GE803.out | refine below_set ?_ GE813.out) | exact HB.out)) : P := h
theorem qc6_ {P : Prop} (h : P := by repeat (first | (with_reducible first | exact HK.out | apply KeepBut.set_ | apply keep_drewN | apply keep_drew | apply keep_alloc | refine keep_far ?_ GW803.out _ | refine keep_far ?_ GW813.out _) | exact HK.out)) : P := h
theorem qc7_ {P : Prop} (h : P := by (with_reducible repeat (first | apply Kd.R_alloc | apply Kd.R_drewN | apply Kd.R_drew)); exact HO_862004.out) : P := h
theorem qc8_ {P : Prop} (h : P := by first | rfl | (simp [errW_none, errW_some] <;> rfl) | (simp [*, errW_none, errW_some] <;> rfl)) : P := h
theorem qc9_ {P : Prop} (h : P := by repeat (first | (with_reducible first | exact HB.out | apply below_alloc | apply pw_below_drewN | apply below_drew1 | refine below_set ?_ (IsS_l1Cur.ge HI851.out) | refine below_set ?_ GE847.out) | exact HB.out)) : P := h
theorem qc10_ {P : Prop} (h : P := by (with_reducible repeat (first | apply Kd.R_alloc | apply Kd.R_drewN | apply Kd.R_drew)); exact Kd.R_mono (Kd.R_far (p := ⟨gb861, 4, none⟩) (Kd.R_far (p := ⟨gb861, 3, none⟩) (Kd.R_far (p := ⟨gb861, 2, none⟩) (Kd.R_far (p := ⟨gb861, 1, none⟩) (Kd.R_far (p := ⟨gb861, 0, none⟩) (Kd.R_types HO858.out BK861.out (by decide)) (fun _ hk => hk.2) (.int .i64 t852)) (fun _ hk => hk.2) (.int .i64 t853)) (fun _ hk => hk.2) (.int .i64 t854)) (fun _ hk => hk.2) (.int .i64 t855)) (fun _ hk => hk.2) (.slice Ao13 t856.length co13)) (fun _ hk => trivial)) : P := h
theorem qc11_ {P : Prop} (h : P := by first | rfl | (simp; done) | (simp [*]; done)) : P := h
theorem qc12_ {P : Prop} (h : P := by repeat (first | (with_reducible first | exact HB.out | apply below_alloc | apply pw_below_drewN | apply below_drew1 | refine below_set ?_ GE881.out | refine below_set ?_ GE883.out) | exact HB.out)) : P := h
theorem qc13_ {P : Prop} (h : P := by repeat (first | (with_reducible first | exact HK.out | apply KeepBut.set_ | apply keep_drewN | apply keep_drew | apply keep_alloc) | exact HK.out)) : P := h
theorem qch0_ {P : Prop} (h : P := by fail) : P := h
theorem qch1_ {P : Prop} (h : P := by fail) : P := h
theorem qch2_ {P : Prop} (h : P := by repeat' first | (with_reducible exact ih0 _ _ _ _ _ _ _ _ _ _) | (with_reducible exact ih1 _ _ _ _ _ _ _ _ _ _) | (with_reducible exact spec_l1New.mono _ _) | (with_reducible exact spec_l4Draw.mono _ _ _ _) | (with_reducible exact LeO.refl _) | (with_reducible exact LeO.none _) | (with_reducible refine LeO.ite ?_ ?_) | (with_reducible refine LeO.bind ?_ (fun _ => ?_)) | exact ih0 _ _ _ _ _ _ _ _ _ _ | exact ih1 _ _ _ _ _ _ _ _ _ _ | exact spec_l1New.mono _ _ | exact spec_l4Draw.mono _ _ _ _ | exact LeO.none _ | refine LeO.ite ?_ ?_ | refine LeO.bind ?_ (fun _ => ?_)) : P := h
theorem qch3_ {P : Prop} (h : P := by repeat' first | (with_reducible exact ih0 _ _ _ _ _ _) | (with_reducible exact ih1 _ _ _ _) | (with_reducible exact ih2 _ _ _ _ _ _ _ _) | (with_reducible exact ih3 _ _ _ _ _ _ _) | (with_reducible exact LeO.refl _) | (with_reducible exact LeO.none _) | (with_reducible refine LeO.ite ?_ ?_) | (with_reducible refine LeO.bind ?_ (fun _ => ?_)) | exact ih0 _ _ _ _ _ _ | exact ih1 _ _ _ _ | exact ih2 _ _ _ _ _ _ _ _ | exact ih3 _ _ _ _ _ _ _ | exact LeO.none _ | refine LeO.ite ?_ ?_ | refine LeO.bind ?_ (fun _ => ?_)) : P := h

/-! ### spec_l4Draw: function 73 -/
def spec_l4Draw.f (k : Nat) (s0_0 : List Int) (s0_1 : Int) (s0_2 : Int) : Option (Int × Int × Int × Int × (List (S_Mark)) × Int × Int) := (spec_l4DrawRight.f k s0_0 s0_1 s0_2).bind fun bt804 => ((spec_l1Below.f s0_0 bt804.2.2.2.2.2.1 bt804.2.2.2.2.2.2 12).bind fun bt814 => (if bt814.1 = 0 then ((spec_l1PickInt.f s0_0 bt814.2.1 bt814.2.2 (([(-2), (-1), 5, 100000, 9223372036854775807, (-9223372036854775808)] : List Int))).bind fun bt820 => (some (bt804.1, bt804.2.1, bt804.2.2.1, bt820.1, bt804.2.2.2.2.1, bt820.2.1, bt820.2.2))) else (if bt814.1 = 1 then ((spec_l1PickInt.f s0_0 bt814.2.1 bt814.2.2 (([(-1), 0, 2] : List Int))).bind fun bt826 => (some (bt804.1, bt804.2.1, bt826.1, bt804.2.2.2.1, bt804.2.2.2.2.1, bt826.2.1, bt826.2.2))) else (if bt814.1 = 2 then ((spec_l1Below.f s0_0 bt814.2.1 bt814.2.2 9).bind fun bt829 => ((spec_l1Below.f s0_0 bt829.2.1 bt829.2.2 9).bind fun bt832 => (if bt804.2.2.2.2.1.length < 8796093022208 then (some (bt804.1, bt804.2.1, bt804.2.2.1, bt804.2.2.2.1, (bt804.2.2.2.2.1 ++ [(⟨bt829.1, bt832.1⟩ : S_Mark)]), bt832.2.1, bt832.2.2)) else (none)))) else (if bt814.1 = 3 then ((spec_l1PickInt.f s0_0 bt814.2.1 bt814.2.2 (([(-1), 3, 4] : List Int))).bind fun bt841 => (some (bt841.1, bt804.2.1, bt804.2.2.1, bt804.2.2.2.1, bt804.2.2.2.2.1, bt841.2.1, bt841.2.2))) else (some (bt804.1, bt804.2.1, bt804.2.2.1, bt804.2.2.2.1, bt804.2.2.2.2.1, bt814.2.1, bt814.2.2)))))))
theorem spec_l4Draw.mono : ∀ a0 a1 a2 k, LeO (spec_l4Draw.f k a0 a1 a2) (spec_l4Draw.f (k + 1) a0 a1 a2) := by
 intro a0 a1 a2 k
 unfold spec_l4Draw.f
 repeat' first
  | (with_reducible exact spec_l4DrawRight.mono _ _ _ _)
  | (with_reducible exact LeO.refl _)
  | (with_reducible exact LeO.none _)
  | (with_reducible refine LeO.ite ?_ ?_)
  | (with_reducible refine LeO.bind ?_ (fun _ => ?_))
  | exact spec_l4DrawRight.mono _ _ _ _
  | exact LeO.none _
  | refine LeO.ite ?_ ?_
  | refine LeO.bind ?_ (fun _ => ?_)
def spec_l4Draw.T8 : Bool × List (List Nat × List Nat) := (true, [([], []), ([0], [0]), ([], []), ([2], [2]), ([], []), ([4, 3], [4]), ([3, 5], [3, 5]), ([6], [6]), ([1, 7, 5], [1, 7]), ([0, 1, 2, 3, 4, 5, 6, 7, 8], []), ([9, 8, 8, 0, 1, 2, 3, 4, 5, 6, 7, 8], [8, 9])])
def spec_l4Draw.B8 : List Nat := [0, 1, 0, 4, 0, 28, 60, 124, 255, 511, 1023]
theorem spec_l4Draw.tab8 : rtab .any (opsOf Try.f73 8) = spec_l4Draw.T8 := by kernel_rfl
theorem spec_l4Draw.bits8 : waitsOk spec_l4Draw.T8.2 spec_l4Draw.B8 = true := by kernel_rfl
set_option maxHeartbeats 8000000 in
set_option maxRecDepth 100000 in
theorem spec_l4Draw.calls (k : Nat) (g : Nat) (s0_0 : List Int) (s0_1 : Int) (s0_2 : Int) (r1 : Int) (r2 : Int) (r3 : Int) (r4 : Int) (r5 : List (S_Mark)) (r6 : Int) (r7 : Int) (w0 w : World) (hI : IsS_l1Cur w0 w g s0_0 s0_1 s0_2) (hB : Below w0.heap.size w0 w) (h : spec_l4Draw.f k s0_0 s0_1 s0_2 = some (r1, r2, r3, r4, r5, r6, r7)) :
 Calls Try.prog 73 #[.pointer (some ⟨g, 0, none⟩)] w fun e w' => ∃ v4_ : Value, e = .returned (.agg #[.int .i64 r1, .int .i64 r2, .int .i64 r3, .int .i64 r4, v4_]) ∧ Kd.R k_Mark 110 w' w.heap.size (fun _ => True) v4_ r5 ∧ IsS_l1Cur w0 w' g s0_0 r6 r7 ∧ Below w0.heap.size w0 w' ∧ KeepBut w w' g none := by
 have hu38 := Try.underlying38
 have hu110 := Try.underlying110
 have HI0 := Aside0.mk hI
 have HK := Aside0.mk (KeepBut.refl w g none)
 have HL := Aside0.mk hB.size
 clear hI
 have HW0 := Aside0.mk hB.size
 have HB := Aside0.mk hB
 clear hB
 have H : ((spec_l4DrawRight.f k s0_0 s0_1 s0_2).bind fun bt804 => ((spec_l1Below.f s0_0 bt804.2.2.2.2.2.1 bt804.2.2.2.2.2.2 12).bind fun bt814 => (if bt814.1 = 0 then ((spec_l1PickInt.f s0_0 bt814.2.1 bt814.2.2 (([(-2), (-1), 5, 100000, 9223372036854775807, (-9223372036854775808)] : List Int))).bind fun bt820 => (some (bt804.1, bt804.2.1, bt804.2.2.1, bt820.1, bt804.2.2.2.2.1, bt820.2.1, bt820.2.2))) else (if bt814.1 = 1 then ((spec_l1PickInt.f s0_0 bt814.2.1 bt814.2.2 (([(-1), 0, 2] : List Int))).bind fun bt826 => (some (bt804.1, bt804.2.1, bt826.1, bt804.2.2.2.1, bt804.2.2.2.2.1, bt826.2.1, bt826.2.2))) else (if bt814.1 = 2 then ((spec_l1Below.f s0_0 bt814.2.1 bt814.2.2 9).bind fun bt829 => ((spec_l1Below.f s0_0 bt829.2.1 bt829.2.2 9).bind fun bt832 => (if bt804.2.2.2.2.1.length < 8796093022208 then (some (bt804.1, bt804.2.1, bt804.2.2.1, bt804.2.2.2.1, (bt804.2.2.2.2.1 ++ [(⟨bt829.1, bt832.1⟩ : S_Mark)]), bt832.2.1, bt832.2.2)) else (none)))) else (if bt814.1 = 3 then ((spec_l1PickInt.f s0_0 bt814.2.1 bt814.2.2 (([(-1), 3, 4] : List Int))).bind fun bt841 => (some (bt841.1, bt804.2.1, bt804.2.2.1, bt804.2.2.2.1, bt804.2.2.2.2.1, bt841.2.1, bt841.2.2))) else (some (bt804.1, bt804.2.1, bt804.2.2.1, bt804.2.2.2.1, bt804.2.2.2.2.1, bt814.2.1, bt814.2.2)))))))) = some (r1, r2, r3, r4, r5, r6, r7) := h
 clear h
 replace H := Option.bind_eq_some_iff.mp H
 obtain ⟨⟨t804, t805, t806, t807, t808, t811, t812⟩, A20, H⟩ := H
 replace H : ((spec_l1Below.f s0_0 t811 t812 12).bind fun bt814 => (if bt814.1 = 0 then ((spec_l1PickInt.f s0_0 bt814.2.1 bt814.2.2 (([(-2), (-1), 5, 100000, 9223372036854775807, (-9223372036854775808)] : List Int))).bind fun bt820 => (some (t804, t805, t806, bt820.1, t808, bt820.2.1, bt820.2.2))) else (if bt814.1 = 1 then ((spec_l1PickInt.f s0_0 bt814.2.1 bt814.2.2 (([(-1), 0, 2] : List Int))).bind fun bt826 => (some (t804, t805, bt826.1, t807, t808, bt826.2.1, bt826.2.2))) else (if bt814.1 = 2 then ((spec_l1Below.f s0_0 bt814.2.1 bt814.2.2 9).bind fun bt829 => ((spec_l1Below.f s0_0 bt829.2.1 bt829.2.2 9).bind fun bt832 => (if t808.length < 8796093022208 then (some (t804, t805, t806, t807, (t808 ++ [(⟨bt829.1, bt832.1⟩ : S_Mark)]), bt832.2.1, bt832.2.2)) else (none)))) else (if bt814.1 = 3 then ((spec_l1PickInt.f s0_0 bt814.2.1 bt814.2.2 (([(-1), 3, 4] : List Int))).bind fun bt841 => (some (bt841.1, t805, t806, t807, t808, bt841.2.1, bt841.2.2))) else (some (t804, t805, t806, t807, t808, bt814.2.1, bt814.2.2))))))) = some (r1, r2, r3, r4, r5, r6, r7) := H
 have A2 := Aside0.mk A20
 clear A20
 replace H := Option.bind_eq_some_iff.mp H
 obtain ⟨⟨t814, t815, t816⟩, A30, H⟩ := H
 replace H : (if t814 = 0 then ((spec_l1PickInt.f s0_0 t815 t816 (([(-2), (-1), 5, 100000, 9223372036854775807, (-9223372036854775808)] : List Int))).bind fun bt820 => (some (t804, t805, t806, bt820.1, t808, bt820.2.1, bt820.2.2))) else (if t814 = 1 then ((spec_l1PickInt.f s0_0 t815 t816 (([(-1), 0, 2] : List Int))).bind fun bt826 => (some (t804, t805, bt826.1, t807, t808, bt826.2.1, bt826.2.2))) else (if t814 = 2 then ((spec_l1Below.f s0_0 t815 t816 9).bind fun bt829 => ((spec_l1Below.f s0_0 bt829.2.1 bt829.2.2 9).bind fun bt832 => (if t808.length < 8796093022208 then (some (t804, t805, t806, t807, (t808 ++ [(⟨bt829.1, bt832.1⟩ : S_Mark)]), bt832.2.1, bt832.2.2)) else (none)))) else (if t814 = 3 then ((spec_l1PickInt.f s0_0 t815 t816 (([(-1), 3, 4] : List Int))).bind fun bt841 => (some (bt841.1, t805, t806, t807, t808, bt841.2.1, bt841.2.2))) else (some (t804, t805, t806, t807, t808, t815, t816)))))) = some (r1, r2, r3, r4, r5, r6, r7) := H
 have A3 := Aside0.mk A30
 clear A30
 by_cases c4 : t814 = 0
 ·
  rw [if_pos c4] at H
  have c4b0 : (t814 == 0) = true := beq_iff_eq.mpr c4
  have c4b1 : (t814 != 0) = false := bne_eq_false_iff_eq.mpr c4
  clear c4
  obtain ⟨y817, hy817⟩ : ∃ y_ : List Int, y_ = (([(-2), (-1), 5, 100000, 9223372036854775807, (-9223372036854775808)] : List Int)) := ⟨_, rfl⟩
  replace H : ((spec_l1PickInt.f s0_0 t815 t816 y817).bind fun bt820 => (some (t804, t805, t806, bt820.1, t808, bt820.2.1, bt820.2.2))) = some (r1, r2, r3, r4, r5, r6, r7) := by first | (rw [hy817]; with_reducible exact H) | (have H2_ := (Option.bind_some _ _).symm.trans H; rw [hy817]; with_reducible exact H2_) | (have H2_ := (Option.bind_some _ _).symm.trans H; with_reducible exact H2_) | with_reducible exact H | (rw [hy817]; exact H) | exact H
  have Ny817 := Aside0.mk hy817
  clear hy817
  replace H := Option.bind_eq_some_iff.mp H
  obtain ⟨⟨t820, t821, t822⟩, A50, H⟩ := H
  replace H : (some (t804, t805, t806, t820, t808, t821, t822)) = some (r1, r2, r3, r4, r5, r6, r7) := H
  have A5 := Aside0.mk A50
  clear A50
  simp only [Option.some.injEq, Prod.mk.injEq] at H
  obtain ⟨rfl, rfl, rfl, rfl, rfl, rfl, rfl⟩ := H
  go_enter Try.func73, Try.ntmps73
  go_wp2_with (first | ((with_reducible refine gate_dst (N := 2) rfl ?_); refine box_event ?hg (N := 2) ?hd (cs := #[.int .i64 0, .int .i64 0, .int .i64 0, .int .i64 0, .slice none 0 0]) (t := 38) ?hr ?_; (case hd => rfl); (case hg => rfl); (case hr => first | (go_simp; done) | (go_simp; rfl)); intro gb803 hg w6 hbox hb; have BK803 := Aside0.mk (hbox); have GW803 := Aside0.mk ((by rw [hg]; exact (keep_size (w := w) (g := g) (row := none) (hk_ HK.out)) : w.heap.size ≤ gb803)); have GE803 := Aside0.mk ((Nat.le_trans HW0.out (by rw [hg]; exact (keep_size (w := w) (g := g) (row := none) (hk_ HK.out)) : w.heap.size ≤ gb803) : w0.heap.size ≤ gb803)); have NB0_803 := Aside0.mk ((by rw [hg]; exact Nat.ne_of_lt (IsS_l1Cur.lt (show IsS_l1Cur w0 _ g s0_0 s0_1 s0_2 from is_l1Cur_ HI0.out)) : g ≠ gb803)); have NB803_0 := Aside0.mk ((by rw [hg]; exact Nat.ne_of_gt (IsS_l1Cur.lt (show IsS_l1Cur w0 _ g s0_0 s0_1 s0_2 from is_l1Cur_ HI0.out)) : gb803 ≠ g)); replace HI0 := Aside0.mk (IsS_l1Cur.below (is_l1Cur_ HI0.out) hb); replace HK := Aside0.mk (KeepBut.trans (hk_ HK.out) (KeepBut.of_below hb g none) (.inl rfl)); replace HB := Aside0.mk (below_step (hi_ HB.out) hb); clear hb hbox hg) | ((with_reducible refine gate_callee (f := 107) rfl ?_); refine goesL_ (some 5) rfl rfl Try.func107 (by kernel_rfl) rfl #[.pointer (some ⟨g, 0, none⟩)] rfl sm_ ?_; (with_reducible refine (spec_l4DrawRight.calls k g s0_0 s0_1 s0_2 t804 t805 t806 t807 t808 t811 t812 w0 _ ?side1 ?side2 A2.out).mono ?_); (case side1 => repeat (first | (with_reducible first | exact HI0.out | apply IsS_l1Cur.alloc | apply IsS_l1Cur.drewN | apply IsS_l1Cur.drew | apply IsS_l1Cur.set_1 | apply IsS_l1Cur.set_2 | refine IsS_l1Cur.far ?_ NB0_803.out _) | exact HI0.out)); (case side2 => repeat (first | (with_reducible first | exact HB.out | apply below_alloc | apply pw_below_drewN | apply below_drew1 | refine below_set ?_ (IsS_l1Cur.ge HI0.out) | refine below_set ?_ GE803.out) | exact HB.out)); rintro e w7 ⟨v809, rfl, ho0, hi, hb, hk⟩; refine ⟨_, rfl, ?_⟩; have HO810 := Aside0.mk (Kd.R_lower ho0 (keep_size (w := w) (g := g) (row := none) (hk_ HK.out))); replace BK803 := Aside0.mk (KeepBut.blk hk (g' := gb803) (o := .cells #[.int .i64 0, .int .i64 0, .int .i64 0, .int .i64 0, .slice none 0 0] 38 (0, 0)) (bq_ BK803.out) NB803_0.out (by simp)); replace HK := Aside0.mk (KeepBut.trans (hk_ HK.out) hk (.inl rfl)); replace HB := Aside0.mk (hb); replace HI0 := Aside0.mk (hi); (try clear hb); (try clear hb2); (try clear hk); (try clear hi); (try clear ho0)) | ((with_reducible refine gate_dst (N := 3) rfl ?_); refine box_event ?hg (N := 3) ?hd (cs := #[.int .i64 0, .int .i64 0, .int .i64 0, .int .i64 0, .slice none 0 0]) (t := 38) ?hr ?_; (case hd => rfl); (case hg => rfl); (case hr => first | (go_simp; done) | (go_simp; rfl)); intro gb813 hg w8 hbox hb; have BK813 := Aside0.mk (hbox); have GW813 := Aside0.mk ((by rw [hg]; exact (keep_size (w := w) (g := g) (row := none) (hk_ HK.out)) : w.heap.size ≤ gb813)); have GE813 := Aside0.mk ((Nat.le_trans HW0.out (by rw [hg]; exact (keep_size (w := w) (g := g) (row := none) (hk_ HK.out)) : w.heap.size ≤ gb813) : w0.heap.size ≤ gb813)); have NB803_813 := cn_ BK803 hg; have NB813_803 := cm_ BK803 hg; have NB0_813 := Aside0.mk ((by rw [hg]; exact Nat.ne_of_lt (IsS_l1Cur.lt (show IsS_l1Cur w0 _ g s0_0 t811 t812 from is_l1Cur_ HI0.out)) : g ≠ gb813)); have NB813_0 := Aside0.mk ((by rw [hg]; exact Nat.ne_of_gt (IsS_l1Cur.lt (show IsS_l1Cur w0 _ g s0_0 t811 t812 from is_l1Cur_ HI0.out)) : gb813 ≠ g)); replace HO810 := cr_ HO810 hb; replace HI0 := Aside0.mk (IsS_l1Cur.below (is_l1Cur_ HI0.out) hb); replace BK803 := cb_ BK803 hb; replace HK := Aside0.mk (KeepBut.trans (hk_ HK.out) (KeepBut.of_below hb g none) (.inl rfl)); replace HB := Aside0.mk (below_step (hi_ HB.out) hb); clear hb hbox hg; have hnb9 := NB813_803.out; have hnc9 := NB803_813.out; have hnb10 := NB813_0.out; have hnc10 := NB0_813.out; have hcz11_0 : w8.cell? ⟨gb813, 0, none⟩ = some (.int .i64 0) := bc_ BK813 0; have hcz11_1 : w8.cell? ⟨gb813, 1, none⟩ = some (.int .i64 0) := bc_ BK813 1; have hcz11_2 : w8.cell? ⟨gb813, 2, none⟩ = some (.int .i64 0) := bc_ BK813 2; have hcz11_3 : w8.cell? ⟨gb813, 3, none⟩ = some (.int .i64 0) := bc_ BK813 3; have hcz11_4 : w8.cell? ⟨gb813, 4, none⟩ = some (.slice none 0 0) := bc_ BK813 4; have hfz11_0 := blk_frozen BK813.out 0; have hfz11_1 := blk_frozen BK813.out 1; have hfz11_2 := blk_frozen BK813.out 2; have hfz11_3 := blk_frozen BK813.out 3; have hfz11_4 := blk_frozen BK813.out 4; obtain ⟨Ao12, co12, eo12⟩ := Kd.R_slice HO810.out; subst eo12) | ((with_reducible refine gate_callee (f := 76) rfl ?_); refine goesL_ (some 7) rfl rfl Try.func76 (by kernel_rfl) rfl #[.pointer (some ⟨g, 0, none⟩), .int .i64 12] rfl sm_ ?_; (with_reducible refine (spec_l1Below.calls g s0_0 t811 t812 12 t814 t815 t816 w0 _ ?side1 ?side2 A3.out).mono ?_); (case side1 => repeat (first | (with_reducible first | exact HI0.out | apply IsS_l1Cur.alloc | apply IsS_l1Cur.drewN | apply IsS_l1Cur.drew | apply IsS_l1Cur.set_1 | apply IsS_l1Cur.set_2 | refine IsS_l1Cur.far ?_ NB0_803.out _ | refine IsS_l1Cur.far ?_ NB0_813.out _) | exact HI0.out)); (case side2 => repeat (first | (with_reducible first | exact HB.out | apply below_alloc | apply pw_below_drewN | apply below_drew1 | refine below_set ?_ (IsS_l1Cur.ge HI0.out) | refine below_set ?_ GE803.out | refine below_set ?_ GE813.out) | exact HB.out)); rintro e w13 ⟨rfl, hi, hb, hk⟩; refine ⟨_, rfl, ?_⟩; replace BK803 := Aside0.mk (KeepBut.blk hk (g' := gb803) (o := .cells #[.int .i64 0, .int .i64 0, .int .i64 0, .int .i64 0, .slice none 0 0] 38 (0, 0)) (bf_ NB803_813.out BK803.out) NB803_0.out (by simp)); replace HO810 := Aside0.mk (Kd.R_mono (Kd.R_keep (IsS_l1Cur.apart (show IsS_l1Cur w0 _ g s0_0 t811 t812 from is_l1Cur_ HI0.out) (rk_ HO810.out BK813.out) (by decide)) hk (fun _ h => h.2)) (fun _ h => h.1)); replace BK813 := Aside0.mk (KeepBut.blk hk (g' := gb813) (o := .cells #[.int .i64 t804, .int .i64 t805, .int .i64 t806, .int .i64 t807, .slice Ao12 t808.length co12] 38 (0, 0)) (bp_ BK813.out) NB813_0.out (by simp)); replace HK := Aside0.mk (KeepBut.trans (hk_ HK.out) hk (.inl rfl)); replace HB := Aside0.mk (hb); replace HI0 := Aside0.mk (hi); (try clear hb); (try clear hb2); (try clear hk); (try clear hi)) | ((with_reducible refine gate_dst (N := 11) rfl ?_); refine Kd.R_lit (Kd.int .i64) _ 3 ?hg (N := 11) ?hd (xs := ([(-2), (-1), 5, 100000, 9223372036854775807, (-9223372036854775808)] : List Int)) (inner := [.int .i64 (-2), .int .i64 (-1), .int .i64 5, .int .i64 100000, .int .i64 9223372036854775807, .int .i64 (-9223372036854775808)]) (ok := fun _ => True) (okp := fun _ => True) ?hr ?hp (fun _ hk => hk) trivial (Below.refl _ _) (Nat.le_refl _) (by simp) ?_; (case hd => rfl); (case hg => rfl); (case hr => first | (go_simp; done) | (go_simp; rfl)); (case hp => exact (Reps.one (show Kd.M (Kd.int .i64) _ _ _ (-2) [.int .i64 (-2)] from rfl) (Reps.one (show Kd.M (Kd.int .i64) _ _ _ (-1) [.int .i64 (-1)] from rfl) (Reps.one (show Kd.M (Kd.int .i64) _ _ _ 5 [.int .i64 5] from rfl) (Reps.one (show Kd.M (Kd.int .i64) _ _ _ 100000 [.int .i64 100000] from rfl) (Reps.one (show Kd.M (Kd.int .i64) _ _ _ 9223372036854775807 [.int .i64 9223372036854775807] from rfl) (Reps.one (show Kd.M (Kd.int .i64) _ _ _ (-9223372036854775808) [.int .i64 (-9223372036854775808)] from rfl) (Reps.none _ _)))))))); intro v818 w14 ho15 hb hg_ hnew_; clear hg_ hnew_; (first | rw [← Ny817.out] at ho15 | (simp only [Int.reduceToNat] at ho15; rw [← Ny817.out] at ho15)); have HO819 := Aside0.mk (Kd.R_lower ho15 (keep_size (w := w) (g := g) (row := none) (hk_ HK.out))); replace HO810 := cr_ HO810 hb; replace HI0 := Aside0.mk (IsS_l1Cur.below (is_l1Cur_ HI0.out) hb); replace BK803 := cb_ BK803 hb; replace BK813 := cb_ BK813 hb; replace HK := Aside0.mk (KeepBut.trans (hk_ HK.out) (KeepBut.of_below hb g none) (.inl rfl)); replace HB := Aside0.mk (below_step (hi_ HB.out) hb); clear hb ho15; obtain ⟨Ao16, co16, eo16⟩ := Kd.R_slice HO819.out; subst eo16) | ((with_reducible refine gate_callee (f := 52) rfl ?_); refine goesL_ (some 12) rfl rfl Try.func52 (by kernel_rfl) rfl #[.pointer (some ⟨g, 0, none⟩), .slice Ao16 y817.length co16] rfl sm_ ?_; (with_reducible refine (spec_l1PickInt.calls g s0_0 t815 t816 _ _ y817 t820 t821 t822 w0 _ ?side1 ?side2 ?side3 ?side4 ?side5 A5.out).mono ?_); (case side1 => repeat (first | (with_reducible first | exact HI0.out | apply IsS_l1Cur.alloc | apply IsS_l1Cur.drewN | apply IsS_l1Cur.drew | apply IsS_l1Cur.set_1 | apply IsS_l1Cur.set_2 | refine IsS_l1Cur.far ?_ NB0_803.out _ | refine IsS_l1Cur.far ?_ NB0_813.out _) | exact HI0.out)); (case side2 => repeat (first | (with_reducible first | exact HB.out | apply below_alloc | apply pw_below_drewN | apply below_drew1 | refine below_set ?_ (IsS_l1Cur.ge HI0.out) | refine below_set ?_ GE803.out | refine below_set ?_ GE813.out) | exact HB.out)); (case side3 => repeat (first | exact (Kd.R_reads' HO819.out).2.2 | (with_reducible refine Kd.C_alloc ?_ _) | (with_reducible refine Kd.C_drewN ?_ _) | (with_reducible refine Kd.C_drew ?_))); (case side4 => exact (Kd.R_reads' HO819.out).2.1); (case side5 => exact far_slice (IsS_l1Cur.own_ne HI0.out HO819.out (by decide))); rintro e w17 ⟨rfl, hi, hb, hk⟩; refine ⟨_, rfl, ?_⟩; replace BK803 := Aside0.mk (KeepBut.blk hk (g' := gb803) (o := .cells #[.int .i64 0, .int .i64 0, .int .i64 0, .int .i64 0, .slice none 0 0] 38 (0, 0)) (bq_ BK803.out) NB803_0.out (by simp)); replace HO810 := Aside0.mk (Kd.R_mono (Kd.R_keep (IsS_l1Cur.apart (show IsS_l1Cur w0 _ g s0_0 t815 t816 from is_l1Cur_ HI0.out) (rq_ HO810.out) (by decide)) hk (fun _ h => h.2)) (fun _ h => h.1)); replace BK813 := Aside0.mk (KeepBut.blk hk (g' := gb813) (o := .cells #[.int .i64 t804, .int .i64 t805, .int .i64 t806, .int .i64 t807, .slice Ao12 t808.length co12] 38 (0, 0)) (bq_ BK813.out) NB813_0.out (by simp)); replace HO819 := Aside0.mk (Kd.R_mono (Kd.R_keep (IsS_l1Cur.apart (show IsS_l1Cur w0 _ g s0_0 t815 t816 from is_l1Cur_ HI0.out) (rq_ HO819.out) (by decide)) hk (fun _ h => h.2)) (fun _ h => h.1)); replace HK := Aside0.mk (KeepBut.trans (hk_ HK.out) hk (.inl rfl)); replace HB := Aside0.mk (hb); replace HI0 := Aside0.mk (hi); (try clear hb); (try clear hb2); (try clear hk); (try clear hi); have hcz18_0 : w17.cell? ⟨gb813, 0, none⟩ = some (.int .i64 t804) := bc_ BK813 0; have hcz18_1 : w17.cell? ⟨gb813, 1, none⟩ = some (.int .i64 t805) := bc_ BK813 1; have hcz18_2 : w17.cell? ⟨gb813, 2, none⟩ = some (.int .i64 t806) := bc_ BK813 2; have hcz18_3 : w17.cell? ⟨gb813, 3, none⟩ = some (.int .i64 t807) := bc_ BK813 3; have hcz18_4 : w17.cell? ⟨gb813, 4, none⟩ = some (.slice Ao12 t808.length co12) := bc_ BK813 4; have hfz18_0 := blk_frozen BK813.out 0; have hfz18_1 := blk_frozen BK813.out 1; have hfz18_2 := blk_frozen BK813.out 2; have hfz18_3 := blk_frozen BK813.out 3; have hfz18_4 := blk_frozen BK813.out 4; have hnb19 := NB803_0.out; have hnc19 := NB0_803.out; have hcz20_0 : w17.cell? ⟨gb803, 0, none⟩ = some (.int .i64 0) := bc_ BK803 0; have hcz20_1 : w17.cell? ⟨gb803, 1, none⟩ = some (.int .i64 0) := bc_ BK803 1; have hcz20_2 : w17.cell? ⟨gb803, 2, none⟩ = some (.int .i64 0) := bc_ BK803 2; have hcz20_3 : w17.cell? ⟨gb803, 3, none⟩ = some (.int .i64 0) := bc_ BK803 3; have hcz20_4 : w17.cell? ⟨gb803, 4, none⟩ = some (.slice none 0 0) := bc_ BK803 4; have hfz20_0 := blk_frozen BK803.out 0; have hfz20_1 := blk_frozen BK803.out 1; have hfz20_2 := blk_frozen BK803.out 2; have hfz20_3 := blk_frozen BK803.out 3; have hfz20_4 := blk_frozen BK803.out 4))
  refine bodyPost_ret (results_cell_row rfl _ _ gb803 38 #[.int .i64 t804, .int .i64 t805, .int .i64 t806, .int .i64 t820, .slice Ao12 t808.length co12] (0, 0) _ rfl (by_ BK803.out) Try.underlying38 rfl (by kernel_rfl)) rfl ?_
  exact ⟨_, er_, by (with_reducible repeat (first | apply Kd.R_alloc | apply Kd.R_drewN | apply Kd.R_drew)); exact Kd.R_mono (Kd.R_far (p := ⟨gb803, 4, none⟩) (Kd.R_far (p := ⟨gb803, 3, none⟩) (Kd.R_far (p := ⟨gb803, 2, none⟩) (Kd.R_far (p := ⟨gb803, 1, none⟩) (Kd.R_far (p := ⟨gb803, 0, none⟩) (Kd.R_far (p := ⟨gb813, 3, none⟩) (Kd.R_types (Kd.R_types HO810.out BK813.out (by decide)) BK803.out (by decide)) (fun _ hk => hk.1.2) (.int .i64 t820)) (fun _ hk => hk.2) (.int .i64 t804)) (fun _ hk => hk.2) (.int .i64 t805)) (fun _ hk => hk.2) (.int .i64 t806)) (fun _ hk => hk.2) (.int .i64 t820)) (fun _ hk => hk.2) (.slice Ao12 t808.length co12)) (fun _ hk => trivial), is_l1Cur_ HI0.out, qc5_, qc6_⟩
 ·
  rw [if_neg c4] at H
  have c4b0 : (t814 == 0) = false := beq_eq_false_iff_ne.mpr c4
  have c4b1 : (t814 != 0) = true := bne_iff_ne.mpr c4
  by_cases c21 : t814 = 1
  ·
   rw [if_pos c21] at H
   have c21b0 : (t814 == 1) = true := beq_iff_eq.mpr c21
   have c21b1 : (t814 != 1) = false := bne_eq_false_iff_eq.mpr c21
   clear c21
   obtain ⟨y823, hy823⟩ : ∃ y_ : List Int, y_ = (([(-1), 0, 2] : List Int)) := ⟨_, rfl⟩
   replace H : ((spec_l1PickInt.f s0_0 t815 t816 y823).bind fun bt826 => (some (t804, t805, bt826.1, t807, t808, bt826.2.1, bt826.2.2))) = some (r1, r2, r3, r4, r5, r6, r7) := by first | (rw [hy823]; with_reducible exact H) | (have H2_ := (Option.bind_some _ _).symm.trans H; rw [hy823]; with_reducible exact H2_) | (have H2_ := (Option.bind_some _ _).symm.trans H; with_reducible exact H2_) | with_reducible exact H | (rw [hy823]; exact H) | exact H
   have Ny823 := Aside0.mk hy823
   clear hy823
   replace H := Option.bind_eq_some_iff.mp H
   obtain ⟨⟨t826, t827, t828⟩, A220, H⟩ := H
   replace H : (some (t804, t805, t826, t807, t808, t827, t828)) = some (r1, r2, r3, r4, r5, r6, r7) := H
   have A22 := Aside0.mk A220
   clear A220
   simp only [Option.some.injEq, Prod.mk.injEq] at H
   obtain ⟨rfl, rfl, rfl, rfl, rfl, rfl, rfl⟩ := H
   go_enter Try.func73, Try.ntmps73
   go_wp2_with (first | ((with_reducible refine gate_dst (N := 2) rfl ?_); refine box_event ?hg (N := 2) ?hd (cs := #[.int .i64 0, .int .i64 0, .int .i64 0, .int .i64 0, .slice none 0 0]) (t := 38) ?hr ?_; (case hd => rfl); (case hg => rfl); (case hr => first | (go_simp; done) | (go_simp; rfl)); intro gb803 hg w23 hbox hb; have BK803 := Aside0.mk (hbox); have GW803 := Aside0.mk ((by rw [hg]; exact (keep_size (w := w) (g := g) (row := none) (hk_ HK.out)) : w.heap.size ≤ gb803)); have GE803 := Aside0.mk ((Nat.le_trans HW0.out (by rw [hg]; exact (keep_size (w := w) (g := g) (row := none) (hk_ HK.out)) : w.heap.size ≤ gb803) : w0.heap.size ≤ gb803)); have NB0_803 := Aside0.mk ((by rw [hg]; exact Nat.ne_of_lt (IsS_l1Cur.lt (show IsS_l1Cur w0 _ g s0_0 s0_1 s0_2 from is_l1Cur_ HI0.out)) : g ≠ gb803)); have NB803_0 := Aside0.mk ((by rw [hg]; exact Nat.ne_of_gt (IsS_l1Cur.lt (show IsS_l1Cur w0 _ g s0_0 s0_1 s0_2 from is_l1Cur_ HI0.out)) : gb803 ≠ g)); replace HI0 := Aside0.mk (IsS_l1Cur.below (is_l1Cur_ HI0.out) hb); replace HK := Aside0.mk (KeepBut.trans (hk_ HK.out) (KeepBut.of_below hb g none) (.inl rfl)); replace HB := Aside0.mk (below_step (hi_ HB.out) hb); clear hb hbox hg) | ((with_reducible refine gate_callee (f := 107) rfl ?_); refine goesL_ (some 5) rfl rfl Try.func107 (by kernel_rfl) rfl #[.pointer (some ⟨g, 0, none⟩)] rfl sm_ ?_; (with_reducible refine (spec_l4DrawRight.calls k g s0_0 s0_1 s0_2 t804 t805 t806 t807 t808 t811 t812 w0 _ ?side1 ?side2 A2.out).mono ?_); (case side1 => repeat (first | (with_reducible first | exact HI0.out | apply IsS_l1Cur.alloc | apply IsS_l1Cur.drewN | apply IsS_l1Cur.drew | apply IsS_l1Cur.set_1 | apply IsS_l1Cur.set_2 | refine IsS_l1Cur.far ?_ NB0_803.out _) | exact HI0.out)); (case side2 => repeat (first | (with_reducible first | exact HB.out | apply below_alloc | apply pw_below_drewN | apply below_drew1 | refine below_set ?_ (IsS_l1Cur.ge HI0.out) | refine below_set ?_ GE803.out) | exact HB.out)); rintro e w24 ⟨v809, rfl, ho0, hi, hb, hk⟩; refine ⟨_, rfl, ?_⟩; have HO810 := Aside0.mk (Kd.R_lower ho0 (keep_size (w := w) (g := g) (row := none) (hk_ HK.out))); replace BK803 := Aside0.mk (KeepBut.blk hk (g' := gb803) (o := .cells #[.int .i64 0, .int .i64 0, .int .i64 0, .int .i64 0, .slice none 0 0] 38 (0, 0)) (bq_ BK803.out) NB803_0.out (by simp)); replace HK := Aside0.mk (KeepBut.trans (hk_ HK.out) hk (.inl rfl)); replace HB := Aside0.mk (hb); replace HI0 := Aside0.mk (hi); (try clear hb); (try clear hb2); (try clear hk); (try clear hi); (try clear ho0)) | ((with_reducible refine gate_dst (N := 3) rfl ?_); refine box_event ?hg (N := 3) ?hd (cs := #[.int .i64 0, .int .i64 0, .int .i64 0, .int .i64 0, .slice none 0 0]) (t := 38) ?hr ?_; (case hd => rfl); (case hg => rfl); (case hr => first | (go_simp; done) | (go_simp; rfl)); intro gb813 hg w25 hbox hb; have BK813 := Aside0.mk (hbox); have GW813 := Aside0.mk ((by rw [hg]; exact (keep_size (w := w) (g := g) (row := none) (hk_ HK.out)) : w.heap.size ≤ gb813)); have GE813 := Aside0.mk ((Nat.le_trans HW0.out (by rw [hg]; exact (keep_size (w := w) (g := g) (row := none) (hk_ HK.out)) : w.heap.size ≤ gb813) : w0.heap.size ≤ gb813)); have NB803_813 := cn_ BK803 hg; have NB813_803 := cm_ BK803 hg; have NB0_813 := Aside0.mk ((by rw [hg]; exact Nat.ne_of_lt (IsS_l1Cur.lt (show IsS_l1Cur w0 _ g s0_0 t811 t812 from is_l1Cur_ HI0.out)) : g ≠ gb813)); have NB813_0 := Aside0.mk ((by rw [hg]; exact Nat.ne_of_gt (IsS_l1Cur.lt (show IsS_l1Cur w0 _ g s0_0 t811 t812 from is_l1Cur_ HI0.out)) : gb813 ≠ g)); replace HO810 := cr_ HO810 hb; replace HI0 := Aside0.mk (IsS_l1Cur.below (is_l1Cur_ HI0.out) hb); replace BK803 := cb_ BK803 hb; replace HK := Aside0.mk (KeepBut.trans (hk_ HK.out) (KeepBut.of_below hb g none) (.inl rfl)); replace HB := Aside0.mk (below_step (hi_ HB.out) hb); clear hb hbox hg; have hnb26 := NB813_803.out; have hnc26 := NB803_813.out; have hnb27 := NB813_0.out; have hnc27 := NB0_813.out; have hcz28_0 : w25.cell? ⟨gb813, 0, none⟩ = some (.int .i64 0) := bc_ BK813 0; have hcz28_1 : w25.cell? ⟨gb813, 1, none⟩ = some (.int .i64 0) := bc_ BK813 1; have hcz28_2 : w25.cell? ⟨gb813, 2, none⟩ = some (.int .i64 0) := bc_ BK813 2; have hcz28_3 : w25.cell? ⟨gb813, 3, none⟩ = some (.int .i64 0) := bc_ BK813 3; have hcz28_4 : w25.cell? ⟨gb813, 4, none⟩ = some (.slice none 0 0) := bc_ BK813 4; have hfz28_0 := blk_frozen BK813.out 0; have hfz28_1 := blk_frozen BK813.out 1; have hfz28_2 := blk_frozen BK813.out 2; have hfz28_3 := blk_frozen BK813.out 3; have hfz28_4 := blk_frozen BK813.out 4; obtain ⟨Ao29, co29, eo29⟩ := Kd.R_slice HO810.out; subst eo29) | ((with_reducible refine gate_callee (f := 76) rfl ?_); refine goesL_ (some 7) rfl rfl Try.func76 (by kernel_rfl) rfl #[.pointer (some ⟨g, 0, none⟩), .int .i64 12] rfl sm_ ?_; (with_reducible refine (spec_l1Below.calls g s0_0 t811 t812 12 t814 t815 t816 w0 _ ?side1 ?side2 A3.out).mono ?_); (case side1 => repeat (first | (with_reducible first | exact HI0.out | apply IsS_l1Cur.alloc | apply IsS_l1Cur.drewN | apply IsS_l1Cur.drew | apply IsS_l1Cur.set_1 | apply IsS_l1Cur.set_2 | refine IsS_l1Cur.far ?_ NB0_803.out _ | refine IsS_l1Cur.far ?_ NB0_813.out _) | exact HI0.out)); (case side2 => repeat (first | (with_reducible first | exact HB.out | apply below_alloc | apply pw_below_drewN | apply below_drew1 | refine below_set ?_ (IsS_l1Cur.ge HI0.out) | refine below_set ?_ GE803.out | refine below_set ?_ GE813.out) | exact HB.out)); rintro e w30 ⟨rfl, hi, hb, hk⟩; refine ⟨_, rfl, ?_⟩; replace BK803 := Aside0.mk (KeepBut.blk hk (g' := gb803) (o := .cells #[.int .i64 0, .int .i64 0, .int .i64 0, .int .i64 0, .slice none 0 0] 38 (0, 0)) (bf_ NB803_813.out BK803.out) NB803_0.out (by simp)); replace HO810 := Aside0.mk (Kd.R_mono (Kd.R_keep (IsS_l1Cur.apart (show IsS_l1Cur w0 _ g s0_0 t811 t812 from is_l1Cur_ HI0.out) (rk_ HO810.out BK813.out) (by decide)) hk (fun _ h => h.2)) (fun _ h => h.1)); replace BK813 := Aside0.mk (KeepBut.blk hk (g' := gb813) (o := .cells #[.int .i64 t804, .int .i64 t805, .int .i64 t806, .int .i64 t807, .slice Ao29 t808.length co29] 38 (0, 0)) (bp_ BK813.out) NB813_0.out (by simp)); replace HK := Aside0.mk (KeepBut.trans (hk_ HK.out) hk (.inl rfl)); replace HB := Aside0.mk (hb); replace HI0 := Aside0.mk (hi); (try clear hb); (try clear hb2); (try clear hk); (try clear hi)) | ((with_reducible refine gate_dst (N := 17) rfl ?_); refine Kd.R_lit (Kd.int .i64) _ 3 ?hg (N := 17) ?hd (xs := ([(-1), 0, 2] : List Int)) (inner := [.int .i64 (-1), .int .i64 0, .int .i64 2]) (ok := fun _ => True) (okp := fun _ => True) ?hr ?hp (fun _ hk => hk) trivial (Below.refl _ _) (Nat.le_refl _) (by simp) ?_; (case hd => rfl); (case hg => rfl); (case hr => first | (go_simp; done) | (go_simp; rfl)); (case hp => exact (Reps.one (show Kd.M (Kd.int .i64) _ _ _ (-1) [.int .i64 (-1)] from rfl) (Reps.one (show Kd.M (Kd.int .i64) _ _ _ 0 [.int .i64 0] from rfl) (Reps.one (show Kd.M (Kd.int .i64) _ _ _ 2 [.int .i64 2] from rfl) (Reps.none _ _))))); intro v824 w31 ho32 hb hg_ hnew_; clear hg_ hnew_; (first | rw [← Ny823.out] at ho32 | (simp only [Int.reduceToNat] at ho32; rw [← Ny823.out] at ho32)); have HO825 := Aside0.mk (Kd.R_lower ho32 (keep_size (w := w) (g := g) (row := none) (hk_ HK.out))); replace HO810 := cr_ HO810 hb; replace HI0 := Aside0.mk (IsS_l1Cur.below (is_l1Cur_ HI0.out) hb); replace BK803 := cb_ BK803 hb; replace BK813 := cb_ BK813 hb; replace HK := Aside0.mk (KeepBut.trans (hk_ HK.out) (KeepBut.of_below hb g none) (.inl rfl)); replace HB := Aside0.mk (below_step (hi_ HB.out) hb); clear hb ho32; obtain ⟨Ao33, co33, eo33⟩ := Kd.R_slice HO825.out; subst eo33) | ((with_reducible refine gate_callee (f := 52) rfl ?_); refine goesL_ (some 18) rfl rfl Try.func52 (by kernel_rfl) rfl #[.pointer (some ⟨g, 0, none⟩), .slice Ao33 y823.length co33] rfl sm_ ?_; (with_reducible refine (spec_l1PickInt.calls g s0_0 t815 t816 _ _ y823 t826 t827 t828 w0 _ ?side1 ?side2 ?side3 ?side4 ?side5 A22.out).mono ?_); (case side1 => repeat (first | (with_reducible first | exact HI0.out | apply IsS_l1Cur.alloc | apply IsS_l1Cur.drewN | apply IsS_l1Cur.drew | apply IsS_l1Cur.set_1 | apply IsS_l1Cur.set_2 | refine IsS_l1Cur.far ?_ NB0_803.out _ | refine IsS_l1Cur.far ?_ NB0_813.out _) | exact HI0.out)); (case side2 => repeat (first | (with_reducible first | exact HB.out | apply below_alloc | apply pw_below_drewN | apply below_drew1 | refine below_set ?_ (IsS_l1Cur.ge HI0.out) | refine below_set ?_ GE803.out | refine below_set ?_ GE813.out) | exact HB.out)); (case side3 => repeat (first | exact (Kd.R_reads' HO825.out).2.2 | (with_reducible refine Kd.C_alloc ?_ _) | (with_reducible refine Kd.C_drewN ?_ _) | (with_reducible refine Kd.C_drew ?_))); (case side4 => exact (Kd.R_reads' HO825.out).2.1); (case side5 => exact far_slice (IsS_l1Cur.own_ne HI0.out HO825.out (by decide))); rintro e w34 ⟨rfl, hi, hb, hk⟩; refine ⟨_, rfl, ?_⟩; replace BK803 := Aside0.mk (KeepBut.blk hk (g' := gb803) (o := .cells #[.int .i64 0, .int .i64 0, .int .i64 0, .int .i64 0, .slice none 0 0] 38 (0, 0)) (bq_ BK803.out) NB803_0.out (by simp)); replace HO810 := Aside0.mk (Kd.R_mono (Kd.R_keep (IsS_l1Cur.apart (show IsS_l1Cur w0 _ g s0_0 t815 t816 from is_l1Cur_ HI0.out) (rq_ HO810.out) (by decide)) hk (fun _ h => h.2)) (fun _ h => h.1)); replace BK813 := Aside0.mk (KeepBut.blk hk (g' := gb813) (o := .cells #[.int .i64 t804, .int .i64 t805, .int .i64 t806, .int .i64 t807, .slice Ao29 t808.length co29] 38 (0, 0)) (bq_ BK813.out) NB813_0.out (by simp)); replace HO825 := Aside0.mk (Kd.R_mono (Kd.R_keep (IsS_l1Cur.apart (show IsS_l1Cur w0 _ g s0_0 t815 t816 from is_l1Cur_ HI0.out) (rq_ HO825.out) (by decide)) hk (fun _ h => h.2)) (fun _ h => h.1)); replace HK := Aside0.mk (KeepBut.trans (hk_ HK.out) hk (.inl rfl)); replace HB := Aside0.mk (hb); replace HI0 := Aside0.mk (hi); (try clear hb); (try clear hb2); (try clear hk); (try clear hi); have hcz35_0 : w34.cell? ⟨gb813, 0, none⟩ = some (.int .i64 t804) := bc_ BK813 0; have hcz35_1 : w34.cell? ⟨gb813, 1, none⟩ = some (.int .i64 t805) := bc_ BK813 1; have hcz35_2 : w34.cell? ⟨gb813, 2, none⟩ = some (.int .i64 t806) := bc_ BK813 2; have hcz35_3 : w34.cell? ⟨gb813, 3, none⟩ = some (.int .i64 t807) := bc_ BK813 3; have hcz35_4 : w34.cell? ⟨gb813, 4, none⟩ = some (.slice Ao29 t808.length co29) := bc_ BK813 4; have hfz35_0 := blk_frozen BK813.out 0; have hfz35_1 := blk_frozen BK813.out 1; have hfz35_2 := blk_frozen BK813.out 2; have hfz35_3 := blk_frozen BK813.out 3; have hfz35_4 := blk_frozen BK813.out 4; have hnb36 := NB803_0.out; have hnc36 := NB0_803.out; have hcz37_0 : w34.cell? ⟨gb803, 0, none⟩ = some (.int .i64 0) := bc_ BK803 0; have hcz37_1 : w34.cell? ⟨gb803, 1, none⟩ = some (.int .i64 0) := bc_ BK803 1; have hcz37_2 : w34.cell? ⟨gb803, 2, none⟩ = some (.int .i64 0) := bc_ BK803 2; have hcz37_3 : w34.cell? ⟨gb803, 3, none⟩ = some (.int .i64 0) := bc_ BK803 3; have hcz37_4 : w34.cell? ⟨gb803, 4, none⟩ = some (.slice none 0 0) := bc_ BK803 4; have hfz37_0 := blk_frozen BK803.out 0; have hfz37_1 := blk_frozen BK803.out 1; have hfz37_2 := blk_frozen BK803.out 2; have hfz37_3 := blk_frozen BK803.out 3; have hfz37_4 := blk_frozen BK803.out 4))
   refine bodyPost_ret (results_cell_row rfl _ _ gb803 38 #[.int .i64 t804, .int .i64 t805, .int .i64 t826, .int .i64 t807, .slice Ao29 t808.length co29] (0, 0) _ rfl (by_ BK803.out) Try.underlying38 rfl (by kernel_rfl)) rfl ?_
   exact ⟨_, er_, by (with_reducible repeat (first | apply Kd.R_alloc | apply Kd.R_drewN | apply Kd.R_drew)); exact Kd.R_mono (Kd.R_far (p := ⟨gb803, 4, none⟩) (Kd.R_far (p := ⟨gb803, 3, none⟩) (Kd.R_far (p := ⟨gb803, 2, none⟩) (Kd.R_far (p := ⟨gb803, 1, none⟩) (Kd.R_far (p := ⟨gb803, 0, none⟩) (Kd.R_far (p := ⟨gb813, 2, none⟩) (Kd.R_types (Kd.R_types HO810.out BK813.out (by decide)) BK803.out (by decide)) (fun _ hk => hk.1.2) (.int .i64 t826)) (fun _ hk => hk.2) (.int .i64 t804)) (fun _ hk => hk.2) (.int .i64 t805)) (fun _ hk => hk.2) (.int .i64 t826)) (fun _ hk => hk.2) (.int .i64 t807)) (fun _ hk => hk.2) (.slice Ao29 t808.length co29)) (fun _ hk => trivial), is_l1Cur_ HI0.out, qc5_, qc6_⟩
  ·
   rw [if_neg c21] at H
   have c21b0 : (t814 == 1) = false := beq_eq_false_iff_ne.mpr c21
   have c21b1 : (t814 != 1) = true := bne_iff_ne.mpr c21
   by_cases c38 : t814 = 2
   ·
    rw [if_pos c38] at H
    have c38b0 : (t814 == 2) = true := beq_iff_eq.mpr c38
    have c38b1 : (t814 != 2) = false := bne_eq_false_iff_eq.mpr c38
    clear c38
    replace H := Option.bind_eq_some_iff.mp H
    obtain ⟨⟨t829, t830, t831⟩, A390, H⟩ := H
    replace H : ((spec_l1Below.f s0_0 t830 t831 9).bind fun bt832 => (if t808.length < 8796093022208 then (some (t804, t805, t806, t807, (t808 ++ [(⟨t829, bt832.1⟩ : S_Mark)]), bt832.2.1, bt832.2.2)) else (none))) = some (r1, r2, r3, r4, r5, r6, r7) := H
    have A39 := Aside0.mk A390
    clear A390
    replace H := Option.bind_eq_some_iff.mp H
    obtain ⟨⟨t832, t833, t834⟩, A400, H⟩ := H
    replace H : (if t808.length < 8796093022208 then (some (t804, t805, t806, t807, (t808 ++ [(⟨t829, t832⟩ : S_Mark)]), t833, t834)) else (none)) = some (r1, r2, r3, r4, r5, r6, r7) := H
    have A40 := Aside0.mk A400
    clear A400
    by_cases c41 : t808.length < 8796093022208
    ·
     rw [if_pos c41] at H
     have LMc41 := Aside0.mk c41
     clear c41
     obtain ⟨y835, hy835⟩ : ∃ y_ : List (S_Mark), y_ = (t808 ++ [(⟨t829, t832⟩ : S_Mark)]) := ⟨_, rfl⟩
     replace H : (some (t804, t805, t806, t807, y835, t833, t834)) = some (r1, r2, r3, r4, r5, r6, r7) := by first | (rw [hy835]; with_reducible exact H) | (have H2_ := (Option.bind_some _ _).symm.trans H; rw [hy835]; with_reducible exact H2_) | (have H2_ := (Option.bind_some _ _).symm.trans H; with_reducible exact H2_) | with_reducible exact H | (rw [hy835]; exact H) | exact H
     have Ny835 := Aside0.mk hy835
     clear hy835
     simp only [Option.some.injEq, Prod.mk.injEq] at H
     obtain ⟨rfl, rfl, rfl, rfl, rfl, rfl, rfl⟩ := H
     go_enter Try.func73, Try.ntmps73
     try go_wp2_with (first | ((with_reducible refine gate_dst (N := 2) rfl ?_); refine box_event ?hg (N := 2) ?hd (cs := #[.int .i64 0, .int .i64 0, .int .i64 0, .int .i64 0, .slice none 0 0]) (t := 38) ?hr ?_; (case hd => rfl); (case hg => rfl); (case hr => first | (go_simp; done) | (go_simp; rfl)); intro gb803 hg w42 hbox hb; have BK803 := Aside0.mk (hbox); have GW803 := Aside0.mk ((by rw [hg]; exact (keep_size (w := w) (g := g) (row := none) (hk_ HK.out)) : w.heap.size ≤ gb803)); have GE803 := Aside0.mk ((Nat.le_trans HW0.out (by rw [hg]; exact (keep_size (w := w) (g := g) (row := none) (hk_ HK.out)) : w.heap.size ≤ gb803) : w0.heap.size ≤ gb803)); have NB0_803 := Aside0.mk ((by rw [hg]; exact Nat.ne_of_lt (IsS_l1Cur.lt (show IsS_l1Cur w0 _ g s0_0 s0_1 s0_2 from is_l1Cur_ HI0.out)) : g ≠ gb803)); have NB803_0 := Aside0.mk ((by rw [hg]; exact Nat.ne_of_gt (IsS_l1Cur.lt (show IsS_l1Cur w0 _ g s0_0 s0_1 s0_2 from is_l1Cur_ HI0.out)) : gb803 ≠ g)); replace HI0 := Aside0.mk (IsS_l1Cur.below (is_l1Cur_ HI0.out) hb); replace HK := Aside0.mk (KeepBut.trans (hk_ HK.out) (KeepBut.of_below hb g none) (.inl rfl)); replace HB := Aside0.mk (below_step (hi_ HB.out) hb); clear hb hbox hg) | ((with_reducible refine gate_callee (f := 107) rfl ?_); refine goesL_ (some 5) rfl rfl Try.func107 (by kernel_rfl) rfl #[.pointer (some ⟨g, 0, none⟩)] rfl sm_ ?_; (with_reducible refine (spec_l4DrawRight.calls k g s0_0 s0_1 s0_2 t804 t805 t806 t807 t808 t811 t812 w0 _ ?side1 ?side2 A2.out).mono ?_); (case side1 => repeat (first | (with_reducible first | exact HI0.out | apply IsS_l1Cur.alloc | apply IsS_l1Cur.drewN | apply IsS_l1Cur.drew | apply IsS_l1Cur.set_1 | apply IsS_l1Cur.set_2 | refine IsS_l1Cur.far ?_ NB0_803.out _) | exact HI0.out)); (case side2 => repeat (first | (with_reducible first | exact HB.out | apply below_alloc | apply pw_below_drewN | apply below_drew1 | refine below_set ?_ (IsS_l1Cur.ge HI0.out) | refine below_set ?_ GE803.out) | exact HB.out)); rintro e w43 ⟨v809, rfl, ho0, hi, hb, hk⟩; refine ⟨_, rfl, ?_⟩; have HO810 := Aside0.mk (Kd.R_lower ho0 (keep_size (w := w) (g := g) (row := none) (hk_ HK.out))); replace BK803 := Aside0.mk (KeepBut.blk hk (g' := gb803) (o := .cells #[.int .i64 0, .int .i64 0, .int .i64 0, .int .i64 0, .slice none 0 0] 38 (0, 0)) (bq_ BK803.out) NB803_0.out (by simp)); replace HK := Aside0.mk (KeepBut.trans (hk_ HK.out) hk (.inl rfl)); replace HB := Aside0.mk (hb); replace HI0 := Aside0.mk (hi); (try clear hb); (try clear hb2); (try clear hk); (try clear hi); (try clear ho0)) | ((with_reducible refine gate_dst (N := 3) rfl ?_); refine box_event ?hg (N := 3) ?hd (cs := #[.int .i64 0, .int .i64 0, .int .i64 0, .int .i64 0, .slice none 0 0]) (t := 38) ?hr ?_; (case hd => rfl); (case hg => rfl); (case hr => first | (go_simp; done) | (go_simp; rfl)); intro gb813 hg w44 hbox hb; have BK813 := Aside0.mk (hbox); have GW813 := Aside0.mk ((by rw [hg]; exact (keep_size (w := w) (g := g) (row := none) (hk_ HK.out)) : w.heap.size ≤ gb813)); have GE813 := Aside0.mk ((Nat.le_trans HW0.out (by rw [hg]; exact (keep_size (w := w) (g := g) (row := none) (hk_ HK.out)) : w.heap.size ≤ gb813) : w0.heap.size ≤ gb813)); have NB803_813 := cn_ BK803 hg; have NB813_803 := cm_ BK803 hg; have NB0_813 := Aside0.mk ((by rw [hg]; exact Nat.ne_of_lt (IsS_l1Cur.lt (show IsS_l1Cur w0 _ g s0_0 t811 t812 from is_l1Cur_ HI0.out)) : g ≠ gb813)); have NB813_0 := Aside0.mk ((by rw [hg]; exact Nat.ne_of_gt (IsS_l1Cur.lt (show IsS_l1Cur w0 _ g s0_0 t811 t812 from is_l1Cur_ HI0.out)) : gb813 ≠ g)); replace HO810 := cr_ HO810 hb; replace HI0 := Aside0.mk (IsS_l1Cur.below (is_l1Cur_ HI0.out) hb); replace BK803 := cb_ BK803 hb; replace HK := Aside0.mk (KeepBut.trans (hk_ HK.out) (KeepBut.of_below hb g none) (.inl rfl)); replace HB := Aside0.mk (below_step (hi_ HB.out) hb); clear hb hbox hg; have hnb45 := NB813_803.out; have hnc45 := NB803_813.out; have hnb46 := NB813_0.out; have hnc46 := NB0_813.out; have hcz47_0 : w44.cell? ⟨gb813, 0, none⟩ = some (.int .i64 0) := bc_ BK813 0; have hcz47_1 : w44.cell? ⟨gb813, 1, none⟩ = some (.int .i64 0) := bc_ BK813 1; have hcz47_2 : w44.cell? ⟨gb813, 2, none⟩ = some (.int .i64 0) := bc_ BK813 2; have hcz47_3 : w44.cell? ⟨gb813, 3, none⟩ = some (.int .i64 0) := bc_ BK813 3; have hcz47_4 : w44.cell? ⟨gb813, 4, none⟩ = some (.slice none 0 0) := bc_ BK813 4; have hfz47_0 := blk_frozen BK813.out 0; have hfz47_1 := blk_frozen BK813.out 1; have hfz47_2 := blk_frozen BK813.out 2; have hfz47_3 := blk_frozen BK813.out 3; have hfz47_4 := blk_frozen BK813.out 4; obtain ⟨Ao48, co48, eo48⟩ := Kd.R_slice HO810.out; subst eo48) | ((with_reducible refine gate_callee (f := 76) rfl ?_); refine goesL_ (some 7) rfl rfl Try.func76 (by kernel_rfl) rfl #[.pointer (some ⟨g, 0, none⟩), .int .i64 12] rfl sm_ ?_; (with_reducible refine (spec_l1Below.calls g s0_0 t811 t812 12 t814 t815 t816 w0 _ ?side1 ?side2 A3.out).mono ?_); (case side1 => repeat (first | (with_reducible first | exact HI0.out | apply IsS_l1Cur.alloc | apply IsS_l1Cur.drewN | apply IsS_l1Cur.drew | apply IsS_l1Cur.set_1 | apply IsS_l1Cur.set_2 | refine IsS_l1Cur.far ?_ NB0_803.out _ | refine IsS_l1Cur.far ?_ NB0_813.out _) | exact HI0.out)); (case side2 => repeat (first | (with_reducible first | exact HB.out | apply below_alloc | apply pw_below_drewN | apply below_drew1 | refine below_set ?_ (IsS_l1Cur.ge HI0.out) | refine below_set ?_ GE803.out | refine below_set ?_ GE813.out) | exact HB.out)); rintro e w49 ⟨rfl, hi, hb, hk⟩; refine ⟨_, rfl, ?_⟩; replace BK803 := Aside0.mk (KeepBut.blk hk (g' := gb803) (o := .cells #[.int .i64 0, .int .i64 0, .int .i64 0, .int .i64 0, .slice none 0 0] 38 (0, 0)) (bf_ NB803_813.out BK803.out) NB803_0.out (by simp)); replace HO810 := Aside0.mk (Kd.R_mono (Kd.R_keep (IsS_l1Cur.apart (show IsS_l1Cur w0 _ g s0_0 t811 t812 from is_l1Cur_ HI0.out) (rk_ HO810.out BK813.out) (by decide)) hk (fun _ h => h.2)) (fun _ h => h.1)); replace BK813 := Aside0.mk (KeepBut.blk hk (g' := gb813) (o := .cells #[.int .i64 t804, .int .i64 t805, .int .i64 t806, .int .i64 t807, .slice Ao48 t808.length co48] 38 (0, 0)) (bp_ BK813.out) NB813_0.out (by simp)); replace HK := Aside0.mk (KeepBut.trans (hk_ HK.out) hk (.inl rfl)); replace HB := Aside0.mk (hb); replace HI0 := Aside0.mk (hi); (try clear hb); (try clear hb2); (try clear hk); (try clear hi)))
     replace HO810 := Aside0.mk (Kd.R_drew HO810.out)
     replace BK803 := Aside0.mk (blk_drew BK803.out)
     replace BK813 := Aside0.mk (blk_drew BK813.out)
     replace HI0 := Aside0.mk (IsS_l1Cur.drew HI0.out)
     replace HK := Aside0.mk (keep_drew HK.out)
     replace HB := Aside0.mk (below_drew1 HB.out)
     refine start_ (n := 11) (S := fun w' => w'.cell? ⟨gb813, 0, none⟩ = some (.int .i64 t804) ∧ w'.cell? ⟨gb813, 1, none⟩ = some (.int .i64 t805) ∧ w'.cell? ⟨gb813, 2, none⟩ = some (.int .i64 t806) ∧ w'.cell? ⟨gb813, 3, none⟩ = some (.int .i64 t807) ∧ w'.cell? ⟨gb813, 4, none⟩ = some (.slice Ao48 t808.length co48)) (ds := [10]) #[false, false, false, false, false, false, false, false, false, false, false] (by kernel_rfl) rfl rfl ⟨bc_ BK813 0, bc_ BK813 1, bc_ BK813 2, bc_ BK813 3, bc_ BK813 4⟩ (fun hHeld => ?_); refine with_tabW spec_l4Draw.tab8 spec_l4Draw.bits8 (fun HT_ HW_ => ?_)
     generalize w49.drew = w50 at HO810 BK803 BK813 HI0 HK HB hHeld ⊢
     refine pI_ 0 22 HT_ #[true, false, false, false, false, false, false, false, false, false, false] rfl rfl ?_
     refine pI_ 2 24 HT_ #[true, false, true, false, false, false, false, false, false, false, false] rfl rfl ?_
     refine pI_ 4 26 HT_ #[true, false, true, false, true, false, false, false, false, false, false] rfl rfl ?_
     refine tk_ 1 23 HT_ HW_ #[true, true, true, false, true, false, false, false, false, false, false] rfl rfl hHeld ?_
     refine on_ 3 25 HT_ #[true, true, true, true, true, false, false, false, false, false, false] rfl rfl (fun K hK => ?_)
     refine goes_ Try.func76 (by kernel_rfl) rfl #[.pointer (some ⟨g, 0, none⟩), .int .i64 9] (by rfl) rfl rfl sm_ ?_
     with_reducible refine (spec_l1Below.calls g s0_0 t815 t816 9 t829 t830 t831 w0 _ ?side1 ?side2 A39.out).mono ?_
     (case side1 => repeat (first | (with_reducible first | exact HI0.out | apply IsS_l1Cur.alloc | apply IsS_l1Cur.drewN | apply IsS_l1Cur.drew | apply IsS_l1Cur.set_1 | apply IsS_l1Cur.set_2 | refine IsS_l1Cur.far ?_ NB0_803.out _ | refine IsS_l1Cur.far ?_ NB0_813.out _) | exact HI0.out))
     (case side2 => repeat (first | (with_reducible first | exact HB.out | apply below_alloc | apply pw_below_drewN | apply below_drew1 | refine below_set ?_ (IsS_l1Cur.ge HI0.out) | refine below_set ?_ GE803.out | refine below_set ?_ GE813.out) | exact HB.out))
     rintro e w51 ⟨rfl, hi, hb, hk⟩
     refine ⟨_, rfl, ?_⟩
     replace BK803 := Aside0.mk (KeepBut.blk hk (g' := gb803) (o := .cells #[.int .i64 0, .int .i64 0, .int .i64 0, .int .i64 0, .slice none 0 0] 38 (0, 0)) (bq_ BK803.out) NB803_0.out (by simp))
     replace HO810 := Aside0.mk (Kd.R_mono (Kd.R_keep (IsS_l1Cur.apart (show IsS_l1Cur w0 _ g s0_0 t815 t816 from is_l1Cur_ HI0.out) (rq_ HO810.out) (by decide)) hk (fun _ h => h.2)) (fun _ h => h.1))
     replace BK813 := Aside0.mk (KeepBut.blk hk (g' := gb813) (o := .cells #[.int .i64 t804, .int .i64 t805, .int .i64 t806, .int .i64 t807, .slice Ao48 t808.length co48] 38 (0, 0)) (bq_ BK813.out) NB813_0.out (by simp))
     replace HK := Aside0.mk (KeepBut.trans (hk_ HK.out) hk (.inl rfl))
     replace HB := Aside0.mk (hb)
     replace HI0 := Aside0.mk (hi)
     (try clear hb); (try clear hb2); (try clear hk); (try clear hi)
     refine hK.out _ _ ⟨bc_ BK813 0, bc_ BK813 1, bc_ BK813 2, bc_ BK813 3, bc_ BK813 4⟩ (fun hHeld => ?_)
     clear hK K
     refine nm_ ?_
     refine on_ 5 27 HT_ #[true, true, true, true, true, true, false, false, false, false, false] rfl rfl (fun K hK => ?_)
     refine goes_ Try.func76 (by kernel_rfl) rfl #[.pointer (some ⟨g, 0, none⟩), .int .i64 9] (by rfl) rfl rfl sm_ ?_
     with_reducible refine (spec_l1Below.calls g s0_0 t830 t831 9 t832 t833 t834 w0 _ ?side1 ?side2 A40.out).mono ?_
     (case side1 => repeat (first | (with_reducible first | exact HI0.out | apply IsS_l1Cur.alloc | apply IsS_l1Cur.drewN | apply IsS_l1Cur.drew | apply IsS_l1Cur.set_1 | apply IsS_l1Cur.set_2 | refine IsS_l1Cur.far ?_ NB0_803.out _ | refine IsS_l1Cur.far ?_ NB0_813.out _) | exact HI0.out))
     (case side2 => repeat (first | (with_reducible first | exact HB.out | apply below_alloc | apply pw_below_drewN | apply below_drew1 | refine below_set ?_ (IsS_l1Cur.ge HI0.out) | refine below_set ?_ GE803.out | refine below_set ?_ GE813.out) | exact HB.out))
     rintro e w52 ⟨rfl, hi, hb, hk⟩
     refine ⟨_, rfl, ?_⟩
     replace BK803 := Aside0.mk (KeepBut.blk hk (g' := gb803) (o := .cells #[.int .i64 0, .int .i64 0, .int .i64 0, .int .i64 0, .slice none 0 0] 38 (0, 0)) (bq_ BK803.out) NB803_0.out (by simp))
     replace HO810 := Aside0.mk (Kd.R_mono (Kd.R_keep (IsS_l1Cur.apart (show IsS_l1Cur w0 _ g s0_0 t830 t831 from is_l1Cur_ HI0.out) (rq_ HO810.out) (by decide)) hk (fun _ h => h.2)) (fun _ h => h.1))
     replace BK813 := Aside0.mk (KeepBut.blk hk (g' := gb813) (o := .cells #[.int .i64 t804, .int .i64 t805, .int .i64 t806, .int .i64 t807, .slice Ao48 t808.length co48] 38 (0, 0)) (bq_ BK813.out) NB813_0.out (by simp))
     replace HK := Aside0.mk (KeepBut.trans (hk_ HK.out) hk (.inl rfl))
     replace HB := Aside0.mk (hb)
     replace HI0 := Aside0.mk (hi)
     (try clear hb); (try clear hk); (try clear hi)
     refine hK.out _ _ ⟨bc_ BK813 0, bc_ BK813 1, bc_ BK813 2, bc_ BK813 3, bc_ BK813 4⟩ (fun hHeld => ?_)
     clear hK K
     refine nm_ ?_
     refine pI_ 6 28 HT_ #[true, true, true, true, true, true, true, false, false, false, false] rfl rfl ?_
     refine on_ 7 29 HT_ #[true, true, true, true, true, true, true, true, false, false, false] rfl rfl (fun K hK => ?_)
     refine value_ (w1 := ?_) (v := ?_) (by rfl) rfl ?_ ?_
     rotate_left 2
     ·
      go_simp
      constructor
      ·
       rfl
      ·
       rfl
     refine hK.out _ _ ⟨(blk_cell (blk_alloc BK813.out _) 0).trans rfl, (blk_cell (blk_alloc BK813.out _) 1).trans rfl, (blk_cell (blk_alloc BK813.out _) 2).trans rfl, (blk_cell (blk_alloc BK813.out _) 3).trans rfl, (blk_cell (blk_alloc BK813.out _) 4).trans rfl⟩ (fun hHeld => ?_)
     clear hK K
     refine nm_ ?_
     refine on_ 8 30 HT_ #[true, true, true, true, true, true, true, true, true, false, false] rfl rfl (fun K hK => ?_)
     refine Kd.R_append_step k_Mark w.heap.size (by rfl) (.tmp 23) (.tmp 29) 36 110 (.agg #[(.int .i64 0), (.int .i64 0)]) 16 rfl Try.underlying36 info110 rfl (by decide) (by omega) (.slice Ao48 t808.length co48) t808 (⟨t829, t832⟩ : S_Mark) [.int .i64 t829, .int .i64 t832] (fun _ => True) (fun _ => False) rfl rfl ?aP (fun _ hk => hk.elim) ?aF ?aO (Below.refl _ _) ?aS ?aL ?_
     (case aP => exact k_Mark_mkM _ _ _ (⟨t829, t832⟩ : S_Mark))
     (case aF => exact (fun _ _ => trivial))
     (case aO => exact (rq_ HO810.out))
     (case aS => exact (keep_size (w := w) (g := g) (row := none) (hk_ HK.out)))
     (case aL => have := LMc41.out; omega)
     intro v836 w53 ho hb hg hat
     rw [← Ny835.out] at ho
     have HO837 := Aside0.mk (ho)
     replace HI0 := Aside0.mk (IsS_l1Cur.grown (is_l1Cur_ HI0.out) hg (IsS_l1Cur.own_ne HI0.out HO810.out (by decide)))
     replace BK803 := Aside0.mk (blk_grown (g := gb803) (o := .cells #[.int .i64 0, .int .i64 0, .int .i64 0, .int .i64 0, .slice none 0 0] 38 (0, 0)) (bq_ BK803.out) hg (Kd.R_ne HO810.out BK803.out (by decide)))
     replace BK813 := Aside0.mk (blk_grown (g := gb813) (o := .cells #[.int .i64 t804, .int .i64 t805, .int .i64 t806, .int .i64 t807, .slice Ao48 t808.length co48] 38 (0, 0)) (bq_ BK813.out) hg (Kd.R_ne HO810.out BK813.out (by decide)))
     replace HB := Aside0.mk (below_weaken (hi_ HB.out) HL.out hb)
     replace HK := Aside0.mk (KeepBut.trans (hk_ HK.out) (KeepBut.of_grown hg g) (Kd.R_base2 HO810.out))
     clear HO810
     clear ho hb hg hat
     obtain ⟨Ao54, co54, eo54⟩ := Kd.R_slice HO837.out
     (first | subst eo54 | (injection eo54 with f1_ f2_ f3_; have f4_ := f1_.symm; have f5_ := f3_.symm; clear f1_ f2_ f3_; subst f4_; subst f5_))
     refine hK.out _ _ ⟨bc_ BK813 0, bc_ BK813 1, bc_ BK813 2, bc_ BK813 3, bc_ BK813 4⟩ (fun hHeld => ?_)
     clear hK K
     refine nm_ ?_
     refine pI_ 9 31 HT_ #[true, true, true, true, true, true, true, true, true, true, false] rfl rfl ?_
     refine last_ (i := 10) (N := none) #[true, true, true, true, true, true, true, true, true, true, true] rfl rfl (one_of HT_.out (by kernel_rfl)) (by decide) (fun K hK => ?_)
     have hs55 : w53.cell? ⟨gb813, 4, none⟩ = some (.slice Ao48 t808.length co48) := bc_ BK813 4
     have hfs55 := blk_frozen BK813.out 4
     have hns55_0 := NB803_813.out
     have hms55_0 := NB813_803.out
     refine skip_ (w1 := ?_) (by rfl) rfl ?_ ?_
     rotate_left; (focus go_simp; rfl)
     refine hK.out _ _ ?_
     clear hK K
     refine done_ (done_of HT_.out (by kernel_rfl)) ?_
     have hcz56_0 : w53.cell? ⟨gb813, 0, none⟩ = some (.int .i64 t804) := bc_ BK813 0
     have hcz56_1 : w53.cell? ⟨gb813, 1, none⟩ = some (.int .i64 t805) := bc_ BK813 1
     have hcz56_2 : w53.cell? ⟨gb813, 2, none⟩ = some (.int .i64 t806) := bc_ BK813 2
     have hcz56_3 : w53.cell? ⟨gb813, 3, none⟩ = some (.int .i64 t807) := bc_ BK813 3
     have hcz56_4 : w53.cell? ⟨gb813, 4, none⟩ = some (.slice Ao48 t808.length co48) := bc_ BK813 4
     have hfz56_0 := blk_frozen BK813.out 0
     have hfz56_1 := blk_frozen BK813.out 1
     have hfz56_2 := blk_frozen BK813.out 2
     have hfz56_3 := blk_frozen BK813.out 3
     have hfz56_4 := blk_frozen BK813.out 4
     have hnb57 := NB803_0.out
     have hnc57 := NB0_803.out
     have hcz58_0 : w53.cell? ⟨gb803, 0, none⟩ = some (.int .i64 0) := bc_ BK803 0
     have hcz58_1 : w53.cell? ⟨gb803, 1, none⟩ = some (.int .i64 0) := bc_ BK803 1
     have hcz58_2 : w53.cell? ⟨gb803, 2, none⟩ = some (.int .i64 0) := bc_ BK803 2
     have hcz58_3 : w53.cell? ⟨gb803, 3, none⟩ = some (.int .i64 0) := bc_ BK803 3
     have hcz58_4 : w53.cell? ⟨gb803, 4, none⟩ = some (.slice none 0 0) := bc_ BK803 4
     have hfz58_0 := blk_frozen BK803.out 0
     have hfz58_1 := blk_frozen BK803.out 1
     have hfz58_2 := blk_frozen BK803.out 2
     have hfz58_3 := blk_frozen BK803.out 3
     have hfz58_4 := blk_frozen BK803.out 4
     try go_wp2
     refine bodyPost_ret (results_cell_row rfl _ _ gb803 38 #[.int .i64 t804, .int .i64 t805, .int .i64 t806, .int .i64 t807, .slice Ao54 y835.length co54] (0, 0) _ rfl (by_ BK803.out) Try.underlying38 rfl (by kernel_rfl)) rfl ?_
     exact ⟨_, er_, by (with_reducible repeat (first | apply Kd.R_alloc | apply Kd.R_drewN | apply Kd.R_drew)); exact Kd.R_mono (Kd.R_far (p := ⟨gb803, 4, none⟩) (Kd.R_far (p := ⟨gb803, 3, none⟩) (Kd.R_far (p := ⟨gb803, 2, none⟩) (Kd.R_far (p := ⟨gb803, 1, none⟩) (Kd.R_far (p := ⟨gb803, 0, none⟩) (Kd.R_far (p := ⟨gb813, 4, none⟩) (Kd.R_types (Kd.R_types HO837.out BK813.out (by decide)) BK803.out (by decide)) (fun _ hk => hk.1.2) (.slice Ao54 y835.length co54)) (fun _ hk => hk.2) (.int .i64 t804)) (fun _ hk => hk.2) (.int .i64 t805)) (fun _ hk => hk.2) (.int .i64 t806)) (fun _ hk => hk.2) (.int .i64 t807)) (fun _ hk => hk.2) (.slice Ao54 y835.length co54)) (fun _ hk => trivial), is_l1Cur_ HI0.out, qc5_, qc6_⟩
    ·
     rw [if_neg c41] at H
     exact absurd H (by simp)
   ·
    rw [if_neg c38] at H
    have c38b0 : (t814 == 2) = false := beq_eq_false_iff_ne.mpr c38
    have c38b1 : (t814 != 2) = true := bne_iff_ne.mpr c38
    by_cases c59 : t814 = 3
    ·
     rw [if_pos c59] at H
     have c59b0 : (t814 == 3) = true := beq_iff_eq.mpr c59
     have c59b1 : (t814 != 3) = false := bne_eq_false_iff_eq.mpr c59
     clear c59
     obtain ⟨y838, hy838⟩ : ∃ y_ : List Int, y_ = (([(-1), 3, 4] : List Int)) := ⟨_, rfl⟩
     replace H : ((spec_l1PickInt.f s0_0 t815 t816 y838).bind fun bt841 => (some (bt841.1, t805, t806, t807, t808, bt841.2.1, bt841.2.2))) = some (r1, r2, r3, r4, r5, r6, r7) := by first | (rw [hy838]; with_reducible exact H) | (have H2_ := (Option.bind_some _ _).symm.trans H; rw [hy838]; with_reducible exact H2_) | (have H2_ := (Option.bind_some _ _).symm.trans H; with_reducible exact H2_) | with_reducible exact H | (rw [hy838]; exact H) | exact H
     have Ny838 := Aside0.mk hy838
     clear hy838
     replace H := Option.bind_eq_some_iff.mp H
     obtain ⟨⟨t841, t842, t843⟩, A600, H⟩ := H
     replace H : (some (t841, t805, t806, t807, t808, t842, t843)) = some (r1, r2, r3, r4, r5, r6, r7) := H
     have A60 := Aside0.mk A600
     clear A600
     simp only [Option.some.injEq, Prod.mk.injEq] at H
     obtain ⟨rfl, rfl, rfl, rfl, rfl, rfl, rfl⟩ := H
     go_enter Try.func73, Try.ntmps73
     go_wp2_with (first | ((with_reducible refine gate_dst (N := 2) rfl ?_); refine box_event ?hg (N := 2) ?hd (cs := #[.int .i64 0, .int .i64 0, .int .i64 0, .int .i64 0, .slice none 0 0]) (t := 38) ?hr ?_; (case hd => rfl); (case hg => rfl); (case hr => first | (go_simp; done) | (go_simp; rfl)); intro gb803 hg w61 hbox hb; have BK803 := Aside0.mk (hbox); have GW803 := Aside0.mk ((by rw [hg]; exact (keep_size (w := w) (g := g) (row := none) (hk_ HK.out)) : w.heap.size ≤ gb803)); have GE803 := Aside0.mk ((Nat.le_trans HW0.out (by rw [hg]; exact (keep_size (w := w) (g := g) (row := none) (hk_ HK.out)) : w.heap.size ≤ gb803) : w0.heap.size ≤ gb803)); have NB0_803 := Aside0.mk ((by rw [hg]; exact Nat.ne_of_lt (IsS_l1Cur.lt (show IsS_l1Cur w0 _ g s0_0 s0_1 s0_2 from is_l1Cur_ HI0.out)) : g ≠ gb803)); have NB803_0 := Aside0.mk ((by rw [hg]; exact Nat.ne_of_gt (IsS_l1Cur.lt (show IsS_l1Cur w0 _ g s0_0 s0_1 s0_2 from is_l1Cur_ HI0.out)) : gb803 ≠ g)); replace HI0 := Aside0.mk (IsS_l1Cur.below (is_l1Cur_ HI0.out) hb); replace HK := Aside0.mk (KeepBut.trans (hk_ HK.out) (KeepBut.of_below hb g none) (.inl rfl)); replace HB := Aside0.mk (below_step (hi_ HB.out) hb); clear hb hbox hg) | ((with_reducible refine gate_callee (f := 107) rfl ?_); refine goesL_ (some 5) rfl rfl Try.func107 (by kernel_rfl) rfl #[.pointer (some ⟨g, 0, none⟩)] rfl sm_ ?_; (with_reducible refine (spec_l4DrawRight.calls k g s0_0 s0_1 s0_2 t804 t805 t806 t807 t808 t811 t812 w0 _ ?side1 ?side2 A2.out).mono ?_); (case side1 => repeat (first | (with_reducible first | exact HI0.out | apply IsS_l1Cur.alloc | apply IsS_l1Cur.drewN | apply IsS_l1Cur.drew | apply IsS_l1Cur.set_1 | apply IsS_l1Cur.set_2 | refine IsS_l1Cur.far ?_ NB0_803.out _) | exact HI0.out)); (case side2 => repeat (first | (with_reducible first | exact HB.out | apply below_alloc | apply pw_below_drewN | apply below_drew1 | refine below_set ?_ (IsS_l1Cur.ge HI0.out) | refine below_set ?_ GE803.out) | exact HB.out)); rintro e w62 ⟨v809, rfl, ho0, hi, hb, hk⟩; refine ⟨_, rfl, ?_⟩; have HO810 := Aside0.mk (Kd.R_lower ho0 (keep_size (w := w) (g := g) (row := none) (hk_ HK.out))); replace BK803 := Aside0.mk (KeepBut.blk hk (g' := gb803) (o := .cells #[.int .i64 0, .int .i64 0, .int .i64 0, .int .i64 0, .slice none 0 0] 38 (0, 0)) (bq_ BK803.out) NB803_0.out (by simp)); replace HK := Aside0.mk (KeepBut.trans (hk_ HK.out) hk (.inl rfl)); replace HB := Aside0.mk (hb); replace HI0 := Aside0.mk (hi); (try clear hb); (try clear hb2); (try clear hk); (try clear hi); (try clear ho0)) | ((with_reducible refine gate_dst (N := 3) rfl ?_); refine box_event ?hg (N := 3) ?hd (cs := #[.int .i64 0, .int .i64 0, .int .i64 0, .int .i64 0, .slice none 0 0]) (t := 38) ?hr ?_; (case hd => rfl); (case hg => rfl); (case hr => first | (go_simp; done) | (go_simp; rfl)); intro gb813 hg w63 hbox hb; have BK813 := Aside0.mk (hbox); have GW813 := Aside0.mk ((by rw [hg]; exact (keep_size (w := w) (g := g) (row := none) (hk_ HK.out)) : w.heap.size ≤ gb813)); have GE813 := Aside0.mk ((Nat.le_trans HW0.out (by rw [hg]; exact (keep_size (w := w) (g := g) (row := none) (hk_ HK.out)) : w.heap.size ≤ gb813) : w0.heap.size ≤ gb813)); have NB803_813 := cn_ BK803 hg; have NB813_803 := cm_ BK803 hg; have NB0_813 := Aside0.mk ((by rw [hg]; exact Nat.ne_of_lt (IsS_l1Cur.lt (show IsS_l1Cur w0 _ g s0_0 t811 t812 from is_l1Cur_ HI0.out)) : g ≠ gb813)); have NB813_0 := Aside0.mk ((by rw [hg]; exact Nat.ne_of_gt (IsS_l1Cur.lt (show IsS_l1Cur w0 _ g s0_0 t811 t812 from is_l1Cur_ HI0.out)) : gb813 ≠ g)); replace HO810 := cr_ HO810 hb; replace HI0 := Aside0.mk (IsS_l1Cur.below (is_l1Cur_ HI0.out) hb); replace BK803 := cb_ BK803 hb; replace HK := Aside0.mk (KeepBut.trans (hk_ HK.out) (KeepBut.of_below hb g none) (.inl rfl)); replace HB := Aside0.mk (below_step (hi_ HB.out) hb); clear hb hbox hg; have hnb64 := NB813_803.out; have hnc64 := NB803_813.out; have hnb65 := NB813_0.out; have hnc65 := NB0_813.out; have hcz66_0 : w63.cell? ⟨gb813, 0, none⟩ = some (.int .i64 0) := bc_ BK813 0; have hcz66_1 : w63.cell? ⟨gb813, 1, none⟩ = some (.int .i64 0) := bc_ BK813 1; have hcz66_2 : w63.cell? ⟨gb813, 2, none⟩ = some (.int .i64 0) := bc_ BK813 2; have hcz66_3 : w63.cell? ⟨gb813, 3, none⟩ = some (.int .i64 0) := bc_ BK813 3; have hcz66_4 : w63.cell? ⟨gb813, 4, none⟩ = some (.slice none 0 0) := bc_ BK813 4; have hfz66_0 := blk_frozen BK813.out 0; have hfz66_1 := blk_frozen BK813.out 1; have hfz66_2 := blk_frozen BK813.out 2; have hfz66_3 := blk_frozen BK813.out 3; have hfz66_4 := blk_frozen BK813.out 4; obtain ⟨Ao67, co67, eo67⟩ := Kd.R_slice HO810.out; subst eo67) | ((with_reducible refine gate_callee (f := 76) rfl ?_); refine goesL_ (some 7) rfl rfl Try.func76 (by kernel_rfl) rfl #[.pointer (some ⟨g, 0, none⟩), .int .i64 12] rfl sm_ ?_; (with_reducible refine (spec_l1Below.calls g s0_0 t811 t812 12 t814 t815 t816 w0 _ ?side1 ?side2 A3.out).mono ?_); (case side1 => repeat (first | (with_reducible first | exact HI0.out | apply IsS_l1Cur.alloc | apply IsS_l1Cur.drewN | apply IsS_l1Cur.drew | apply IsS_l1Cur.set_1 | apply IsS_l1Cur.set_2 | refine IsS_l1Cur.far ?_ NB0_803.out _ | refine IsS_l1Cur.far ?_ NB0_813.out _) | exact HI0.out)); (case side2 => repeat (first | (with_reducible first | exact HB.out | apply below_alloc | apply pw_below_drewN | apply below_drew1 | refine below_set ?_ (IsS_l1Cur.ge HI0.out) | refine below_set ?_ GE803.out | refine below_set ?_ GE813.out) | exact HB.out)); rintro e w68 ⟨rfl, hi, hb, hk⟩; refine ⟨_, rfl, ?_⟩; replace BK803 := Aside0.mk (KeepBut.blk hk (g' := gb803) (o := .cells #[.int .i64 0, .int .i64 0, .int .i64 0, .int .i64 0, .slice none 0 0] 38 (0, 0)) (bf_ NB803_813.out BK803.out) NB803_0.out (by simp)); replace HO810 := Aside0.mk (Kd.R_mono (Kd.R_keep (IsS_l1Cur.apart (show IsS_l1Cur w0 _ g s0_0 t811 t812 from is_l1Cur_ HI0.out) (rk_ HO810.out BK813.out) (by decide)) hk (fun _ h => h.2)) (fun _ h => h.1)); replace BK813 := Aside0.mk (KeepBut.blk hk (g' := gb813) (o := .cells #[.int .i64 t804, .int .i64 t805, .int .i64 t806, .int .i64 t807, .slice Ao67 t808.length co67] 38 (0, 0)) (bp_ BK813.out) NB813_0.out (by simp)); replace HK := Aside0.mk (KeepBut.trans (hk_ HK.out) hk (.inl rfl)); replace HB := Aside0.mk (hb); replace HI0 := Aside0.mk (hi); (try clear hb); (try clear hb2); (try clear hk); (try clear hi)) | ((with_reducible refine gate_dst (N := 35) rfl ?_); refine Kd.R_lit (Kd.int .i64) _ 3 ?hg (N := 35) ?hd (xs := ([(-1), 3, 4] : List Int)) (inner := [.int .i64 (-1), .int .i64 3, .int .i64 4]) (ok := fun _ => True) (okp := fun _ => True) ?hr ?hp (fun _ hk => hk) trivial (Below.refl _ _) (Nat.le_refl _) (by simp) ?_; (case hd => rfl); (case hg => rfl); (case hr => first | (go_simp; done) | (go_simp; rfl)); (case hp => exact (Reps.one (show Kd.M (Kd.int .i64) _ _ _ (-1) [.int .i64 (-1)] from rfl) (Reps.one (show Kd.M (Kd.int .i64) _ _ _ 3 [.int .i64 3] from rfl) (Reps.one (show Kd.M (Kd.int .i64) _ _ _ 4 [.int .i64 4] from rfl) (Reps.none _ _))))); intro v839 w69 ho70 hb hg_ hnew_; clear hg_ hnew_; (first | rw [← Ny838.out] at ho70 | (simp only [Int.reduceToNat] at ho70; rw [← Ny838.out] at ho70)); have HO840 := Aside0.mk (Kd.R_lower ho70 (keep_size (w := w) (g := g) (row := none) (hk_ HK.out))); replace HO810 := cr_ HO810 hb; replace HI0 := Aside0.mk (IsS_l1Cur.below (is_l1Cur_ HI0.out) hb); replace BK803 := cb_ BK803 hb; replace BK813 := cb_ BK813 hb; replace HK := Aside0.mk (KeepBut.trans (hk_ HK.out) (KeepBut.of_below hb g none) (.inl rfl)); replace HB := Aside0.mk (below_step (hi_ HB.out) hb); clear hb ho70; obtain ⟨Ao71, co71, eo71⟩ := Kd.R_slice HO840.out; subst eo71) | ((with_reducible refine gate_callee (f := 52) rfl ?_); refine goesL_ (some 36) rfl rfl Try.func52 (by kernel_rfl) rfl #[.pointer (some ⟨g, 0, none⟩), .slice Ao71 y838.length co71] rfl sm_ ?_; (with_reducible refine (spec_l1PickInt.calls g s0_0 t815 t816 _ _ y838 t841 t842 t843 w0 _ ?side1 ?side2 ?side3 ?side4 ?side5 A60.out).mono ?_); (case side1 => repeat (first | (with_reducible first | exact HI0.out | apply IsS_l1Cur.alloc | apply IsS_l1Cur.drewN | apply IsS_l1Cur.drew | apply IsS_l1Cur.set_1 | apply IsS_l1Cur.set_2 | refine IsS_l1Cur.far ?_ NB0_803.out _ | refine IsS_l1Cur.far ?_ NB0_813.out _) | exact HI0.out)); (case side2 => repeat (first | (with_reducible first | exact HB.out | apply below_alloc | apply pw_below_drewN | apply below_drew1 | refine below_set ?_ (IsS_l1Cur.ge HI0.out) | refine below_set ?_ GE803.out | refine below_set ?_ GE813.out) | exact HB.out)); (case side3 => repeat (first | exact (Kd.R_reads' HO840.out).2.2 | (with_reducible refine Kd.C_alloc ?_ _) | (with_reducible refine Kd.C_drewN ?_ _) | (with_reducible refine Kd.C_drew ?_))); (case side4 => exact (Kd.R_reads' HO840.out).2.1); (case side5 => exact far_slice (IsS_l1Cur.own_ne HI0.out HO840.out (by decide))); rintro e w72 ⟨rfl, hi, hb, hk⟩; refine ⟨_, rfl, ?_⟩; replace BK803 := Aside0.mk (KeepBut.blk hk (g' := gb803) (o := .cells #[.int .i64 0, .int .i64 0, .int .i64 0, .int .i64 0, .slice none 0 0] 38 (0, 0)) (bq_ BK803.out) NB803_0.out (by simp)); replace HO810 := Aside0.mk (Kd.R_mono (Kd.R_keep (IsS_l1Cur.apart (show IsS_l1Cur w0 _ g s0_0 t815 t816 from is_l1Cur_ HI0.out) (rq_ HO810.out) (by decide)) hk (fun _ h => h.2)) (fun _ h => h.1)); replace BK813 := Aside0.mk (KeepBut.blk hk (g' := gb813) (o := .cells #[.int .i64 t804, .int .i64 t805, .int .i64 t806, .int .i64 t807, .slice Ao67 t808.length co67] 38 (0, 0)) (bq_ BK813.out) NB813_0.out (by simp)); replace HO840 := Aside0.mk (Kd.R_mono (Kd.R_keep (IsS_l1Cur.apart (show IsS_l1Cur w0 _ g s0_0 t815 t816 from is_l1Cur_ HI0.out) (rq_ HO840.out) (by decide)) hk (fun _ h => h.2)) (fun _ h => h.1)); replace HK := Aside0.mk (KeepBut.trans (hk_ HK.out) hk (.inl rfl)); replace HB := Aside0.mk (hb); replace HI0 := Aside0.mk (hi); (try clear hb); (try clear hb2); (try clear hk); (try clear hi); have hcz73_0 : w72.cell? ⟨gb813, 0, none⟩ = some (.int .i64 t804) := bc_ BK813 0; have hcz73_1 : w72.cell? ⟨gb813, 1, none⟩ = some (.int .i64 t805) := bc_ BK813 1; have hcz73_2 : w72.cell? ⟨gb813, 2, none⟩ = some (.int .i64 t806) := bc_ BK813 2; have hcz73_3 : w72.cell? ⟨gb813, 3, none⟩ = some (.int .i64 t807) := bc_ BK813 3; have hcz73_4 : w72.cell? ⟨gb813, 4, none⟩ = some (.slice Ao67 t808.length co67) := bc_ BK813 4; have hfz73_0 := blk_frozen BK813.out 0; have hfz73_1 := blk_frozen BK813.out 1; have hfz73_2 := blk_frozen BK813.out 2; have hfz73_3 := blk_frozen BK813.out 3; have hfz73_4 := blk_frozen BK813.out 4; have hnb74 := NB803_0.out; have hnc74 := NB0_803.out; have hcz75_0 : w72.cell? ⟨gb803, 0, none⟩ = some (.int .i64 0) := bc_ BK803 0; have hcz75_1 : w72.cell? ⟨gb803, 1, none⟩ = some (.int .i64 0) := bc_ BK803 1; have hcz75_2 : w72.cell? ⟨gb803, 2, none⟩ = some (.int .i64 0) := bc_ BK803 2; have hcz75_3 : w72.cell? ⟨gb803, 3, none⟩ = some (.int .i64 0) := bc_ BK803 3; have hcz75_4 : w72.cell? ⟨gb803, 4, none⟩ = some (.slice none 0 0) := bc_ BK803 4; have hfz75_0 := blk_frozen BK803.out 0; have hfz75_1 := blk_frozen BK803.out 1; have hfz75_2 := blk_frozen BK803.out 2; have hfz75_3 := blk_frozen BK803.out 3; have hfz75_4 := blk_frozen BK803.out 4))
     refine bodyPost_ret (results_cell_row rfl _ _ gb803 38 #[.int .i64 t841, .int .i64 t805, .int .i64 t806, .int .i64 t807, .slice Ao67 t808.length co67] (0, 0) _ rfl (by_ BK803.out) Try.underlying38 rfl (by kernel_rfl)) rfl ?_
     exact ⟨_, er_, by (with_reducible repeat (first | apply Kd.R_alloc | apply Kd.R_drewN | apply Kd.R_drew)); exact Kd.R_mono (Kd.R_far (p := ⟨gb803, 4, none⟩) (Kd.R_far (p := ⟨gb803, 3, none⟩) (Kd.R_far (p := ⟨gb803, 2, none⟩) (Kd.R_far (p := ⟨gb803, 1, none⟩) (Kd.R_far (p := ⟨gb803, 0, none⟩) (Kd.R_far (p := ⟨gb813, 0, none⟩) (Kd.R_types (Kd.R_types HO810.out BK813.out (by decide)) BK803.out (by decide)) (fun _ hk => hk.1.2) (.int .i64 t841)) (fun _ hk => hk.2) (.int .i64 t841)) (fun _ hk => hk.2) (.int .i64 t805)) (fun _ hk => hk.2) (.int .i64 t806)) (fun _ hk => hk.2) (.int .i64 t807)) (fun _ hk => hk.2) (.slice Ao67 t808.length co67)) (fun _ hk => trivial), is_l1Cur_ HI0.out, qc5_, qc6_⟩
    ·
     rw [if_neg c59] at H
     have c59b0 : (t814 == 3) = false := beq_eq_false_iff_ne.mpr c59
     have c59b1 : (t814 != 3) = true := bne_iff_ne.mpr c59
     simp only [Option.some.injEq, Prod.mk.injEq] at H
     obtain ⟨rfl, rfl, rfl, rfl, rfl, rfl, rfl⟩ := H
     go_enter Try.func73, Try.ntmps73
     go_wp2_with (first | ((with_reducible refine gate_dst (N := 2) rfl ?_); refine box_event ?hg (N := 2) ?hd (cs := #[.int .i64 0, .int .i64 0, .int .i64 0, .int .i64 0, .slice none 0 0]) (t := 38) ?hr ?_; (case hd => rfl); (case hg => rfl); (case hr => first | (go_simp; done) | (go_simp; rfl)); intro gb803 hg w76 hbox hb; have BK803 := Aside0.mk (hbox); have GW803 := Aside0.mk ((by rw [hg]; exact (keep_size (w := w) (g := g) (row := none) (hk_ HK.out)) : w.heap.size ≤ gb803)); have GE803 := Aside0.mk ((Nat.le_trans HW0.out (by rw [hg]; exact (keep_size (w := w) (g := g) (row := none) (hk_ HK.out)) : w.heap.size ≤ gb803) : w0.heap.size ≤ gb803)); have NB0_803 := Aside0.mk ((by rw [hg]; exact Nat.ne_of_lt (IsS_l1Cur.lt (show IsS_l1Cur w0 _ g s0_0 s0_1 s0_2 from is_l1Cur_ HI0.out)) : g ≠ gb803)); have NB803_0 := Aside0.mk ((by rw [hg]; exact Nat.ne_of_gt (IsS_l1Cur.lt (show IsS_l1Cur w0 _ g s0_0 s0_1 s0_2 from is_l1Cur_ HI0.out)) : gb803 ≠ g)); replace HI0 := Aside0.mk (IsS_l1Cur.below (is_l1Cur_ HI0.out) hb); replace HK := Aside0.mk (KeepBut.trans (hk_ HK.out) (KeepBut.of_below hb g none) (.inl rfl)); replace HB := Aside0.mk (below_step (hi_ HB.out) hb); clear hb hbox hg) | ((with_reducible refine gate_callee (f := 107) rfl ?_); refine goesL_ (some 5) rfl rfl Try.func107 (by kernel_rfl) rfl #[.pointer (some ⟨g, 0, none⟩)] rfl sm_ ?_; (with_reducible refine (spec_l4DrawRight.calls k g s0_0 s0_1 s0_2 t804 t805 t806 t807 t808 t811 t812 w0 _ ?side1 ?side2 A2.out).mono ?_); (case side1 => repeat (first | (with_reducible first | exact HI0.out | apply IsS_l1Cur.alloc | apply IsS_l1Cur.drewN | apply IsS_l1Cur.drew | apply IsS_l1Cur.set_1 | apply IsS_l1Cur.set_2 | refine IsS_l1Cur.far ?_ NB0_803.out _) | exact HI0.out)); (case side2 => repeat (first | (with_reducible first | exact HB.out | apply below_alloc | apply pw_below_drewN | apply below_drew1 | refine below_set ?_ (IsS_l1Cur.ge HI0.out) | refine below_set ?_ GE803.out) | exact HB.out)); rintro e w77 ⟨v809, rfl, ho0, hi, hb, hk⟩; refine ⟨_, rfl, ?_⟩; have HO810 := Aside0.mk (Kd.R_lower ho0 (keep_size (w := w) (g := g) (row := none) (hk_ HK.out))); replace BK803 := Aside0.mk (KeepBut.blk hk (g' := gb803) (o := .cells #[.int .i64 0, .int .i64 0, .int .i64 0, .int .i64 0, .slice none 0 0] 38 (0, 0)) (bq_ BK803.out) NB803_0.out (by simp)); replace HK := Aside0.mk (KeepBut.trans (hk_ HK.out) hk (.inl rfl)); replace HB := Aside0.mk (hb); replace HI0 := Aside0.mk (hi); (try clear hb); (try clear hb2); (try clear hk); (try clear hi); (try clear ho0)) | ((with_reducible refine gate_dst (N := 3) rfl ?_); refine box_event ?hg (N := 3) ?hd (cs := #[.int .i64 0, .int .i64 0, .int .i64 0, .int .i64 0, .slice none 0 0]) (t := 38) ?hr ?_; (case hd => rfl); (case hg => rfl); (case hr => first | (go_simp; done) | (go_simp; rfl)); intro gb813 hg w78 hbox hb; have BK813 := Aside0.mk (hbox); have GW813 := Aside0.mk ((by rw [hg]; exact (keep_size (w := w) (g := g) (row := none) (hk_ HK.out)) : w.heap.size ≤ gb813)); have GE813 := Aside0.mk ((Nat.le_trans HW0.out (by rw [hg]; exact (keep_size (w := w) (g := g) (row := none) (hk_ HK.out)) : w.heap.size ≤ gb813) : w0.heap.size ≤ gb813)); have NB803_813 := cn_ BK803 hg; have NB813_803 := cm_ BK803 hg; have NB0_813 := Aside0.mk ((by rw [hg]; exact Nat.ne_of_lt (IsS_l1Cur.lt (show IsS_l1Cur w0 _ g s0_0 t811 t812 from is_l1Cur_ HI0.out)) : g ≠ gb813)); have NB813_0 := Aside0.mk ((by rw [hg]; exact Nat.ne_of_gt (IsS_l1Cur.lt (show IsS_l1Cur w0 _ g s0_0 t811 t812 from is_l1Cur_ HI0.out)) : gb813 ≠ g)); replace HO810 := cr_ HO810 hb; replace HI0 := Aside0.mk (IsS_l1Cur.below (is_l1Cur_ HI0.out) hb); replace BK803 := cb_ BK803 hb; replace HK := Aside0.mk (KeepBut.trans (hk_ HK.out) (KeepBut.of_below hb g none) (.inl rfl)); replace HB := Aside0.mk (below_step (hi_ HB.out) hb); clear hb hbox hg; have hnb79 := NB813_803.out; have hnc79 := NB803_813.out; have hnb80 := NB813_0.out; have hnc80 := NB0_813.out; have hcz81_0 : w78.cell? ⟨gb813, 0, none⟩ = some (.int .i64 0) := bc_ BK813 0; have hcz81_1 : w78.cell? ⟨gb813, 1, none⟩ = some (.int .i64 0) := bc_ BK813 1; have hcz81_2 : w78.cell? ⟨gb813, 2, none⟩ = some (.int .i64 0) := bc_ BK813 2; have hcz81_3 : w78.cell? ⟨gb813, 3, none⟩ = some (.int .i64 0) := bc_ BK813 3; have hcz81_4 : w78.cell? ⟨gb813, 4, none⟩ = some (.slice none 0 0) := bc_ BK813 4; have hfz81_0 := blk_frozen BK813.out 0; have hfz81_1 := blk_frozen BK813.out 1; have hfz81_2 := blk_frozen BK813.out 2; have hfz81_3 := blk_frozen BK813.out 3; have hfz81_4 := blk_frozen BK813.out 4; obtain ⟨Ao82, co82, eo82⟩ := Kd.R_slice HO810.out; subst eo82) | ((with_reducible refine gate_callee (f := 76) rfl ?_); refine goesL_ (some 7) rfl rfl Try.func76 (by kernel_rfl) rfl #[.pointer (some ⟨g, 0, none⟩), .int .i64 12] rfl sm_ ?_; (with_reducible refine (spec_l1Below.calls g s0_0 t811 t812 12 t814 t815 t816 w0 _ ?side1 ?side2 A3.out).mono ?_); (case side1 => repeat (first | (with_reducible first | exact HI0.out | apply IsS_l1Cur.alloc | apply IsS_l1Cur.drewN | apply IsS_l1Cur.drew | apply IsS_l1Cur.set_1 | apply IsS_l1Cur.set_2 | refine IsS_l1Cur.far ?_ NB0_803.out _ | refine IsS_l1Cur.far ?_ NB0_813.out _) | exact HI0.out)); (case side2 => repeat (first | (with_reducible first | exact HB.out | apply below_alloc | apply pw_below_drewN | apply below_drew1 | refine below_set ?_ (IsS_l1Cur.ge HI0.out) | refine below_set ?_ GE803.out | refine below_set ?_ GE813.out) | exact HB.out)); rintro e w83 ⟨rfl, hi, hb, hk⟩; refine ⟨_, rfl, ?_⟩; replace BK803 := Aside0.mk (KeepBut.blk hk (g' := gb803) (o := .cells #[.int .i64 0, .int .i64 0, .int .i64 0, .int .i64 0, .slice none 0 0] 38 (0, 0)) (bf_ NB803_813.out BK803.out) NB803_0.out (by simp)); replace HO810 := Aside0.mk (Kd.R_mono (Kd.R_keep (IsS_l1Cur.apart (show IsS_l1Cur w0 _ g s0_0 t811 t812 from is_l1Cur_ HI0.out) (rk_ HO810.out BK813.out) (by decide)) hk (fun _ h => h.2)) (fun _ h => h.1)); replace BK813 := Aside0.mk (KeepBut.blk hk (g' := gb813) (o := .cells #[.int .i64 t804, .int .i64 t805, .int .i64 t806, .int .i64 t807, .slice Ao82 t808.length co82] 38 (0, 0)) (bp_ BK813.out) NB813_0.out (by simp)); replace HK := Aside0.mk (KeepBut.trans (hk_ HK.out) hk (.inl rfl)); replace HB := Aside0.mk (hb); replace HI0 := Aside0.mk (hi); (try clear hb); (try clear hb2); (try clear hk); (try clear hi); have hcz84_0 : w83.cell? ⟨gb813, 0, none⟩ = some (.int .i64 t804) := bc_ BK813 0; have hcz84_1 : w83.cell? ⟨gb813, 1, none⟩ = some (.int .i64 t805) := bc_ BK813 1; have hcz84_2 : w83.cell? ⟨gb813, 2, none⟩ = some (.int .i64 t806) := bc_ BK813 2; have hcz84_3 : w83.cell? ⟨gb813, 3, none⟩ = some (.int .i64 t807) := bc_ BK813 3; have hcz84_4 : w83.cell? ⟨gb813, 4, none⟩ = some (.slice Ao82 t808.length co82) := bc_ BK813 4; have hfz84_0 := blk_frozen BK813.out 0; have hfz84_1 := blk_frozen BK813.out 1; have hfz84_2 := blk_frozen BK813.out 2; have hfz84_3 := blk_frozen BK813.out 3; have hfz84_4 := blk_frozen BK813.out 4; have hnb85 := NB803_0.out; have hnc85 := NB0_803.out; have hcz86_0 : w83.cell? ⟨gb803, 0, none⟩ = some (.int .i64 0) := bc_ BK803 0; have hcz86_1 : w83.cell? ⟨gb803, 1, none⟩ = some (.int .i64 0) := bc_ BK803 1; have hcz86_2 : w83.cell? ⟨gb803, 2, none⟩ = some (.int .i64 0) := bc_ BK803 2; have hcz86_3 : w83.cell? ⟨gb803, 3, none⟩ = some (.int .i64 0) := bc_ BK803 3; have hcz86_4 : w83.cell? ⟨gb803, 4, none⟩ = some (.slice none 0 0) := bc_ BK803 4; have hfz86_0 := blk_frozen BK803.out 0; have hfz86_1 := blk_frozen BK803.out 1; have hfz86_2 := blk_frozen BK803.out 2; have hfz86_3 := blk_frozen BK803.out 3; have hfz86_4 := blk_frozen BK803.out 4))
     refine bodyPost_ret (results_cell_row rfl _ _ gb803 38 #[.int .i64 t804, .int .i64 t805, .int .i64 t806, .int .i64 t807, .slice Ao82 t808.length co82] (0, 0) _ rfl (bp_ BK803.out) Try.underlying38 rfl (by kernel_rfl)) rfl ?_
     exact ⟨_, er_, by (with_reducible repeat (first | apply Kd.R_alloc | apply Kd.R_drewN | apply Kd.R_drew)); exact Kd.R_mono (Kd.R_far (p := ⟨gb803, 4, none⟩) (Kd.R_far (p := ⟨gb803, 3, none⟩) (Kd.R_far (p := ⟨gb803, 2, none⟩) (Kd.R_far (p := ⟨gb803, 1, none⟩) (Kd.R_far (p := ⟨gb803, 0, none⟩) (Kd.R_types HO810.out BK803.out (by decide)) (fun _ hk => hk.2) (.int .i64 t804)) (fun _ hk => hk.2) (.int .i64 t805)) (fun _ hk => hk.2) (.int .i64 t806)) (fun _ hk => hk.2) (.int .i64 t807)) (fun _ hk => hk.2) (.slice Ao82 t808.length co82)) (fun _ hk => trivial), is_l1Cur_ HI0.out, qc5_, qc6_⟩
/-! ### spec_l1Once: function 75 -/
def spec_l1Once.f (s0_0 : List Int) (s0_1 : Int) (s0_2 : Int) (a1 : Int) : Option (Bool × Int × Int) := (spec_l1Below.f s0_0 s0_1 s0_2 a1).bind fun bt844 => (some ((bt844.1 == 0), bt844.2.1, bt844.2.2))
set_option maxHeartbeats 8000000 in
set_option maxRecDepth 100000 in
theorem spec_l1Once.calls (g : Nat) (s0_0 : List Int) (s0_1 : Int) (s0_2 : Int) (a1 : Int) (r1 : Bool) (r2 : Int) (r3 : Int) (w0 w : World) (hI : IsS_l1Cur w0 w g s0_0 s0_1 s0_2) (hB : Below w0.heap.size w0 w) (h : spec_l1Once.f s0_0 s0_1 s0_2 a1 = some (r1, r2, r3)) :
    Calls Try.prog 75 #[.pointer (some ⟨g, 0, none⟩), .int .i64 a1] w fun e w' => e = .returned (.bool r1) ∧ IsS_l1Cur w0 w' g s0_0 r2 r3 ∧ Below w0.heap.size w0 w' ∧ KeepBut w w' g none := by
  have HI0 := Aside0.mk hI
  have HK := Aside0.mk (KeepBut.refl w g none)
  have HL := Aside0.mk hB.size
  clear hI
  have HW0 := Aside0.mk hB.size
  have HB := Aside0.mk hB
  clear hB
  have H : ((spec_l1Below.f s0_0 s0_1 s0_2 a1).bind fun bt844 => (some ((bt844.1 == 0), bt844.2.1, bt844.2.2))) = some (r1, r2, r3) := h
  clear h
  replace H := Option.bind_eq_some_iff.mp H
  obtain ⟨⟨t844, t845, t846⟩, A30, H⟩ := H
  replace H : (some ((t844 == 0), t845, t846)) = some (r1, r2, r3) := H
  have A3 := Aside0.mk A30
  clear A30
  simp only [Option.some.injEq, Prod.mk.injEq] at H
  obtain ⟨rfl, rfl, rfl⟩ := H
  go_enter Try.func75, Try.ntmps75
  go_wp2_with (first | ((with_reducible refine gate_callee (f := 76) rfl ?_); refine goesL_ (some 7) rfl rfl Try.func76 (by kernel_rfl) rfl #[.pointer (some ⟨g, 0, none⟩), .int .i64 a1] rfl (qc4_) ?_; (with_reducible refine (spec_l1Below.calls g s0_0 s0_1 s0_2 a1 t844 t845 t846 w0 _ ?side1 ?side2 A3.out).mono ?_); (case side1 => repeat (first | (with_reducible first | exact HI0.out | apply IsS_l1Cur.alloc | apply IsS_l1Cur.drewN | apply IsS_l1Cur.drew | apply IsS_l1Cur.set_1 | apply IsS_l1Cur.set_2) | exact HI0.out)); (case side2 => repeat (first | (with_reducible first | exact HB.out | apply below_alloc | apply pw_below_drewN | apply below_drew1 | refine below_set ?_ (IsS_l1Cur.ge HI0.out)) | exact HB.out)); rintro e w4 ⟨rfl, hi, hb, hk⟩; refine ⟨_, rfl, ?_⟩; replace HK := Aside0.mk (KeepBut.trans (qc13_) hk (.inl rfl)); replace HB := Aside0.mk (hb); replace HI0 := Aside0.mk (hi); (try clear hb); (try clear hb2); (try clear hk); (try clear hi)))
  go_ret
  exact ⟨qc8_, by repeat (first | (with_reducible first | exact HI0.out | apply IsS_l1Cur.alloc | apply IsS_l1Cur.drewN | apply IsS_l1Cur.drew | apply IsS_l1Cur.set_1 | apply IsS_l1Cur.set_2) | exact HI0.out), by repeat (first | (with_reducible first | exact HB.out | apply below_alloc | apply pw_below_drewN | apply below_drew1 | refine below_set ?_ (IsS_l1Cur.ge HI0.out)) | exact HB.out), qc13_⟩
/-! ### spec_DrawMakerPut: function 34 -/
mutual
def spec_DrawMakerPut.j0 : Nat → Int → Int → List Int → Int → Int → Int → Int → Int → Int → List (S_Mark) → Option (Int × Int × Int × Int × (List (S_Mark)) × Int × Int × Int × Int)
  | 0, _, _, _, _, _, _, _, _, _, _ => none
  | k + 1, x9, x10, x852000, x852001, x852002, x862000, x862001, x862002, x862003, x862004 => (spec_l1Once.f x852000 x852001 x852002 4).bind fun bt863 => (if bt863.1 = true then ((spec_l1Below.f x852000 bt863.2.1 bt863.2.2 3).bind fun bt866 => ((spec_l1Below.f x852000 bt866.2.1 bt866.2.2 3).bind fun bt869 => (spec_DrawMakerPut.j1 k bt866.1 bt869.1 x852000 bt869.2.1 bt869.2.2 x862000 x862001 x862002 x862003 x862004))) else (spec_DrawMakerPut.j1 k x9 x10 x852000 bt863.2.1 bt863.2.2 x862000 x862001 x862002 x862003 x862004))
def spec_DrawMakerPut.j1 : Nat → Int → Int → List Int → Int → Int → Int → Int → Int → Int → List (S_Mark) → Option (Int × Int × Int × Int × (List (S_Mark)) × Int × Int × Int × Int)
  | 0, _, _, _, _, _, _, _, _, _, _ => none
  | k + 1, x9, x10, x852000, x852001, x852002, x862000, x862001, x862002, x862003, x862004 => (spec_l1PickInt.f x852000 x852001 x852002 (([1, 2, 3, 0, (-1)] : List Int))).bind fun bt875 => ((spec_l1Below.f x852000 bt875.2.1 bt875.2.2 3).bind fun bt878 => (some (x862000, x862001, x862002, x862003, x862004, bt875.1, x9, x10, wrap64 (20 + bt878.1))))
end
def spec_DrawMakerPut.f (k : Nat) (l0 : List Int) : Option (Int × Int × Int × Int × (List (S_Mark)) × Int × Int × Int × Int) := (spec_l1New.f k l0).bind fun bt848 => ((spec_l4Draw.f k bt848.1 bt848.2.1 bt848.2.2).bind fun bt852 => ((spec_l1In.f bt852.2.2.2.1 (-1) 9).bind fun t862 => (if t862 = true then (spec_DrawMakerPut.j0 k bt852.2.2.1 (wrap64 (bt852.2.2.2.1 + 1)) bt848.1 bt852.2.2.2.2.2.1 bt852.2.2.2.2.2.2 bt852.1 bt852.2.1 bt852.2.2.1 bt852.2.2.2.1 bt852.2.2.2.2.1) else (spec_DrawMakerPut.j0 k bt852.2.2.1 bt852.2.2.2.1 bt848.1 bt852.2.2.2.2.2.1 bt852.2.2.2.2.2.2 bt852.1 bt852.2.1 bt852.2.2.1 bt852.2.2.2.1 bt852.2.2.2.2.1))))
theorem spec_DrawMakerPut.mono_l : ∀ k, (∀ y0 y1 y2 y3 y4 y5 y6 y7 y8 y9, LeO (spec_DrawMakerPut.j0 k y0 y1 y2 y3 y4 y5 y6 y7 y8 y9) (spec_DrawMakerPut.j0 (k + 1) y0 y1 y2 y3 y4 y5 y6 y7 y8 y9)) ∧ (∀ y0 y1 y2 y3 y4 y5 y6 y7 y8 y9, LeO (spec_DrawMakerPut.j1 k y0 y1 y2 y3 y4 y5 y6 y7 y8 y9) (spec_DrawMakerPut.j1 (k + 1) y0 y1 y2 y3 y4 y5 y6 y7 y8 y9))
  | 0 => ⟨fun _ _ _ _ _ _ _ _ _ _ r h => by simp [spec_DrawMakerPut.j0] at h, fun _ _ _ _ _ _ _ _ _ _ r h => by simp [spec_DrawMakerPut.j1] at h⟩
  | k + 1 => by
    obtain ⟨ih0, ih1⟩ := spec_DrawMakerPut.mono_l k
    refine ⟨?_, ?_⟩
    · intro y0 y1 y2 y3 y4 y5 y6 y7 y8 y9
      unfold spec_DrawMakerPut.j0
      exact qch2_
    · intro y0 y1 y2 y3 y4 y5 y6 y7 y8 y9
      unfold spec_DrawMakerPut.j1
      exact qch2_
theorem spec_DrawMakerPut.mono : ∀ a0 k, LeO (spec_DrawMakerPut.f k a0) (spec_DrawMakerPut.f (k + 1) a0) := by
  intro a0 k
  obtain ⟨ih0, ih1⟩ := spec_DrawMakerPut.mono_l k
  unfold spec_DrawMakerPut.f
  exact qch2_
def spec_DrawMakerPut.T11 : Bool × List (List Nat × List Nat) := (true, [([], []), ([], []), ([], []), ([], []), ([], []), ([4], [4]), ([5], [5]), ([0, 5, 0], [0]), ([1, 7, 0, 1, 7], [1]), ([2, 8, 0, 1, 2, 7, 8], [2]), ([3, 9, 0, 1, 2, 3, 7, 8, 9], [3]), ([6, 10, 0, 1, 2, 3, 4, 5, 6, 7, 8, 9, 10], [6])])
def spec_DrawMakerPut.B11 : List Nat := [0, 0, 0, 0, 0, 16, 48, 49, 179, 439, 959, 2047]
theorem spec_DrawMakerPut.tab11 : rtab .any (opsOf Try.f34 11) = spec_DrawMakerPut.T11 := by kernel_rfl
theorem spec_DrawMakerPut.bits11 : waitsOk spec_DrawMakerPut.T11.2 spec_DrawMakerPut.B11 = true := by kernel_rfl
set_option maxHeartbeats 8000000 in
set_option maxRecDepth 100000 in
theorem spec_DrawMakerPut.calls (k : Nat) (A0 : Option Addr) (c0 : Nat) (l0 : List Int) (r1 : Int) (r2 : Int) (r3 : Int) (r4 : Int) (r5 : List (S_Mark)) (r6 : Int) (r7 : Int) (r8 : Int) (r9 : Int) (w : World) (hr0 : Kd.C (Kd.int .u8) w A0 l0.length l0) (hc0 : l0.length ≤ c0) (h : spec_DrawMakerPut.f k l0 = some (r1, r2, r3, r4, r5, r6, r7, r8, r9)) :
    Calls Try.prog 34 #[.slice A0 l0.length c0] w fun e w' => ∃ v4_ : Value, e = .returned (.tuple #[.agg #[.int .i64 r1, .int .i64 r2, .int .i64 r3, .int .i64 r4, v4_], .int .i64 r6, .int .i64 r7, .int .i64 r8, .int .i64 r9]) ∧ Kd.R k_Mark 110 w' w.heap.size (fun _ => True) v4_ r5 ∧ Below w.heap.size w w' := by
  have hu38 := Try.underlying38
  have HR0 := Aside0.mk hr0
  have HC0 := Aside0.mk hc0
  clear hr0 hc0
  have HB := Aside0.mk (Below.refl w.heap.size w)
  have H : ((spec_l1New.f k l0).bind fun bt848 => ((spec_l4Draw.f k bt848.1 bt848.2.1 bt848.2.2).bind fun bt852 => ((spec_l1In.f bt852.2.2.2.1 (-1) 9).bind fun t862 => (if t862 = true then (spec_DrawMakerPut.j0 k bt852.2.2.1 (wrap64 (bt852.2.2.2.1 + 1)) bt848.1 bt852.2.2.2.2.2.1 bt852.2.2.2.2.2.2 bt852.1 bt852.2.1 bt852.2.2.1 bt852.2.2.2.1 bt852.2.2.2.2.1) else (spec_DrawMakerPut.j0 k bt852.2.2.1 bt852.2.2.2.1 bt848.1 bt852.2.2.2.2.2.1 bt852.2.2.2.2.2.2 bt852.1 bt852.2.1 bt852.2.2.1 bt852.2.2.2.1 bt852.2.2.2.2.1))))) = some (r1, r2, r3, r4, r5, r6, r7, r8, r9) := h
  clear h
  replace H := Option.bind_eq_some_iff.mp H
  obtain ⟨⟨t848, t849, t850⟩, A20, H⟩ := H
  replace H : ((spec_l4Draw.f k t848 t849 t850).bind fun bt852 => ((spec_l1In.f bt852.2.2.2.1 (-1) 9).bind fun t862 => (if t862 = true then (spec_DrawMakerPut.j0 k bt852.2.2.1 (wrap64 (bt852.2.2.2.1 + 1)) t848 bt852.2.2.2.2.2.1 bt852.2.2.2.2.2.2 bt852.1 bt852.2.1 bt852.2.2.1 bt852.2.2.2.1 bt852.2.2.2.2.1) else (spec_DrawMakerPut.j0 k bt852.2.2.1 bt852.2.2.2.1 t848 bt852.2.2.2.2.2.1 bt852.2.2.2.2.2.2 bt852.1 bt852.2.1 bt852.2.2.1 bt852.2.2.2.1 bt852.2.2.2.2.1)))) = some (r1, r2, r3, r4, r5, r6, r7, r8, r9) := H
  have A2 := Aside0.mk A20
  clear A20
  replace H := Option.bind_eq_some_iff.mp H
  obtain ⟨⟨t852, t853, t854, t855, t856, t859, t860⟩, A30, H⟩ := H
  replace H : ((spec_l1In.f t855 (-1) 9).bind fun t862 => (if t862 = true then (spec_DrawMakerPut.j0 k t854 (wrap64 (t855 + 1)) t848 t859 t860 t852 t853 t854 t855 t856) else (spec_DrawMakerPut.j0 k t854 t855 t848 t859 t860 t852 t853 t854 t855 t856))) = some (r1, r2, r3, r4, r5, r6, r7, r8, r9) := H
  have A3 := Aside0.mk A30
  clear A30
  replace H := Option.bind_eq_some_iff.mp H
  obtain ⟨t862, A40, H⟩ := H
  replace H : (if t862 = true then (spec_DrawMakerPut.j0 k t854 (wrap64 (t855 + 1)) t848 t859 t860 t852 t853 t854 t855 t856) else (spec_DrawMakerPut.j0 k t854 t855 t848 t859 t860 t852 t853 t854 t855 t856)) = some (r1, r2, r3, r4, r5, r6, r7, r8, r9) := H
  have A4 := Aside0.mk A40
  clear A40
  have HC5 := Aside0.mk H
  clear H
  go_enter Try.func34, Try.ntmps34
  go_upto_if 21 with (first | ((with_reducible refine gate_dst (N := 2) rfl ?_); refine box_event ?hg (N := 2) ?hd (cs := #[.int .i64 0, .int .i64 0, .int .i64 0, .int .i64 0, .slice none 0 0]) (t := 38) ?hr ?_; (case hd => rfl); (case hg => rfl); (case hr => first | (go_simp; done) | (go_simp; rfl)); intro gb847 hg w6 hbox hb; have BK847 := Aside0.mk (hbox); have GW847 := Aside0.mk ((by rw [hg]; exact (below_size (qc2_)) : w.heap.size ≤ gb847)); have GE847 := Aside0.mk ((by rw [hg]; exact (below_size (qc2_)) : w.heap.size ≤ gb847)); replace HB := Aside0.mk (below_step (qc2_) hb); clear hb hbox hg) | ((with_reducible refine gate_callee (f := 50) rfl ?_); refine goesL_ (some 13) rfl rfl Try.func50 (by kernel_rfl) rfl #[.slice A0 l0.length c0] rfl (qc4_) ?_; (with_reducible refine (spec_l1New.calls k _ _ l0 t848 t849 t850 w _ ?side1 ?side2 ?side3 A2.out).mono ?_); (case side1 => repeat (first | (with_reducible first | exact HB.out | apply below_alloc | apply pw_below_drewN | apply below_drew1 | refine below_set ?_ GE847.out) | exact HB.out)); (case side2 => exact HR0.out); (case side3 => exact HC0.out); rintro e w7 ⟨g851, rfl, hi, hb, hb2⟩; refine ⟨_, rfl, ?_⟩; have HI851 := Aside0.mk (hi); have NB851_847 := Aside0.mk (IsS_l1Cur.ne_blk hi (blk_below (g := gb847) (o := .cells #[.int .i64 0, .int .i64 0, .int .i64 0, .int .i64 0, .slice none 0 0] 38 (0, 0)) (bq_ BK847.out) hb2) (by decide)); have NB847_851 := Aside0.mk (Ne.symm (IsS_l1Cur.ne_blk hi (blk_below (g := gb847) (o := .cells #[.int .i64 0, .int .i64 0, .int .i64 0, .int .i64 0, .slice none 0 0] 38 (0, 0)) (bq_ BK847.out) hb2) (by decide))); replace BK847 := Aside0.mk (blk_below (g := gb847) (o := .cells #[.int .i64 0, .int .i64 0, .int .i64 0, .int .i64 0, .slice none 0 0] 38 (0, 0)) (bq_ BK847.out) hb2); replace HB := Aside0.mk (hb); (try clear hb); (try clear hb2); (try clear hk); (try clear hi)) | ((with_reducible refine gate_callee (f := 73) rfl ?_); refine goesL_ (some 15) rfl rfl Try.func73 (by kernel_rfl) rfl #[.pointer (some ⟨g851, 0, none⟩)] rfl (qc4_) ?_; (with_reducible refine (spec_l4Draw.calls k g851 t848 t849 t850 t852 t853 t854 t855 t856 t859 t860 w _ ?side1 ?side2 A3.out).mono ?_); (case side1 => repeat (first | (with_reducible first | exact HI851.out | apply IsS_l1Cur.alloc | apply IsS_l1Cur.drewN | apply IsS_l1Cur.drew | apply IsS_l1Cur.set_1 | apply IsS_l1Cur.set_2 | refine IsS_l1Cur.far ?_ NB851_847.out _) | exact HI851.out)); (case side2 => repeat (first | (with_reducible first | exact HB.out | apply below_alloc | apply pw_below_drewN | apply below_drew1 | refine below_set ?_ (IsS_l1Cur.ge HI851.out) | refine below_set ?_ GE847.out) | exact HB.out)); rintro e w8 ⟨v857, rfl, ho0, hi, hb, hk⟩; refine ⟨_, rfl, ?_⟩; have HO858 := Aside0.mk (Kd.R_lower ho0 (below_size (qc9_))); replace BK847 := Aside0.mk (KeepBut.blk hk (g' := gb847) (o := .cells #[.int .i64 0, .int .i64 0, .int .i64 0, .int .i64 0, .slice none 0 0] 38 (0, 0)) (bq_ BK847.out) NB847_851.out (by simp)); replace HB := Aside0.mk (hb); replace HI851 := Aside0.mk (hi); (try clear hb); (try clear hb2); (try clear hk); (try clear hi); (try clear ho0)) | ((with_reducible refine gate_dst (N := 8) rfl ?_); refine box_event ?hg (N := 8) ?hd (cs := #[.int .i64 0, .int .i64 0, .int .i64 0, .int .i64 0, .slice none 0 0]) (t := 38) ?hr ?_; (case hd => rfl); (case hg => rfl); (case hr => first | (go_simp; done) | (go_simp; rfl)); intro gb861 hg w9 hbox hb; have BK861 := Aside0.mk (hbox); have GW861 := Aside0.mk ((by rw [hg]; exact (below_size (qc9_)) : w.heap.size ≤ gb861)); have GE861 := Aside0.mk ((by rw [hg]; exact (below_size (qc9_)) : w.heap.size ≤ gb861)); have NB847_861 := Aside0.mk ((by rw [hg]; exact Nat.ne_of_lt (blk_lt (g := gb847) (o := .cells #[.int .i64 0, .int .i64 0, .int .i64 0, .int .i64 0, .slice none 0 0] 38 (0, 0)) (bq_ BK847.out)) : gb847 ≠ gb861)); have NB861_847 := Aside0.mk ((by rw [hg]; exact Nat.ne_of_gt (blk_lt (g := gb847) (o := .cells #[.int .i64 0, .int .i64 0, .int .i64 0, .int .i64 0, .slice none 0 0] 38 (0, 0)) (bq_ BK847.out)) : gb861 ≠ gb847)); have NB851_861 := Aside0.mk ((by rw [hg]; exact Nat.ne_of_lt (IsS_l1Cur.lt (show IsS_l1Cur w _ g851 t848 t859 t860 from by repeat (first | (with_reducible first | exact HI851.out | apply IsS_l1Cur.alloc | apply IsS_l1Cur.drewN | apply IsS_l1Cur.drew | apply IsS_l1Cur.set_1 | apply IsS_l1Cur.set_2 | refine IsS_l1Cur.far ?_ NB851_847.out _) | exact HI851.out))) : g851 ≠ gb861)); have NB861_851 := Aside0.mk ((by rw [hg]; exact Nat.ne_of_gt (IsS_l1Cur.lt (show IsS_l1Cur w _ g851 t848 t859 t860 from by repeat (first | (with_reducible first | exact HI851.out | apply IsS_l1Cur.alloc | apply IsS_l1Cur.drewN | apply IsS_l1Cur.drew | apply IsS_l1Cur.set_1 | apply IsS_l1Cur.set_2 | refine IsS_l1Cur.far ?_ NB851_847.out _) | exact HI851.out))) : gb861 ≠ g851)); replace HO858 := Aside0.mk (Kd.R_below (by (with_reducible repeat (first | apply Kd.R_alloc | apply Kd.R_drewN | apply Kd.R_drew)); exact HO858.out) hb); replace BK847 := Aside0.mk (blk_below (g := gb847) (o := .cells #[.int .i64 0, .int .i64 0, .int .i64 0, .int .i64 0, .slice none 0 0] 38 (0, 0)) (bq_ BK847.out) hb); replace HB := Aside0.mk (below_step (qc9_) hb); replace HI851 := Aside0.mk (IsS_l1Cur.below (by repeat (first | (with_reducible first | exact HI851.out | apply IsS_l1Cur.alloc | apply IsS_l1Cur.drewN | apply IsS_l1Cur.drew | apply IsS_l1Cur.set_1 | apply IsS_l1Cur.set_2 | refine IsS_l1Cur.far ?_ NB851_847.out _) | exact HI851.out)) hb); clear hb hbox hg; have hnb10 := NB861_847.out; have hnc10 := NB847_861.out; have hnb11 := NB861_851.out; have hnc11 := NB851_861.out; have hcz12_0 : w9.cell? ⟨gb861, 0, none⟩ = some (.int .i64 0) := bc_ BK861 0; have hcz12_1 : w9.cell? ⟨gb861, 1, none⟩ = some (.int .i64 0) := bc_ BK861 1; have hcz12_2 : w9.cell? ⟨gb861, 2, none⟩ = some (.int .i64 0) := bc_ BK861 2; have hcz12_3 : w9.cell? ⟨gb861, 3, none⟩ = some (.int .i64 0) := bc_ BK861 3; have hcz12_4 : w9.cell? ⟨gb861, 4, none⟩ = some (.slice none 0 0) := bc_ BK861 4; have hfz12_0 := blk_frozen BK861.out 0; have hfz12_1 := blk_frozen BK861.out 1; have hfz12_2 := blk_frozen BK861.out 2; have hfz12_3 := blk_frozen BK861.out 3; have hfz12_4 := blk_frozen BK861.out 4; obtain ⟨Ao13, co13, eo13⟩ := Kd.R_slice HO858.out; subst eo13) | ((with_reducible refine gate_callee (f := 74) rfl ?_); refine goesL_ (some 21) rfl rfl Try.func74 (by kernel_rfl) rfl #[.int .i64 t855, .int .i64 (-1), .int .i64 9] rfl (qc4_) ?_; (with_reducible refine (spec_l1In.calls t855 (-1) 9 t862 _ A4.out).mono ?_); rintro e w' ⟨rfl, ⟨nd, rfl⟩⟩; refine ⟨_, rfl, ?_⟩))
  (try simp only [Act.put, List.setIfInBounds_toArray, List.set_cons_zero, List.set_cons_succ])
  go_cut [10] (fun v10 wc => ∃ (kq : Nat) (x10_4 : Int), v10 = .int .i64 x10_4 ∧ Aside0 (spec_DrawMakerPut.j0 kq t854 x10_4 t848 t859 t860 t852 t853 t854 t855 t856 = some (r1, r2, r3, r4, r5, r6, r7, r8, r9)) ∧ Aside0 (kq ≤ k) ∧ Aside0 (Kd.R k_Mark 110 wc w.heap.size (fun _ => True) (.slice Ao13 t856.length co13) t856) ∧ Aside0 (wc.heap[gb847]? = some (.cells #[.int .i64 0, .int .i64 0, .int .i64 0, .int .i64 0, (.slice none 0 0)] 38 (0, 0))) ∧ Aside0 (wc.heap[gb861]? = some (.cells #[.int .i64 t852, .int .i64 t853, .int .i64 t854, .int .i64 t855, (.slice Ao13 t856.length co13)] 38 (0, 0))) ∧ Aside0 (IsS_l1Cur w wc g851 t848 t859 t860) ∧ Aside0 (Below w.heap.size w wc))
  case first =>
    have H := HC5.out
    clear HC5
    by_cases c14 : t862 = true
    · subst c14
      have H1 : (spec_DrawMakerPut.j0 k t854 (wrap64 (t855 + 1)) t848 t859 t860 t852 t853 t854 t855 t856) = some (r1, r2, r3, r4, r5, r6, r7, r8, r9) := by rw [if_pos rfl] at H; exact H
      clear H
      have H := H1
      clear H1
      have H' := Aside0.mk H
      clear H
      go_wp2
      go_meet
      case rel => exact ⟨_, (wrap64 (t855 + 1)), (qc11_), H', ⟨by first | omega | exact Nat.le_refl _⟩, ⟨qc10_⟩, ⟨bf_ NB847_861.out BK847.out⟩, ⟨bp_ BK861.out⟩, ⟨qc3_⟩, ⟨qc1_⟩⟩
    · replace c14 := Bool.eq_false_iff.mpr c14
      subst c14
      have H1 : (spec_DrawMakerPut.j0 k t854 t855 t848 t859 t860 t852 t853 t854 t855 t856) = some (r1, r2, r3, r4, r5, r6, r7, r8, r9) := by rw [if_neg (show ¬ (false = true) by decide)] at H; exact H
      clear H
      have H := H1
      clear H1
      have H' := Aside0.mk H
      clear H
      go_wp2
      go_meet
      case rel => exact ⟨_, (t855), (qc11_), H', ⟨by first | omega | exact Nat.le_refl _⟩, ⟨qc10_⟩, ⟨bf_ NB847_861.out BK847.out⟩, ⟨bp_ BK861.out⟩, ⟨qc3_⟩, ⟨qc1_⟩⟩
  case rest =>
    clear HC5
    try clear c1
    try clear p2
    try clear c3
    try clear c5
    try clear p6
    try clear c7
    try clear c10
    try clear c11
    try clear c14
    try clear hcz12_0
    try clear hcz12_1
    try clear hcz12_2
    try clear hcz12_3
    try clear hcz12_4
    try clear hfz12_0
    try clear hfz12_1
    try clear hfz12_2
    try clear hfz12_3
    try clear hfz12_4
    obtain ⟨kq, x10_4, rfl, HA, HJ4, HO_862004, BK847, BK861, HI851, HB⟩ := hcut
    cases kq with
    | zero => exact absurd HA.out (by simp [spec_DrawMakerPut.j0])
    | succ kj4 =>
      have H := HA.out
      clear HA
      simp only [spec_DrawMakerPut.j0] at H
      replace H := Option.bind_eq_some_iff.mp H
      obtain ⟨⟨t863, t864, t865⟩, A150, H⟩ := H
      replace H : (if t863 = true then ((spec_l1Below.f t848 t864 t865 3).bind fun bt866 => ((spec_l1Below.f t848 bt866.2.1 bt866.2.2 3).bind fun bt869 => (spec_DrawMakerPut.j1 kj4 bt866.1 bt869.1 t848 bt869.2.1 bt869.2.2 t852 t853 t854 t855 t856))) else (spec_DrawMakerPut.j1 kj4 t854 x10_4 t848 t864 t865 t852 t853 t854 t855 t856)) = some (r1, r2, r3, r4, r5, r6, r7, r8, r9) := H
      have A15 := Aside0.mk A150
      clear A150
      have HC16 := Aside0.mk H
      clear H
      go_upto_if 25 with (first | ((with_reducible refine gate_callee (f := 75) rfl ?_); refine goesL_ (some 25) rfl rfl Try.func75 (by kernel_rfl) rfl #[.pointer (some ⟨g851, 0, none⟩), .int .i64 4] rfl (qc4_) ?_; (with_reducible refine (spec_l1Once.calls g851 t848 t859 t860 4 t863 t864 t865 w _ ?side1 ?side2 A15.out).mono ?_); (case side1 => repeat (first | (with_reducible first | exact HI851.out | apply IsS_l1Cur.alloc | apply IsS_l1Cur.drewN | apply IsS_l1Cur.drew | apply IsS_l1Cur.set_1 | apply IsS_l1Cur.set_2 | refine IsS_l1Cur.far ?_ NB851_847.out _ | refine IsS_l1Cur.far ?_ NB851_861.out _) | exact HI851.out)); (case side2 => repeat (first | (with_reducible first | exact HB.out | apply below_alloc | apply pw_below_drewN | apply below_drew1 | refine below_set ?_ (IsS_l1Cur.ge HI851.out) | refine below_set ?_ GE847.out | refine below_set ?_ GE861.out) | exact HB.out)); rintro e w17 ⟨rfl, hi, hb, hk⟩; refine ⟨_, rfl, ?_⟩; replace HO_862004 := Aside0.mk (Kd.R_mono (Kd.R_keep (IsS_l1Cur.apart (show IsS_l1Cur w _ g851 t848 t859 t860 from by repeat (first | (with_reducible first | exact HI851.out | apply IsS_l1Cur.alloc | apply IsS_l1Cur.drewN | apply IsS_l1Cur.drew | apply IsS_l1Cur.set_1 | apply IsS_l1Cur.set_2 | refine IsS_l1Cur.far ?_ NB851_847.out _ | refine IsS_l1Cur.far ?_ NB851_861.out _) | exact HI851.out)) (qc7_) (by decide)) hk (fun _ h => h.2)) (fun _ h => h.1)); replace BK847 := Aside0.mk (KeepBut.blk hk (g' := gb847) (o := .cells #[.int .i64 0, .int .i64 0, .int .i64 0, .int .i64 0, .slice none 0 0] 38 (0, 0)) (bq_ BK847.out) NB847_851.out (by simp)); replace BK861 := Aside0.mk (KeepBut.blk hk (g' := gb861) (o := .cells #[.int .i64 t852, .int .i64 t853, .int .i64 t854, .int .i64 t855, .slice Ao13 t856.length co13] 38 (0, 0)) (bq_ BK861.out) NB861_851.out (by simp)); replace HB := Aside0.mk (hb); replace HI851 := Aside0.mk (hi); (try clear hb); (try clear hb2); (try clear hk); (try clear hi)))
      (try simp only [Act.put, List.setIfInBounds_toArray, List.set_cons_zero, List.set_cons_succ])
      go_cut [9, 10] (fun v9 v10 wc => ∃ (kq : Nat) (x9_15 : Int) (x10_15 : Int) (x852001_15 : Int) (x852002_15 : Int), v9 = .int .i64 x9_15 ∧ v10 = .int .i64 x10_15 ∧ Aside0 (spec_DrawMakerPut.j1 kq x9_15 x10_15 t848 x852001_15 x852002_15 t852 t853 t854 t855 t856 = some (r1, r2, r3, r4, r5, r6, r7, r8, r9)) ∧ Aside0 (kq ≤ kj4) ∧ Aside0 (Kd.R k_Mark 110 wc w.heap.size (fun _ => True) (.slice Ao13 t856.length co13) t856) ∧ Aside0 (wc.heap[gb847]? = some (.cells #[.int .i64 0, .int .i64 0, .int .i64 0, .int .i64 0, (.slice none 0 0)] 38 (0, 0))) ∧ Aside0 (wc.heap[gb861]? = some (.cells #[.int .i64 t852, .int .i64 t853, .int .i64 t854, .int .i64 t855, (.slice Ao13 t856.length co13)] 38 (0, 0))) ∧ Aside0 (IsS_l1Cur w wc g851 t848 x852001_15 x852002_15) ∧ Aside0 (Below w.heap.size w wc))
      case first =>
        have H := HC16.out
        clear HC16
        by_cases c18 : t863 = true
        · subst c18
          have H1 : ((spec_l1Below.f t848 t864 t865 3).bind fun bt866 => ((spec_l1Below.f t848 bt866.2.1 bt866.2.2 3).bind fun bt869 => (spec_DrawMakerPut.j1 kj4 bt866.1 bt869.1 t848 bt869.2.1 bt869.2.2 t852 t853 t854 t855 t856))) = some (r1, r2, r3, r4, r5, r6, r7, r8, r9) := by rw [if_pos rfl] at H; exact H
          clear H
          have H := H1
          clear H1
          replace H := Option.bind_eq_some_iff.mp H
          obtain ⟨⟨t866, t867, t868⟩, A190, H⟩ := H
          replace H : ((spec_l1Below.f t848 t867 t868 3).bind fun bt869 => (spec_DrawMakerPut.j1 kj4 t866 bt869.1 t848 bt869.2.1 bt869.2.2 t852 t853 t854 t855 t856)) = some (r1, r2, r3, r4, r5, r6, r7, r8, r9) := H
          have A19 := Aside0.mk A190
          clear A190
          replace H := Option.bind_eq_some_iff.mp H
          obtain ⟨⟨t869, t870, t871⟩, A200, H⟩ := H
          replace H : (spec_DrawMakerPut.j1 kj4 t866 t869 t848 t870 t871 t852 t853 t854 t855 t856) = some (r1, r2, r3, r4, r5, r6, r7, r8, r9) := H
          have A20 := Aside0.mk A200
          clear A200
          have H' := Aside0.mk H
          clear H
          go_wp2_with (first | ((with_reducible refine gate_callee (f := 76) rfl ?_); refine goesL_ (some 27) rfl rfl Try.func76 (by kernel_rfl) rfl #[.pointer (some ⟨g851, 0, none⟩), .int .i64 3] rfl (qc4_) ?_; (with_reducible refine (spec_l1Below.calls g851 t848 t864 t865 3 t866 t867 t868 w _ ?side1 ?side2 A19.out).mono ?_); (case side1 => repeat (first | (with_reducible first | exact HI851.out | apply IsS_l1Cur.alloc | apply IsS_l1Cur.drewN | apply IsS_l1Cur.drew | apply IsS_l1Cur.set_1 | apply IsS_l1Cur.set_2 | refine IsS_l1Cur.far ?_ NB851_847.out _ | refine IsS_l1Cur.far ?_ NB851_861.out _) | exact HI851.out)); (case side2 => repeat (first | (with_reducible first | exact HB.out | apply below_alloc | apply pw_below_drewN | apply below_drew1 | refine below_set ?_ (IsS_l1Cur.ge HI851.out) | refine below_set ?_ GE847.out | refine below_set ?_ GE861.out) | exact HB.out)); rintro e w21 ⟨rfl, hi, hb, hk⟩; refine ⟨_, rfl, ?_⟩; replace HO_862004 := Aside0.mk (Kd.R_mono (Kd.R_keep (IsS_l1Cur.apart (show IsS_l1Cur w _ g851 t848 t864 t865 from by repeat (first | (with_reducible first | exact HI851.out | apply IsS_l1Cur.alloc | apply IsS_l1Cur.drewN | apply IsS_l1Cur.drew | apply IsS_l1Cur.set_1 | apply IsS_l1Cur.set_2 | refine IsS_l1Cur.far ?_ NB851_847.out _ | refine IsS_l1Cur.far ?_ NB851_861.out _) | exact HI851.out)) (qc7_) (by decide)) hk (fun _ h => h.2)) (fun _ h => h.1)); replace BK847 := Aside0.mk (KeepBut.blk hk (g' := gb847) (o := .cells #[.int .i64 0, .int .i64 0, .int .i64 0, .int .i64 0, .slice none 0 0] 38 (0, 0)) (bq_ BK847.out) NB847_851.out (by simp)); replace BK861 := Aside0.mk (KeepBut.blk hk (g' := gb861) (o := .cells #[.int .i64 t852, .int .i64 t853, .int .i64 t854, .int .i64 t855, .slice Ao13 t856.length co13] 38 (0, 0)) (bq_ BK861.out) NB861_851.out (by simp)); replace HB := Aside0.mk (hb); replace HI851 := Aside0.mk (hi); (try clear hb); (try clear hb2); (try clear hk); (try clear hi)) | ((with_reducible refine gate_callee (f := 76) rfl ?_); refine goesL_ (some 29) rfl rfl Try.func76 (by kernel_rfl) rfl #[.pointer (some ⟨g851, 0, none⟩), .int .i64 3] rfl (qc4_) ?_; (with_reducible refine (spec_l1Below.calls g851 t848 t867 t868 3 t869 t870 t871 w _ ?side1 ?side2 A20.out).mono ?_); (case side1 => repeat (first | (with_reducible first | exact HI851.out | apply IsS_l1Cur.alloc | apply IsS_l1Cur.drewN | apply IsS_l1Cur.drew | apply IsS_l1Cur.set_1 | apply IsS_l1Cur.set_2 | refine IsS_l1Cur.far ?_ NB851_847.out _ | refine IsS_l1Cur.far ?_ NB851_861.out _) | exact HI851.out)); (case side2 => repeat (first | (with_reducible first | exact HB.out | apply below_alloc | apply pw_below_drewN | apply below_drew1 | refine below_set ?_ (IsS_l1Cur.ge HI851.out) | refine below_set ?_ GE847.out | refine below_set ?_ GE861.out) | exact HB.out)); rintro e w22 ⟨rfl, hi, hb, hk⟩; refine ⟨_, rfl, ?_⟩; replace HO_862004 := Aside0.mk (Kd.R_mono (Kd.R_keep (IsS_l1Cur.apart (show IsS_l1Cur w _ g851 t848 t867 t868 from by repeat (first | (with_reducible first | exact HI851.out | apply IsS_l1Cur.alloc | apply IsS_l1Cur.drewN | apply IsS_l1Cur.drew | apply IsS_l1Cur.set_1 | apply IsS_l1Cur.set_2 | refine IsS_l1Cur.far ?_ NB851_847.out _ | refine IsS_l1Cur.far ?_ NB851_861.out _) | exact HI851.out)) (qc7_) (by decide)) hk (fun _ h => h.2)) (fun _ h => h.1)); replace BK847 := Aside0.mk (KeepBut.blk hk (g' := gb847) (o := .cells #[.int .i64 0, .int .i64 0, .int .i64 0, .int .i64 0, .slice none 0 0] 38 (0, 0)) (bq_ BK847.out) NB847_851.out (by simp)); replace BK861 := Aside0.mk (KeepBut.blk hk (g' := gb861) (o := .cells #[.int .i64 t852, .int .i64 t853, .int .i64 t854, .int .i64 t855, .slice Ao13 t856.length co13] 38 (0, 0)) (bq_ BK861.out) NB861_851.out (by simp)); replace HB := Aside0.mk (hb); replace HI851 := Aside0.mk (hi); (try clear hb); (try clear hb2); (try clear hk); (try clear hi)))
          go_meet
          case rel => exact ⟨_, (t866), (t869), (t870), (t871), (qc11_), (qc11_), H', ⟨by have := HJ4.out; first | omega | exact Nat.le_refl _⟩, ⟨qc7_⟩, ⟨bq_ BK847.out⟩, ⟨bq_ BK861.out⟩, ⟨qc3_⟩, ⟨qc1_⟩⟩
        · replace c18 := Bool.eq_false_iff.mpr c18
          subst c18
          have H1 : (spec_DrawMakerPut.j1 kj4 t854 x10_4 t848 t864 t865 t852 t853 t854 t855 t856) = some (r1, r2, r3, r4, r5, r6, r7, r8, r9) := by rw [if_neg (show ¬ (false = true) by decide)] at H; exact H
          clear H
          have H := H1
          clear H1
          have H' := Aside0.mk H
          clear H
          go_wp2
          go_meet
          case rel => exact ⟨_, (t854), (x10_4), (t864), (t865), (qc11_), (qc11_), H', ⟨by have := HJ4.out; first | omega | exact Nat.le_refl _⟩, ⟨qc7_⟩, ⟨bq_ BK847.out⟩, ⟨bq_ BK861.out⟩, ⟨qc3_⟩, ⟨qc1_⟩⟩
      case rest =>
        clear HC16
        try clear c1
        try clear p2
        try clear c3
        try clear c5
        try clear p6
        try clear c7
        try clear c10
        try clear c11
        try clear c14
        try clear c18
        try clear hcz12_0
        try clear hcz12_1
        try clear hcz12_2
        try clear hcz12_3
        try clear hcz12_4
        try clear hfz12_0
        try clear hfz12_1
        try clear hfz12_2
        try clear hfz12_3
        try clear hfz12_4
        try clear p2
        try clear p6
        obtain ⟨kq, x9_15, x10_15, x852001_15, x852002_15, rfl, rfl, HA, HJ15, HO_862004, BK847, BK861, HI851, HB⟩ := hcut
        cases kq with
        | zero => exact absurd HA.out (by simp [spec_DrawMakerPut.j1])
        | succ kj15 =>
          have H := HA.out
          clear HA
          simp only [spec_DrawMakerPut.j1] at H
          obtain ⟨y872, hy872⟩ : ∃ y_ : List Int, y_ = (([1, 2, 3, 0, (-1)] : List Int)) := ⟨_, rfl⟩
          replace H : ((spec_l1PickInt.f t848 x852001_15 x852002_15 y872).bind fun bt875 => ((spec_l1Below.f t848 bt875.2.1 bt875.2.2 3).bind fun bt878 => (some (t852, t853, t854, t855, t856, bt875.1, x9_15, x10_15, wrap64 (20 + bt878.1))))) = some (r1, r2, r3, r4, r5, r6, r7, r8, r9) := by first | (rw [hy872]; with_reducible exact H) | (have H2_ := (Option.bind_some _ _).symm.trans H; rw [hy872]; with_reducible exact H2_) | (have H2_ := (Option.bind_some _ _).symm.trans H; with_reducible exact H2_) | with_reducible exact H | (rw [hy872]; exact H) | exact H
          have Ny872 := Aside0.mk hy872
          clear hy872
          replace H := Option.bind_eq_some_iff.mp H
          obtain ⟨⟨t875, t876, t877⟩, A230, H⟩ := H
          replace H : ((spec_l1Below.f t848 t876 t877 3).bind fun bt878 => (some (t852, t853, t854, t855, t856, t875, x9_15, x10_15, wrap64 (20 + bt878.1)))) = some (r1, r2, r3, r4, r5, r6, r7, r8, r9) := H
          have A23 := Aside0.mk A230
          clear A230
          replace H := Option.bind_eq_some_iff.mp H
          obtain ⟨⟨t878, t879, t880⟩, A240, H⟩ := H
          replace H : (some (t852, t853, t854, t855, t856, t875, x9_15, x10_15, wrap64 (20 + t878))) = some (r1, r2, r3, r4, r5, r6, r7, r8, r9) := H
          have A24 := Aside0.mk A240
          clear A240
          simp only [Option.some.injEq, Prod.mk.injEq] at H
          obtain ⟨rfl, rfl, rfl, rfl, rfl, rfl, rfl, rfl, rfl⟩ := H
          try go_wp2_with (first | ((with_reducible refine gate_dst (N := 31) rfl ?_); refine Kd.R_lit (Kd.int .i64) _ 3 ?hg (N := 31) ?hd (xs := ([1, 2, 3, 0, (-1)] : List Int)) (inner := [.int .i64 1, .int .i64 2, .int .i64 3, .int .i64 0, .int .i64 (-1)]) (ok := fun _ => True) (okp := fun _ => True) ?hr ?hp (fun _ hk => hk) trivial (Below.refl _ _) (Nat.le_refl _) (by simp) ?_; (case hd => rfl); (case hg => rfl); (case hr => first | (go_simp; done) | (go_simp; rfl)); (case hp => exact (Reps.one (show Kd.M (Kd.int .i64) _ _ _ 1 [.int .i64 1] from rfl) (Reps.one (show Kd.M (Kd.int .i64) _ _ _ 2 [.int .i64 2] from rfl) (Reps.one (show Kd.M (Kd.int .i64) _ _ _ 3 [.int .i64 3] from rfl) (Reps.one (show Kd.M (Kd.int .i64) _ _ _ 0 [.int .i64 0] from rfl) (Reps.one (show Kd.M (Kd.int .i64) _ _ _ (-1) [.int .i64 (-1)] from rfl) (Reps.none _ _))))))); intro v873 w25 ho26 hb hg_ hnew_; clear hg_ hnew_; (first | rw [← Ny872.out] at ho26 | (simp only [Int.reduceToNat] at ho26; rw [← Ny872.out] at ho26)); have HO874 := Aside0.mk (Kd.R_lower ho26 (below_size (qc1_))); replace HO_862004 := Aside0.mk (Kd.R_below (qc7_) hb); replace BK847 := Aside0.mk (blk_below (g := gb847) (o := .cells #[.int .i64 0, .int .i64 0, .int .i64 0, .int .i64 0, .slice none 0 0] 38 (0, 0)) (bq_ BK847.out) hb); replace BK861 := Aside0.mk (blk_below (g := gb861) (o := .cells #[.int .i64 t852, .int .i64 t853, .int .i64 t854, .int .i64 t855, .slice Ao13 t856.length co13] 38 (0, 0)) (bq_ BK861.out) hb); replace HB := Aside0.mk (below_step (qc1_) hb); replace HI851 := Aside0.mk (IsS_l1Cur.below (qc3_) hb); clear hb ho26; obtain ⟨Ao27, co27, eo27⟩ := Kd.R_slice HO874.out; subst eo27) | ((with_reducible refine gate_callee (f := 52) rfl ?_); refine goesL_ (some 32) rfl rfl Try.func52 (by kernel_rfl) rfl #[.pointer (some ⟨g851, 0, none⟩), .slice Ao27 y872.length co27] rfl (qc4_) ?_; (with_reducible refine (spec_l1PickInt.calls g851 t848 x852001_15 x852002_15 _ _ y872 t875 t876 t877 w _ ?side1 ?side2 ?side3 ?side4 ?side5 A23.out).mono ?_); (case side1 => repeat (first | (with_reducible first | exact HI851.out | apply IsS_l1Cur.alloc | apply IsS_l1Cur.drewN | apply IsS_l1Cur.drew | apply IsS_l1Cur.set_1 | apply IsS_l1Cur.set_2 | refine IsS_l1Cur.far ?_ NB851_847.out _ | refine IsS_l1Cur.far ?_ NB851_861.out _) | exact HI851.out)); (case side2 => repeat (first | (with_reducible first | exact HB.out | apply below_alloc | apply pw_below_drewN | apply below_drew1 | refine below_set ?_ (IsS_l1Cur.ge HI851.out) | refine below_set ?_ GE847.out | refine below_set ?_ GE861.out) | exact HB.out)); (case side3 => repeat (first | exact (Kd.R_reads' HO874.out).2.2 | (with_reducible refine Kd.C_alloc ?_ _) | (with_reducible refine Kd.C_drewN ?_ _) | (with_reducible refine Kd.C_drew ?_))); (case side4 => exact (Kd.R_reads' HO874.out).2.1); (case side5 => exact far_slice (IsS_l1Cur.own_ne HI851.out HO874.out (by decide))); rintro e w28 ⟨rfl, hi, hb, hk⟩; refine ⟨_, rfl, ?_⟩; replace HO_862004 := Aside0.mk (Kd.R_mono (Kd.R_keep (IsS_l1Cur.apart (show IsS_l1Cur w _ g851 t848 x852001_15 x852002_15 from by repeat (first | (with_reducible first | exact HI851.out | apply IsS_l1Cur.alloc | apply IsS_l1Cur.drewN | apply IsS_l1Cur.drew | apply IsS_l1Cur.set_1 | apply IsS_l1Cur.set_2 | refine IsS_l1Cur.far ?_ NB851_847.out _ | refine IsS_l1Cur.far ?_ NB851_861.out _) | exact HI851.out)) (qc7_) (by decide)) hk (fun _ h => h.2)) (fun _ h => h.1)); replace BK847 := Aside0.mk (KeepBut.blk hk (g' := gb847) (o := .cells #[.int .i64 0, .int .i64 0, .int .i64 0, .int .i64 0, .slice none 0 0] 38 (0, 0)) (bq_ BK847.out) NB847_851.out (by simp)); replace BK861 := Aside0.mk (KeepBut.blk hk (g' := gb861) (o := .cells #[.int .i64 t852, .int .i64 t853, .int .i64 t854, .int .i64 t855, .slice Ao13 t856.length co13] 38 (0, 0)) (bq_ BK861.out) NB861_851.out (by simp)); replace HO874 := Aside0.mk (Kd.R_mono (Kd.R_keep (IsS_l1Cur.apart (show IsS_l1Cur w _ g851 t848 x852001_15 x852002_15 from by repeat (first | (with_reducible first | exact HI851.out | apply IsS_l1Cur.alloc | apply IsS_l1Cur.drewN | apply IsS_l1Cur.drew | apply IsS_l1Cur.set_1 | apply IsS_l1Cur.set_2 | refine IsS_l1Cur.far ?_ NB851_847.out _ | refine IsS_l1Cur.far ?_ NB851_861.out _) | exact HI851.out)) (by (with_reducible repeat (first | apply Kd.R_alloc | apply Kd.R_drewN | apply Kd.R_drew)); exact HO874.out) (by decide)) hk (fun _ h => h.2)) (fun _ h => h.1)); replace HB := Aside0.mk (hb); replace HI851 := Aside0.mk (hi); (try clear hb); (try clear hb2); (try clear hk); (try clear hi)))
          replace HO_862004 := Aside0.mk (Kd.R_drew HO_862004.out)
          replace HO874 := Aside0.mk (Kd.R_drew HO874.out)
          replace BK847 := Aside0.mk (blk_drew BK847.out)
          replace BK861 := Aside0.mk (blk_drew BK861.out)
          replace HI851 := Aside0.mk (IsS_l1Cur.drew HI851.out)
          replace HB := Aside0.mk (below_drew1 HB.out)
          refine start_ (n := 12) (S := fun w' => w'.cell? ⟨gb861, 0, none⟩ = some (.int .i64 t852) ∧ w'.cell? ⟨gb861, 1, none⟩ = some (.int .i64 t853) ∧ w'.cell? ⟨gb861, 2, none⟩ = some (.int .i64 t854) ∧ w'.cell? ⟨gb861, 3, none⟩ = some (.int .i64 t855) ∧ w'.cell? ⟨gb861, 4, none⟩ = some (.slice Ao13 t856.length co13)) (ds := []) #[false, false, false, false, false, false, false, false, false, false, false, false] (by kernel_rfl) rfl rfl ⟨bc_ BK861 0, bc_ BK861 1, bc_ BK861 2, bc_ BK861 3, bc_ BK861 4⟩ (fun hHeld => ?_); refine with_tabW spec_DrawMakerPut.tab11 spec_DrawMakerPut.bits11 (fun HT_ HW_ => ?_)
          generalize w28.drew = w29 at HO_862004 HO874 BK847 BK861 HI851 HB hHeld ⊢
          refine pure_ (i := 1) (N := some 34) (v := ?_) (a' := ?_) #[false, true, false, false, false, false, false, false, false, false, false, false] rfl rfl (any_of HT_.out (by kernel_rfl)) (fun _ _ _ h => h) (Or.inl ⟨by rfl, ?_⟩) ?_ ?_
          rotate_left
          · intro w'
            go_simp
            with_reducible rfl
          rotate_left
          · simp only [Act.put, List.setIfInBounds_toArray, List.set_cons_zero, List.set_cons_succ, i64_w, i32_w]
            rfl
          refine pure_ (i := 2) (N := some 35) (v := ?_) (a' := ?_) #[false, true, true, false, false, false, false, false, false, false, false, false] rfl rfl (any_of HT_.out (by kernel_rfl)) (fun _ _ _ h => h) (Or.inl ⟨by rfl, ?_⟩) ?_ ?_
          rotate_left
          · intro w'
            go_simp
            with_reducible rfl
          rotate_left
          · simp only [Act.put, List.setIfInBounds_toArray, List.set_cons_zero, List.set_cons_succ, i64_w, i32_w]
            rfl
          refine pure_ (i := 3) (N := some 36) (v := ?_) (a' := ?_) #[false, true, true, true, false, false, false, false, false, false, false, false] rfl rfl (any_of HT_.out (by kernel_rfl)) (fun _ _ _ h => h) (Or.inl ⟨by rfl, ?_⟩) ?_ ?_
          rotate_left
          · intro w'
            go_simp
            with_reducible rfl
          rotate_left
          · simp only [Act.put, List.setIfInBounds_toArray, List.set_cons_zero, List.set_cons_succ, i64_w, i32_w]
            rfl
          refine pure_ (i := 4) (N := some 37) (v := ?_) (a' := ?_) #[false, true, true, true, true, false, false, false, false, false, false, false] rfl rfl (any_of HT_.out (by kernel_rfl)) (fun _ _ _ h => h) (Or.inl ⟨by rfl, ?_⟩) ?_ ?_
          rotate_left
          · intro w'
            go_simp
            with_reducible rfl
          rotate_left
          · simp only [Act.put, List.setIfInBounds_toArray, List.set_cons_zero, List.set_cons_succ, i64_w, i32_w]
            rfl
          refine take_ (i := 0) (N := some 33) (v := ?_) (a' := ?_) #[true, true, true, true, true, false, false, false, false, false, false, false] rfl rfl (take_ofW HT_.out HW_.out (by kernel_rfl)) (fun _ _ _ h => h) (Or.inl ⟨by rfl, ?_⟩) hHeld ?_ ?_
          rotate_left
          · rintro w' ⟨s0, s1, s2, s3, s4⟩
            go_simp
            with_reducible rfl
          rotate_left
          · simp only [Act.put, List.setIfInBounds_toArray, List.set_cons_zero, List.set_cons_succ, i64_w, i32_w]
            rfl
          refine on_ 5 38 HT_ #[true, true, true, true, true, true, false, false, false, false, false, false] rfl rfl (fun K hK => ?_)
          refine goes_ Try.func76 (by kernel_rfl) rfl #[.pointer (some ⟨g851, 0, none⟩), .int .i64 3] (by rfl) rfl rfl (qc4_) ?_
          with_reducible refine (spec_l1Below.calls g851 t848 t876 t877 3 t878 t879 t880 w _ ?side1 ?side2 A24.out).mono ?_
          (case side1 => repeat (first | (with_reducible first | exact HI851.out | apply IsS_l1Cur.alloc | apply IsS_l1Cur.drewN | apply IsS_l1Cur.drew | apply IsS_l1Cur.set_1 | apply IsS_l1Cur.set_2 | refine IsS_l1Cur.far ?_ NB851_847.out _ | refine IsS_l1Cur.far ?_ NB851_861.out _) | exact HI851.out))
          (case side2 => repeat (first | (with_reducible first | exact HB.out | apply below_alloc | apply pw_below_drewN | apply below_drew1 | refine below_set ?_ (IsS_l1Cur.ge HI851.out) | refine below_set ?_ GE847.out | refine below_set ?_ GE861.out) | exact HB.out))
          rintro e w30 ⟨rfl, hi, hb, hk⟩
          refine ⟨_, rfl, ?_⟩
          replace HO_862004 := Aside0.mk (Kd.R_mono (Kd.R_keep (IsS_l1Cur.apart (show IsS_l1Cur w _ g851 t848 t876 t877 from by repeat (first | (with_reducible first | exact HI851.out | apply IsS_l1Cur.alloc | apply IsS_l1Cur.drewN | apply IsS_l1Cur.drew | apply IsS_l1Cur.set_1 | apply IsS_l1Cur.set_2 | refine IsS_l1Cur.far ?_ NB851_847.out _ | refine IsS_l1Cur.far ?_ NB851_861.out _) | exact HI851.out)) (qc7_) (by decide)) hk (fun _ h => h.2)) (fun _ h => h.1))
          replace BK847 := Aside0.mk (KeepBut.blk hk (g' := gb847) (o := .cells #[.int .i64 0, .int .i64 0, .int .i64 0, .int .i64 0, .slice none 0 0] 38 (0, 0)) (bq_ BK847.out) NB847_851.out (by simp))
          replace BK861 := Aside0.mk (KeepBut.blk hk (g' := gb861) (o := .cells #[.int .i64 t852, .int .i64 t853, .int .i64 t854, .int .i64 t855, .slice Ao13 t856.length co13] 38 (0, 0)) (bq_ BK861.out) NB861_851.out (by simp))
          replace HO874 := Aside0.mk (Kd.R_mono (Kd.R_keep (IsS_l1Cur.apart (show IsS_l1Cur w _ g851 t848 t876 t877 from by repeat (first | (with_reducible first | exact HI851.out | apply IsS_l1Cur.alloc | apply IsS_l1Cur.drewN | apply IsS_l1Cur.drew | apply IsS_l1Cur.set_1 | apply IsS_l1Cur.set_2 | refine IsS_l1Cur.far ?_ NB851_847.out _ | refine IsS_l1Cur.far ?_ NB851_861.out _) | exact HI851.out)) (by (with_reducible repeat (first | apply Kd.R_alloc | apply Kd.R_drewN | apply Kd.R_drew)); exact HO874.out) (by decide)) hk (fun _ h => h.2)) (fun _ h => h.1))
          replace HB := Aside0.mk (hb)
          replace HI851 := Aside0.mk (hi)
          (try clear hb); (try clear hb2); (try clear hk); (try clear hi)
          refine hK.out _ _ ⟨bc_ BK861 0, bc_ BK861 1, bc_ BK861 2, bc_ BK861 3, bc_ BK861 4⟩ (fun hHeld => ?_)
          clear hK K
          refine norm_ (a' := ?_) ?_ ?_
          rotate_left
          · show Act.put _ (some 38) _ = _
            simp only [Act.put, List.setIfInBounds_toArray, List.set_cons_zero, List.set_cons_succ, i64_w, i32_w]
            rfl
          refine pure_ (i := 6) (N := some 39) (v := ?_) (a' := ?_) #[true, true, true, true, true, true, true, false, false, false, false, false] rfl rfl (any_of HT_.out (by kernel_rfl)) (fun _ _ _ h => h) (Or.inl ⟨by rfl, ?_⟩) ?_ ?_
          rotate_left
          · intro w'
            go_simp
            with_reducible rfl
          rotate_left
          · simp only [Act.put, List.setIfInBounds_toArray, List.set_cons_zero, List.set_cons_succ, i64_w, i32_w]
            rfl
          refine one_ (i := 7) (N := none) #[true, true, true, true, true, true, true, true, false, false, false, false] rfl rfl (one_of HT_.out (by kernel_rfl)) (by decide) (fun K hK => ?_)
          have hs31 : w30.cell? ⟨gb847, 0, none⟩ = some (.int .i64 0) := bc_ BK847 0
          have hfs31 := blk_frozen BK847.out 0
          have hns31_1 := NB861_847.out
          have hms31_1 := NB847_861.out
          have hs32 : w30.cell? ⟨gb847, 1, none⟩ = some (.int .i64 0) := bc_ BK847 1
          have hfs32 := blk_frozen BK847.out 1
          have hns32_1 := NB861_847.out
          have hms32_1 := NB847_861.out
          have hs33 : w30.cell? ⟨gb847, 2, none⟩ = some (.int .i64 0) := bc_ BK847 2
          have hfs33 := blk_frozen BK847.out 2
          have hns33_1 := NB861_847.out
          have hms33_1 := NB847_861.out
          have hs34 : w30.cell? ⟨gb847, 3, none⟩ = some (.int .i64 0) := bc_ BK847 3
          have hfs34 := blk_frozen BK847.out 3
          have hns34_1 := NB861_847.out
          have hms34_1 := NB847_861.out
          have hs35 : w30.cell? ⟨gb847, 4, none⟩ = some (.slice none 0 0) := bc_ BK847 4
          have hfs35 := blk_frozen BK847.out 4
          have hns35_1 := NB861_847.out
          have hms35_1 := NB847_861.out
          refine skip_ (w1 := ?_) (by rfl) rfl ?_ ?_
          rotate_left
          · go_simp
            rfl
          refine hK.out _ _ ⟨(cfs_ NB861_847.out (hHeld.1)), (cfs_ NB861_847.out (hHeld.2.1)), (cfs_ NB861_847.out (hHeld.2.2.1)), (cfs_ NB861_847.out (hHeld.2.2.2.1)), (cfs_ NB861_847.out (hHeld.2.2.2.2))⟩ (fun hHeld => ?_)
          clear hK K
          refine pure_ (i := 8) (N := some 3) (v := ?_) (a' := ?_) #[true, true, true, true, true, true, true, true, true, false, false, false] rfl rfl (any_of HT_.out (by kernel_rfl)) (fun _ _ _ h => h) (Or.inl ⟨by rfl, ?_⟩) ?_ ?_
          rotate_left
          · intro w'
            go_simp
            with_reducible rfl
          rotate_left
          · simp only [Act.put, List.setIfInBounds_toArray, List.set_cons_zero, List.set_cons_succ, i64_w, i32_w]
            rfl
          refine pure_ (i := 9) (N := some 4) (v := ?_) (a' := ?_) #[true, true, true, true, true, true, true, true, true, true, false, false] rfl rfl (any_of HT_.out (by kernel_rfl)) (fun _ _ _ h => h) (Or.inl ⟨by rfl, ?_⟩) ?_ ?_
          rotate_left
          · intro w'
            go_simp
            with_reducible rfl
          rotate_left
          · simp only [Act.put, List.setIfInBounds_toArray, List.set_cons_zero, List.set_cons_succ, i64_w, i32_w]
            rfl
          refine pure_ (i := 10) (N := some 5) (v := ?_) (a' := ?_) #[true, true, true, true, true, true, true, true, true, true, true, false] rfl rfl (any_of HT_.out (by kernel_rfl)) (fun _ _ _ h => h) (Or.inl ⟨by rfl, ?_⟩) ?_ ?_
          rotate_left
          · intro w'
            go_simp
            with_reducible rfl
          rotate_left
          · simp only [Act.put, List.setIfInBounds_toArray, List.set_cons_zero, List.set_cons_succ, i64_w, i32_w]
            rfl
          refine pure_ (i := 11) (N := some 6) (v := ?_) (a' := ?_) #[true, true, true, true, true, true, true, true, true, true, true, true] rfl rfl (any_of HT_.out (by kernel_rfl)) (fun _ _ _ h => h) (Or.inl ⟨by rfl, ?_⟩) ?_ ?_
          rotate_left
          · intro w'
            go_simp
            with_reducible rfl
          rotate_left
          · simp only [Act.put, List.setIfInBounds_toArray, List.set_cons_zero, List.set_cons_succ, i64_w, i32_w]
            rfl
          refine done_ (done_of HT_.out (by kernel_rfl)) ?_
          try go_wp2
          refine bodyPost_ret (results_list (rs := [.cell 2 38, .tmp 3, .tmp 4, .tmp 5, .tmp 6]) rfl (by simp) (.cell gb847 38 #[.int .i64 t852, .int .i64 t853, .int .i64 t854, .int .i64 t855, .slice Ao13 t856.length co13] (0, 0) _ rfl (bp_ BK847.out) Try.underlying38 rfl (by kernel_rfl) (.tmp (.tmp (.tmp (.tmp .nil)))))) rfl ?_
          exact ⟨_, qc8_, by (with_reducible repeat (first | apply Kd.R_alloc | apply Kd.R_drewN | apply Kd.R_drew)); exact Kd.R_mono (Kd.R_far (p := ⟨gb847, 4, none⟩) (Kd.R_far (p := ⟨gb847, 3, none⟩) (Kd.R_far (p := ⟨gb847, 2, none⟩) (Kd.R_far (p := ⟨gb847, 1, none⟩) (Kd.R_far (p := ⟨gb847, 0, none⟩) (Kd.R_types HO_862004.out BK847.out (by decide)) (fun _ hk => hk.2) (.int .i64 t852)) (fun _ hk => hk.2) (.int .i64 t853)) (fun _ hk => hk.2) (.int .i64 t854)) (fun _ hk => hk.2) (.int .i64 t855)) (fun _ hk => hk.2) (.slice Ao13 t856.length co13)) (fun _ hk => trivial), qc1_⟩
/-! ### impl_MakerAsk: function 43 -/
mutual
def impl_MakerAsk.j2 : Nat → Int → Int → Int → Int → Int → List (S_Mark) → Option (Int × Int)
  | 0, _, _, _, _, _, _ => none
  | k + 1, x2, x882000, x882001, x882002, x882003, x882004 => impl_MakerAsk.l0 k x2 x882004 (x882004.length : Int) 0
def impl_MakerAsk.l0 : Nat → Int → List (S_Mark) → Int → Int → Option (Int × Int)
  | 0, _, _, _, _ => none
  | k + 1, x2, x47, x48, x49 => if x49 < x48 then (if 0 ≤ x49 then (if x49 < (x47.length : Int) then (if ((rd_Mark x47 x49).f0) = x2 then (some (1, (rd_Mark x47 x49).f1)) else (impl_MakerAsk.l0 k x2 x47 x48 (wrap64 (x49 + 1)))) else (none)) else (none)) else (some (2, 0))
def impl_MakerAsk.j0 : Nat → Int → Int → Bool → Int → Int → Int → Int → List (S_Mark) → Option (Int × Int)
  | 0, _, _, _, _, _, _, _, _ => none
  | k + 1, x1, x2, x15, x882000, x882001, x882002, x882003, x882004 => if x15 = true then (some (0, 0)) else (if x1 > x882002 then (some (3, 0)) else (if x2 > x882003 then (impl_MakerAsk.j1 k x2 ((wrap64 (x2 - 1)) == x882003) x882000 x882001 x882002 x882003 x882004) else (impl_MakerAsk.j1 k x2 false x882000 x882001 x882002 x882003 x882004)))
def impl_MakerAsk.j1 : Nat → Int → Bool → Int → Int → Int → Int → List (S_Mark) → Option (Int × Int)
  | 0, _, _, _, _, _, _, _ => none
  | k + 1, x2, x29, x882000, x882001, x882002, x882003, x882004 => if x29 = true then (some (0, 0)) else (if x2 > x882003 then (some (3, 0)) else (impl_MakerAsk.j2 k x2 x882000 x882001 x882002 x882003 x882004))
end
def impl_MakerAsk.f (k : Nat) (a0_0 : Int) (a0_1 : Int) (a0_2 : Int) (a0_3 : Int) (l0_4 : List (S_Mark)) (a1 : Int) (a2 : Int) : Option (Int × Int) := if a1 < a0_2 then (some (4, 0)) else (if a1 > a0_2 then (impl_MakerAsk.j0 k a1 a2 (a2 == 0) a0_0 a0_1 a0_2 a0_3 l0_4) else (impl_MakerAsk.j0 k a1 a2 false a0_0 a0_1 a0_2 a0_3 l0_4))
theorem impl_MakerAsk.mono_l : ∀ k, (∀ y0 y1 y2 y3 y4 y5, LeO (impl_MakerAsk.j2 k y0 y1 y2 y3 y4 y5) (impl_MakerAsk.j2 (k + 1) y0 y1 y2 y3 y4 y5)) ∧ (∀ y0 y1 y2 y3, LeO (impl_MakerAsk.l0 k y0 y1 y2 y3) (impl_MakerAsk.l0 (k + 1) y0 y1 y2 y3)) ∧ (∀ y0 y1 y2 y3 y4 y5 y6 y7, LeO (impl_MakerAsk.j0 k y0 y1 y2 y3 y4 y5 y6 y7) (impl_MakerAsk.j0 (k + 1) y0 y1 y2 y3 y4 y5 y6 y7)) ∧ (∀ y0 y1 y2 y3 y4 y5 y6, LeO (impl_MakerAsk.j1 k y0 y1 y2 y3 y4 y5 y6) (impl_MakerAsk.j1 (k + 1) y0 y1 y2 y3 y4 y5 y6))
  | 0 => ⟨fun _ _ _ _ _ _ r h => by simp [impl_MakerAsk.j2] at h, fun _ _ _ _ r h => by simp [impl_MakerAsk.l0] at h, fun _ _ _ _ _ _ _ _ r h => by simp [impl_MakerAsk.j0] at h, fun _ _ _ _ _ _ _ r h => by simp [impl_MakerAsk.j1] at h⟩
  | k + 1 => by
    obtain ⟨ih0, ih1, ih2, ih3⟩ := impl_MakerAsk.mono_l k
    refine ⟨?_, ?_, ?_, ?_⟩
    · intro y0 y1 y2 y3 y4 y5
      unfold impl_MakerAsk.j2
      exact qch3_
    · intro y0 y1 y2 y3
      unfold impl_MakerAsk.l0
      exact qch3_
    · intro y0 y1 y2 y3 y4 y5 y6 y7
      unfold impl_MakerAsk.j0
      exact qch3_
    · intro y0 y1 y2 y3 y4 y5 y6
      unfold impl_MakerAsk.j1
      exact qch3_
theorem impl_MakerAsk.mono : ∀ a0 a1 a2 a3 a4 a5 a6 k, LeO (impl_MakerAsk.f k a0 a1 a2 a3 a4 a5 a6) (impl_MakerAsk.f (k + 1) a0 a1 a2 a3 a4 a5 a6) := by
  intro a0 a1 a2 a3 a4 a5 a6 k
  obtain ⟨ih0, ih1, ih2, ih3⟩ := impl_MakerAsk.mono_l k
  unfold impl_MakerAsk.f
  exact qch3_
set_option maxHeartbeats 8000000 in
set_option maxRecDepth 100000 in
theorem impl_MakerAsk.calls (k : Nat) (a0_0 : Int) (a0_1 : Int) (a0_2 : Int) (a0_3 : Int) (A0_4 : Option Addr) (c0_4 : Nat) (l0_4 : List (S_Mark)) (a1 : Int) (a2 : Int) (r1 : Int) (r2 : Int) (w : World) (hr0_4 : Kd.C k_Mark w A0_4 l0_4.length l0_4) (hc0_4 : l0_4.length ≤ c0_4) (h : impl_MakerAsk.f k a0_0 a0_1 a0_2 a0_3 l0_4 a1 a2 = some (r1, r2)) :
    Calls Try.prog 43 #[.agg #[.int .i64 a0_0, .int .i64 a0_1, .int .i64 a0_2, .int .i64 a0_3, .slice A0_4 l0_4.length c0_4], .int .i64 a1, .int .i64 a2] w fun e w' => e = .returned (.tuple #[.int .i64 r1, .int .i64 r2]) ∧ Below w.heap.size w w' := by
  have hu38 := Try.underlying38
  have hu110 := Try.underlying110
  have HR0_4 := Aside0.mk hr0_4
  have HC0_4 := Aside0.mk hc0_4
  clear hr0_4 hc0_4
  have HB := Aside0.mk (Below.refl w.heap.size w)
  have H : (if a1 < a0_2 then (some (4, 0)) else (if a1 > a0_2 then (impl_MakerAsk.j0 k a1 a2 (a2 == 0) a0_0 a0_1 a0_2 a0_3 l0_4) else (impl_MakerAsk.j0 k a1 a2 false a0_0 a0_1 a0_2 a0_3 l0_4))) = some (r1, r2) := h
  clear h
  have HC4 := Aside0.mk H
  clear H
  go_enter Try.func43, Try.ntmps43
  go_upto_block 0 with (first | ((with_reducible refine gate_dst (N := 3) rfl ?_); refine box_event ?hg (N := 3) ?hd (cs := #[.int .i64 a0_0, .int .i64 a0_1, .int .i64 a0_2, .int .i64 a0_3, .slice A0_4 l0_4.length c0_4]) (t := 38) ?hr ?_; (case hd => rfl); (case hg => rfl); (case hr => first | (go_simp; done) | (go_simp; rfl)); intro gb881 hg w5 hbox hb; have BK881 := Aside0.mk (hbox); have GW881 := Aside0.mk ((by rw [hg]; exact (below_size (qc2_)) : w.heap.size ≤ gb881)); have GE881 := Aside0.mk ((by rw [hg]; exact (below_size (qc2_)) : w.heap.size ≤ gb881)); replace HB := Aside0.mk (below_step (qc2_) hb); clear hb hbox hg))
  repeat (go_quiet (first | ((with_reducible refine gate_dst (N := 3) rfl ?_); refine box_event ?hg (N := 3) ?hd (cs := #[.int .i64 a0_0, .int .i64 a0_1, .int .i64 a0_2, .int .i64 a0_3, .slice A0_4 l0_4.length c0_4]) (t := 38) ?hr ?_; (case hd => rfl); (case hg => rfl); (case hr => first | (go_simp; done) | (go_simp; rfl)); intro gb881 hg w5 hbox hb; have BK881 := Aside0.mk (hbox); have GW881 := Aside0.mk ((by rw [hg]; exact (below_size (qc2_)) : w.heap.size ≤ gb881)); have GE881 := Aside0.mk ((by rw [hg]; exact (below_size (qc2_)) : w.heap.size ≤ gb881)); replace HB := Aside0.mk (below_step (qc2_) hb); clear hb hbox hg)); go_upto_block 0 with (first | ((with_reducible refine gate_dst (N := 3) rfl ?_); refine box_event ?hg (N := 3) ?hd (cs := #[.int .i64 a0_0, .int .i64 a0_1, .int .i64 a0_2, .int .i64 a0_3, .slice A0_4 l0_4.length c0_4]) (t := 38) ?hr ?_; (case hd => rfl); (case hg => rfl); (case hr => first | (go_simp; done) | (go_simp; rfl)); intro gb881 hg w5 hbox hb; have BK881 := Aside0.mk (hbox); have GW881 := Aside0.mk ((by rw [hg]; exact (below_size (qc2_)) : w.heap.size ≤ gb881)); have GE881 := Aside0.mk ((by rw [hg]; exact (below_size (qc2_)) : w.heap.size ≤ gb881)); replace HB := Aside0.mk (below_step (qc2_) hb); clear hb hbox hg)))
  (try simp only [Act.put, List.setIfInBounds_toArray, List.set_cons_zero, List.set_cons_succ])
  go_cut [] (fun wc => ∃ (kq : Nat), Aside0 (impl_MakerAsk.j2 kq a2 a0_0 a0_1 a0_2 a0_3 l0_4 = some (r1, r2)) ∧ Aside0 (kq ≤ k) ∧ Aside0 (wc.heap[gb881]? = some (.cells #[.int .i64 a0_0, .int .i64 a0_1, .int .i64 a0_2, .int .i64 a0_3, (.slice A0_4 l0_4.length c0_4)] 38 (0, 0))) ∧ Aside0 (Below w.heap.size w wc))
  case first =>
    have H := HC4.out
    clear HC4
    by_cases c6 : a1 < a0_2
    · rw [if_pos c6] at H
      have c6b0 : decide (a1 < a0_2) = true := decide_eq_true c6
      clear c6
      (first | rw [c6b0] | (simp only [i64_w, i32_w]; rw [c6b0]) | rw [c6b4] | rw [c6b3] | skip)
      simp only [Option.some.injEq, Prod.mk.injEq] at H
      obtain ⟨rfl, rfl⟩ := H
      have hcz7_0 : w5.cell? ⟨gb881, 0, none⟩ = some (.int .i64 a0_0) := bc_ BK881 0
      have hcz7_1 : w5.cell? ⟨gb881, 1, none⟩ = some (.int .i64 a0_1) := bc_ BK881 1
      have hcz7_2 : w5.cell? ⟨gb881, 2, none⟩ = some (.int .i64 a0_2) := bc_ BK881 2
      have hcz7_3 : w5.cell? ⟨gb881, 3, none⟩ = some (.int .i64 a0_3) := bc_ BK881 3
      have hcz7_4 : w5.cell? ⟨gb881, 4, none⟩ = some (.slice A0_4 l0_4.length c0_4) := bc_ BK881 4
      have hfz7_0 := blk_frozen BK881.out 0
      have hfz7_1 := blk_frozen BK881.out 1
      have hfz7_2 := blk_frozen BK881.out 2
      have hfz7_3 := blk_frozen BK881.out 3
      have hfz7_4 := blk_frozen BK881.out 4
      go_wp2
      repeat (go_quiet (fail); try go_wp2)
      go_ret2
      exact ⟨qc8_, qc0_⟩
    · rw [if_neg c6] at H
      have c6b0 : decide (a1 < a0_2) = false := decide_eq_false c6
      clear c6
      (first | rw [c6b0] | (simp only [i64_w, i32_w]; rw [c6b0]) | rw [c6b4] | rw [c6b3] | skip)
      have HC8 := Aside0.mk H
      clear H
      have hcz9_0 : w5.cell? ⟨gb881, 0, none⟩ = some (.int .i64 a0_0) := bc_ BK881 0
      have hcz9_1 : w5.cell? ⟨gb881, 1, none⟩ = some (.int .i64 a0_1) := bc_ BK881 1
      have hcz9_2 : w5.cell? ⟨gb881, 2, none⟩ = some (.int .i64 a0_2) := bc_ BK881 2
      have hcz9_3 : w5.cell? ⟨gb881, 3, none⟩ = some (.int .i64 a0_3) := bc_ BK881 3
      have hcz9_4 : w5.cell? ⟨gb881, 4, none⟩ = some (.slice A0_4 l0_4.length c0_4) := bc_ BK881 4
      have hfz9_0 := blk_frozen BK881.out 0
      have hfz9_1 := blk_frozen BK881.out 1
      have hfz9_2 := blk_frozen BK881.out 2
      have hfz9_3 := blk_frozen BK881.out 3
      have hfz9_4 := blk_frozen BK881.out 4
      go_upto_region 3 with (first | (go_quiet (exact qch0_)) | fail)
      go_cut [15] (fun v15 wc => ∃ (kq : Nat) (x15_7 : Bool), v15 = .bool x15_7 ∧ Aside0 (impl_MakerAsk.j0 kq a1 a2 x15_7 a0_0 a0_1 a0_2 a0_3 l0_4 = some (r1, r2)) ∧ Aside0 (kq ≤ k) ∧ Aside0 (wc.heap[gb881]? = some (.cells #[.int .i64 a0_0, .int .i64 a0_1, .int .i64 a0_2, .int .i64 a0_3, (.slice A0_4 l0_4.length c0_4)] 38 (0, 0))) ∧ Aside0 (Below w.heap.size w wc))
      case first =>
        have H := HC8.out
        clear HC8
        by_cases c10 : a1 > a0_2
        · rw [if_pos c10] at H
          have c10b0 : decide (a0_2 < a1) = true := decide_eq_true c10
          clear c10
          (first | rw [c10b0] | (simp only [i64_w, i32_w]; rw [c10b0]) | rw [c10b4] | rw [c10b3] | skip)
          have H' := Aside0.mk H
          clear H
          have hcz11_0 : w5.cell? ⟨gb881, 0, none⟩ = some (.int .i64 a0_0) := bc_ BK881 0
          have hcz11_1 : w5.cell? ⟨gb881, 1, none⟩ = some (.int .i64 a0_1) := bc_ BK881 1
          have hcz11_2 : w5.cell? ⟨gb881, 2, none⟩ = some (.int .i64 a0_2) := bc_ BK881 2
          have hcz11_3 : w5.cell? ⟨gb881, 3, none⟩ = some (.int .i64 a0_3) := bc_ BK881 3
          have hcz11_4 : w5.cell? ⟨gb881, 4, none⟩ = some (.slice A0_4 l0_4.length c0_4) := bc_ BK881 4
          have hfz11_0 := blk_frozen BK881.out 0
          have hfz11_1 := blk_frozen BK881.out 1
          have hfz11_2 := blk_frozen BK881.out 2
          have hfz11_3 := blk_frozen BK881.out 3
          have hfz11_4 := blk_frozen BK881.out 4
          go_wp2
          repeat (go_quiet (fail); try go_wp2)
          go_meet
          case rel => exact ⟨_, ((a2 == 0)), (qc11_), H', ⟨by first | omega | exact Nat.le_refl _⟩, ⟨bq_ BK881.out⟩, ⟨qc0_⟩⟩
        · rw [if_neg c10] at H
          have c10b0 : decide (a0_2 < a1) = false := decide_eq_false c10
          clear c10
          (first | rw [c10b0] | (simp only [i64_w, i32_w]; rw [c10b0]) | rw [c10b4] | rw [c10b3] | skip)
          have H' := Aside0.mk H
          clear H
          have hcz12_0 : w5.cell? ⟨gb881, 0, none⟩ = some (.int .i64 a0_0) := bc_ BK881 0
          have hcz12_1 : w5.cell? ⟨gb881, 1, none⟩ = some (.int .i64 a0_1) := bc_ BK881 1
          have hcz12_2 : w5.cell? ⟨gb881, 2, none⟩ = some (.int .i64 a0_2) := bc_ BK881 2
          have hcz12_3 : w5.cell? ⟨gb881, 3, none⟩ = some (.int .i64 a0_3) := bc_ BK881 3
          have hcz12_4 : w5.cell? ⟨gb881, 4, none⟩ = some (.slice A0_4 l0_4.length c0_4) := bc_ BK881 4
          have hfz12_0 := blk_frozen BK881.out 0
          have hfz12_1 := blk_frozen BK881.out 1
          have hfz12_2 := blk_frozen BK881.out 2
          have hfz12_3 := blk_frozen BK881.out 3
          have hfz12_4 := blk_frozen BK881.out 4
          go_wp2
          repeat (go_quiet (fail); try go_wp2)
          go_meet
          case rel => exact ⟨_, (false), (qc11_), H', ⟨by first | omega | exact Nat.le_refl _⟩, ⟨bq_ BK881.out⟩, ⟨qc0_⟩⟩
      case rest =>
        clear HC8
        try clear c1
        try clear p2
        try clear c4
        try clear c6
        try clear c6b0
        try clear c10
        try clear c10b0
        try clear hcz11_0
        try clear hcz11_1
        try clear hcz11_2
        try clear hcz11_3
        try clear hcz11_4
        try clear hcz12_0
        try clear hcz12_1
        try clear hcz12_2
        try clear hcz12_3
        try clear hcz12_4
        try clear hcz7_0
        try clear hcz7_1
        try clear hcz7_2
        try clear hcz7_3
        try clear hcz7_4
        try clear hcz9_0
        try clear hcz9_1
        try clear hcz9_2
        try clear hcz9_3
        try clear hcz9_4
        try clear hfz11_0
        try clear hfz11_1
        try clear hfz11_2
        try clear hfz11_3
        try clear hfz11_4
        try clear hfz12_0
        try clear hfz12_1
        try clear hfz12_2
        try clear hfz12_3
        try clear hfz12_4
        try clear hfz7_0
        try clear hfz7_1
        try clear hfz7_2
        try clear hfz7_3
        try clear hfz7_4
        try clear hfz9_0
        try clear hfz9_1
        try clear hfz9_2
        try clear hfz9_3
        try clear hfz9_4
        obtain ⟨kq, x15_7, rfl, HA, HJ7, BK881, HB⟩ := hcut
        cases kq with
        | zero => exact absurd HA.out (by simp [impl_MakerAsk.j0])
        | succ kj7 =>
          have H := HA.out
          clear HA
          simp only [impl_MakerAsk.j0] at H
          by_cases c13 : x15_7 = true
          · subst c13
            have H1 : (some (0, 0)) = some (r1, r2) := by rw [if_pos rfl] at H; exact H
            clear H
            have H := H1
            clear H1
            simp only [Option.some.injEq, Prod.mk.injEq] at H
            obtain ⟨rfl, rfl⟩ := H
            go_wp2
            repeat (go_quiet (fail); try go_wp2)
            go_ret2
            exact ⟨qc8_, qc0_⟩
          · replace c13 := Bool.eq_false_iff.mpr c13
            subst c13
            have H1 : (if a1 > a0_2 then (some (3, 0)) else (if a2 > a0_3 then (impl_MakerAsk.j1 kj7 a2 ((wrap64 (a2 - 1)) == a0_3) a0_0 a0_1 a0_2 a0_3 l0_4) else (impl_MakerAsk.j1 kj7 a2 false a0_0 a0_1 a0_2 a0_3 l0_4))) = some (r1, r2) := by rw [if_neg (show ¬ (false = true) by decide)] at H; exact H
            clear H
            have H := H1
            clear H1
            by_cases c14 : a1 > a0_2
            · rw [if_pos c14] at H
              have c14b0 : decide (a0_2 < a1) = true := decide_eq_true c14
              clear c14
              simp only [Option.some.injEq, Prod.mk.injEq] at H
              obtain ⟨rfl, rfl⟩ := H
              have hcz15_0 : wc.cell? ⟨gb881, 0, none⟩ = some (.int .i64 a0_0) := bc_ BK881 0
              have hcz15_1 : wc.cell? ⟨gb881, 1, none⟩ = some (.int .i64 a0_1) := bc_ BK881 1
              have hcz15_2 : wc.cell? ⟨gb881, 2, none⟩ = some (.int .i64 a0_2) := bc_ BK881 2
              have hcz15_3 : wc.cell? ⟨gb881, 3, none⟩ = some (.int .i64 a0_3) := bc_ BK881 3
              have hcz15_4 : wc.cell? ⟨gb881, 4, none⟩ = some (.slice A0_4 l0_4.length c0_4) := bc_ BK881 4
              have hfz15_0 := blk_frozen BK881.out 0
              have hfz15_1 := blk_frozen BK881.out 1
              have hfz15_2 := blk_frozen BK881.out 2
              have hfz15_3 := blk_frozen BK881.out 3
              have hfz15_4 := blk_frozen BK881.out 4
              go_wp2
              repeat (go_quiet (fail); try go_wp2)
              go_ret2
              exact ⟨qc8_, qc0_⟩
            · rw [if_neg c14] at H
              have c14b0 : decide (a0_2 < a1) = false := decide_eq_false c14
              clear c14
              have HC16 := Aside0.mk H
              clear H
              have hcz17_0 : wc.cell? ⟨gb881, 0, none⟩ = some (.int .i64 a0_0) := bc_ BK881 0
              have hcz17_1 : wc.cell? ⟨gb881, 1, none⟩ = some (.int .i64 a0_1) := bc_ BK881 1
              have hcz17_2 : wc.cell? ⟨gb881, 2, none⟩ = some (.int .i64 a0_2) := bc_ BK881 2
              have hcz17_3 : wc.cell? ⟨gb881, 3, none⟩ = some (.int .i64 a0_3) := bc_ BK881 3
              have hcz17_4 : wc.cell? ⟨gb881, 4, none⟩ = some (.slice A0_4 l0_4.length c0_4) := bc_ BK881 4
              have hfz17_0 := blk_frozen BK881.out 0
              have hfz17_1 := blk_frozen BK881.out 1
              have hfz17_2 := blk_frozen BK881.out 2
              have hfz17_3 := blk_frozen BK881.out 3
              have hfz17_4 := blk_frozen BK881.out 4
              go_upto_region 7 with (first | (go_quiet (exact qch1_)) | fail)
              go_cut [29] (fun v29 wc => ∃ (kq : Nat) (x29_15 : Bool), v29 = .bool x29_15 ∧ Aside0 (impl_MakerAsk.j1 kq a2 x29_15 a0_0 a0_1 a0_2 a0_3 l0_4 = some (r1, r2)) ∧ Aside0 (kq ≤ kj7) ∧ Aside0 (wc.heap[gb881]? = some (.cells #[.int .i64 a0_0, .int .i64 a0_1, .int .i64 a0_2, .int .i64 a0_3, (.slice A0_4 l0_4.length c0_4)] 38 (0, 0))) ∧ Aside0 (Below w.heap.size w wc))
              case first =>
                have H := HC16.out
                clear HC16
                by_cases c18 : a2 > a0_3
                · rw [if_pos c18] at H
                  have c18b0 : decide (a0_3 < a2) = true := decide_eq_true c18
                  clear c18
                  (first | rw [c18b0] | (simp only [i64_w, i32_w]; rw [c18b0]) | rw [c18b4] | rw [c18b3] | skip)
                  have H' := Aside0.mk H
                  clear H
                  have hcz19_0 : wc.cell? ⟨gb881, 0, none⟩ = some (.int .i64 a0_0) := bc_ BK881 0
                  have hcz19_1 : wc.cell? ⟨gb881, 1, none⟩ = some (.int .i64 a0_1) := bc_ BK881 1
                  have hcz19_2 : wc.cell? ⟨gb881, 2, none⟩ = some (.int .i64 a0_2) := bc_ BK881 2
                  have hcz19_3 : wc.cell? ⟨gb881, 3, none⟩ = some (.int .i64 a0_3) := bc_ BK881 3
                  have hcz19_4 : wc.cell? ⟨gb881, 4, none⟩ = some (.slice A0_4 l0_4.length c0_4) := bc_ BK881 4
                  have hfz19_0 := blk_frozen BK881.out 0
                  have hfz19_1 := blk_frozen BK881.out 1
                  have hfz19_2 := blk_frozen BK881.out 2
                  have hfz19_3 := blk_frozen BK881.out 3
                  have hfz19_4 := blk_frozen BK881.out 4
                  go_wp2
                  repeat (go_quiet (fail); try go_wp2)
                  go_meet
                  case rel => exact ⟨_, (((wrap64 (a2 - 1)) == a0_3)), (qc11_), H', ⟨by have := HJ7.out; first | omega | exact Nat.le_refl _⟩, ⟨bq_ BK881.out⟩, ⟨qc0_⟩⟩
                · rw [if_neg c18] at H
                  have c18b0 : decide (a0_3 < a2) = false := decide_eq_false c18
                  clear c18
                  (first | rw [c18b0] | (simp only [i64_w, i32_w]; rw [c18b0]) | rw [c18b4] | rw [c18b3] | skip)
                  have H' := Aside0.mk H
                  clear H
                  have hcz20_0 : wc.cell? ⟨gb881, 0, none⟩ = some (.int .i64 a0_0) := bc_ BK881 0
                  have hcz20_1 : wc.cell? ⟨gb881, 1, none⟩ = some (.int .i64 a0_1) := bc_ BK881 1
                  have hcz20_2 : wc.cell? ⟨gb881, 2, none⟩ = some (.int .i64 a0_2) := bc_ BK881 2
                  have hcz20_3 : wc.cell? ⟨gb881, 3, none⟩ = some (.int .i64 a0_3) := bc_ BK881 3
                  have hcz20_4 : wc.cell? ⟨gb881, 4, none⟩ = some (.slice A0_4 l0_4.length c0_4) := bc_ BK881 4
                  have hfz20_0 := blk_frozen BK881.out 0
                  have hfz20_1 := blk_frozen BK881.out 1
                  have hfz20_2 := blk_frozen BK881.out 2
                  have hfz20_3 := blk_frozen BK881.out 3
                  have hfz20_4 := blk_frozen BK881.out 4
                  go_wp2
                  repeat (go_quiet (fail); try go_wp2)
                  go_meet
                  case rel => exact ⟨_, (false), (qc11_), H', ⟨by have := HJ7.out; first | omega | exact Nat.le_refl _⟩, ⟨bq_ BK881.out⟩, ⟨qc0_⟩⟩
              case rest =>
                clear HC16
                try clear c1
                try clear p2
                try clear c4
                try clear c6
                try clear c6b0
                try clear p6
                try clear c10
                try clear c10b0
                try clear c13
                try clear c14
                try clear c14b0
                try clear c18
                try clear c18b0
                try clear hcz11_0
                try clear hcz11_1
                try clear hcz11_2
                try clear hcz11_3
                try clear hcz11_4
                try clear hcz12_0
                try clear hcz12_1
                try clear hcz12_2
                try clear hcz12_3
                try clear hcz12_4
                try clear hcz15_0
                try clear hcz15_1
                try clear hcz15_2
                try clear hcz15_3
                try clear hcz15_4
                try clear hcz17_0
                try clear hcz17_1
                try clear hcz17_2
                try clear hcz17_3
                try clear hcz17_4
                try clear hcz19_0
                try clear hcz19_1
                try clear hcz19_2
                try clear hcz19_3
                try clear hcz19_4
                try clear hcz20_0
                try clear hcz20_1
                try clear hcz20_2
                try clear hcz20_3
                try clear hcz20_4
                try clear hcz7_0
                try clear hcz7_1
                try clear hcz7_2
                try clear hcz7_3
                try clear hcz7_4
                try clear hcz9_0
                try clear hcz9_1
                try clear hcz9_2
                try clear hcz9_3
                try clear hcz9_4
                try clear hfz11_0
                try clear hfz11_1
                try clear hfz11_2
                try clear hfz11_3
                try clear hfz11_4
                try clear hfz12_0
                try clear hfz12_1
                try clear hfz12_2
                try clear hfz12_3
                try clear hfz12_4
                try clear hfz15_0
                try clear hfz15_1
                try clear hfz15_2
                try clear hfz15_3
                try clear hfz15_4
                try clear hfz17_0
                try clear hfz17_1
                try clear hfz17_2
                try clear hfz17_3
                try clear hfz17_4
                try clear hfz19_0
                try clear hfz19_1
                try clear hfz19_2
                try clear hfz19_3
                try clear hfz19_4
                try clear hfz20_0
                try clear hfz20_1
                try clear hfz20_2
                try clear hfz20_3
                try clear hfz20_4
                try clear hfz7_0
                try clear hfz7_1
                try clear hfz7_2
                try clear hfz7_3
                try clear hfz7_4
                try clear hfz9_0
                try clear hfz9_1
                try clear hfz9_2
                try clear hfz9_3
                try clear hfz9_4
                try clear p2
                obtain ⟨kq, x29_15, rfl, HA, HJ15, BK881, HB⟩ := hcut
                cases kq with
                | zero => exact absurd HA.out (by simp [impl_MakerAsk.j1])
                | succ kj15 =>
                  have H := HA.out
                  clear HA
                  simp only [impl_MakerAsk.j1] at H
                  by_cases c21 : x29_15 = true
                  · subst c21
                    have H1 : (some (0, 0)) = some (r1, r2) := by rw [if_pos rfl] at H; exact H
                    clear H
                    have H := H1
                    clear H1
                    simp only [Option.some.injEq, Prod.mk.injEq] at H
                    obtain ⟨rfl, rfl⟩ := H
                    go_wp2
                    repeat (go_quiet (fail); try go_wp2)
                    go_ret2
                    exact ⟨qc8_, qc0_⟩
                  · replace c21 := Bool.eq_false_iff.mpr c21
                    subst c21
                    have H1 : (if a2 > a0_3 then (some (3, 0)) else (impl_MakerAsk.j2 kj15 a2 a0_0 a0_1 a0_2 a0_3 l0_4)) = some (r1, r2) := by rw [if_neg (show ¬ (false = true) by decide)] at H; exact H
                    clear H
                    have H := H1
                    clear H1
                    by_cases c22 : a2 > a0_3
                    · rw [if_pos c22] at H
                      have c22b0 : decide (a0_3 < a2) = true := decide_eq_true c22
                      clear c22
                      simp only [Option.some.injEq, Prod.mk.injEq] at H
                      obtain ⟨rfl, rfl⟩ := H
                      have hcz23_0 : wc.cell? ⟨gb881, 0, none⟩ = some (.int .i64 a0_0) := bc_ BK881 0
                      have hcz23_1 : wc.cell? ⟨gb881, 1, none⟩ = some (.int .i64 a0_1) := bc_ BK881 1
                      have hcz23_2 : wc.cell? ⟨gb881, 2, none⟩ = some (.int .i64 a0_2) := bc_ BK881 2
                      have hcz23_3 : wc.cell? ⟨gb881, 3, none⟩ = some (.int .i64 a0_3) := bc_ BK881 3
                      have hcz23_4 : wc.cell? ⟨gb881, 4, none⟩ = some (.slice A0_4 l0_4.length c0_4) := bc_ BK881 4
                      have hfz23_0 := blk_frozen BK881.out 0
                      have hfz23_1 := blk_frozen BK881.out 1
                      have hfz23_2 := blk_frozen BK881.out 2
                      have hfz23_3 := blk_frozen BK881.out 3
                      have hfz23_4 := blk_frozen BK881.out 4
                      go_wp2
                      repeat (go_quiet (fail); try go_wp2)
                      go_ret2
                      exact ⟨qc8_, qc0_⟩
                    · rw [if_neg c22] at H
                      have c22b0 : decide (a0_3 < a2) = false := decide_eq_false c22
                      clear c22
                      have H' := Aside0.mk H
                      clear H
                      have hcz24_0 : wc.cell? ⟨gb881, 0, none⟩ = some (.int .i64 a0_0) := bc_ BK881 0
                      have hcz24_1 : wc.cell? ⟨gb881, 1, none⟩ = some (.int .i64 a0_1) := bc_ BK881 1
                      have hcz24_2 : wc.cell? ⟨gb881, 2, none⟩ = some (.int .i64 a0_2) := bc_ BK881 2
                      have hcz24_3 : wc.cell? ⟨gb881, 3, none⟩ = some (.int .i64 a0_3) := bc_ BK881 3
                      have hcz24_4 : wc.cell? ⟨gb881, 4, none⟩ = some (.slice A0_4 l0_4.length c0_4) := bc_ BK881 4
                      have hfz24_0 := blk_frozen BK881.out 0
                      have hfz24_1 := blk_frozen BK881.out 1
                      have hfz24_2 := blk_frozen BK881.out 2
                      have hfz24_3 := blk_frozen BK881.out 3
                      have hfz24_4 := blk_frozen BK881.out 4
                      go_wp2
                      repeat (go_quiet (fail); try go_wp2)
                      go_meet
                      case rel => exact ⟨_, H', ⟨by have := HJ7.out; have := HJ15.out; first | omega | exact Nat.le_refl _⟩, ⟨bq_ BK881.out⟩, ⟨qc0_⟩⟩
  case rest =>
    clear HC4
    try clear c1
    try clear c2
    try clear p2
    try clear c4
    try clear c6
    try clear c6b0
    try clear p6
    try clear c10
    try clear c10b0
    try clear c13
    try clear c14
    try clear c14b0
    try clear c18
    try clear c18b0
    try clear c21
    try clear c22
    try clear c22b0
    try clear hcz11_0
    try clear hcz11_1
    try clear hcz11_2
    try clear hcz11_3
    try clear hcz11_4
    try clear hcz12_0
    try clear hcz12_1
    try clear hcz12_2
    try clear hcz12_3
    try clear hcz12_4
    try clear hcz15_0
    try clear hcz15_1
    try clear hcz15_2
    try clear hcz15_3
    try clear hcz15_4
    try clear hcz17_0
    try clear hcz17_1
    try clear hcz17_2
    try clear hcz17_3
    try clear hcz17_4
    try clear hcz19_0
    try clear hcz19_1
    try clear hcz19_2
    try clear hcz19_3
    try clear hcz19_4
    try clear hcz20_0
    try clear hcz20_1
    try clear hcz20_2
    try clear hcz20_3
    try clear hcz20_4
    try clear hcz23_0
    try clear hcz23_1
    try clear hcz23_2
    try clear hcz23_3
    try clear hcz23_4
    try clear hcz24_0
    try clear hcz24_1
    try clear hcz24_2
    try clear hcz24_3
    try clear hcz24_4
    try clear hcz7_0
    try clear hcz7_1
    try clear hcz7_2
    try clear hcz7_3
    try clear hcz7_4
    try clear hcz9_0
    try clear hcz9_1
    try clear hcz9_2
    try clear hcz9_3
    try clear hcz9_4
    try clear hfz11_0
    try clear hfz11_1
    try clear hfz11_2
    try clear hfz11_3
    try clear hfz11_4
    try clear hfz12_0
    try clear hfz12_1
    try clear hfz12_2
    try clear hfz12_3
    try clear hfz12_4
    try clear hfz15_0
    try clear hfz15_1
    try clear hfz15_2
    try clear hfz15_3
    try clear hfz15_4
    try clear hfz17_0
    try clear hfz17_1
    try clear hfz17_2
    try clear hfz17_3
    try clear hfz17_4
    try clear hfz19_0
    try clear hfz19_1
    try clear hfz19_2
    try clear hfz19_3
    try clear hfz19_4
    try clear hfz20_0
    try clear hfz20_1
    try clear hfz20_2
    try clear hfz20_3
    try clear hfz20_4
    try clear hfz23_0
    try clear hfz23_1
    try clear hfz23_2
    try clear hfz23_3
    try clear hfz23_4
    try clear hfz24_0
    try clear hfz24_1
    try clear hfz24_2
    try clear hfz24_3
    try clear hfz24_4
    try clear hfz7_0
    try clear hfz7_1
    try clear hfz7_2
    try clear hfz7_3
    try clear hfz7_4
    try clear hfz9_0
    try clear hfz9_1
    try clear hfz9_2
    try clear hfz9_3
    try clear hfz9_4
    try clear p2
    try clear p6
    obtain ⟨kq, HA, HJ3, BK881, HB⟩ := hcut
    cases kq with
    | zero => exact absurd HA.out (by simp [impl_MakerAsk.j2])
    | succ kj3 =>
      have H := HA.out
      clear HA
      simp only [impl_MakerAsk.j2] at H
      have H' := Aside0.mk H
      clear H
      have hcz25_0 : wc.cell? ⟨gb881, 0, none⟩ = some (.int .i64 a0_0) := bc_ BK881 0
      have hcz25_1 : wc.cell? ⟨gb881, 1, none⟩ = some (.int .i64 a0_1) := bc_ BK881 1
      have hcz25_2 : wc.cell? ⟨gb881, 2, none⟩ = some (.int .i64 a0_2) := bc_ BK881 2
      have hcz25_3 : wc.cell? ⟨gb881, 3, none⟩ = some (.int .i64 a0_3) := bc_ BK881 3
      have hcz25_4 : wc.cell? ⟨gb881, 4, none⟩ = some (.slice A0_4 l0_4.length c0_4) := bc_ BK881 4
      have hfz25_0 := blk_frozen BK881.out 0
      have hfz25_1 := blk_frozen BK881.out 1
      have hfz25_2 := blk_frozen BK881.out 2
      have hfz25_3 := blk_frozen BK881.out 3
      have hfz25_4 := blk_frozen BK881.out 4
      go_wp2
      repeat (go_quiet (fail); try go_wp2)
      go_loopg [49] kj3 (fun kq v49 w' => ∃ (x49_2 : Int), v49 = .int .i64 x49_2 ∧ Aside0 (impl_MakerAsk.l0 kq a2 l0_4 (l0_4.length : Int) x49_2 = some (r1, r2)) ∧ Aside0 (kq ≤ kj3) ∧ Aside0 (w'.heap[gb881]? = some (.cells #[.int .i64 a0_0, .int .i64 a0_1, .int .i64 a0_2, .int .i64 a0_3, (.slice A0_4 l0_4.length c0_4)] 38 (0, 0))) ∧ Aside0 (Below w.heap.size w w'))
      case atStart => exact ⟨(0), (qc11_), H', ⟨Nat.le_refl _⟩, ⟨bq_ BK881.out⟩, ⟨qc0_⟩⟩
      case round =>
        clear H'
        try clear c1
        try clear c2
        try clear p2
        try clear c4
        try clear c6
        try clear c6b0
        try clear p6
        try clear c10
        try clear c10b0
        try clear c13
        try clear c14
        try clear c14b0
        try clear c18
        try clear c18b0
        try clear c21
        try clear c22
        try clear c22b0
        try clear hcz11_0
        try clear hcz11_1
        try clear hcz11_2
        try clear hcz11_3
        try clear hcz11_4
        try clear hcz12_0
        try clear hcz12_1
        try clear hcz12_2
        try clear hcz12_3
        try clear hcz12_4
        try clear hcz15_0
        try clear hcz15_1
        try clear hcz15_2
        try clear hcz15_3
        try clear hcz15_4
        try clear hcz17_0
        try clear hcz17_1
        try clear hcz17_2
        try clear hcz17_3
        try clear hcz17_4
        try clear hcz19_0
        try clear hcz19_1
        try clear hcz19_2
        try clear hcz19_3
        try clear hcz19_4
        try clear hcz20_0
        try clear hcz20_1
        try clear hcz20_2
        try clear hcz20_3
        try clear hcz20_4
        try clear hcz23_0
        try clear hcz23_1
        try clear hcz23_2
        try clear hcz23_3
        try clear hcz23_4
        try clear hcz24_0
        try clear hcz24_1
        try clear hcz24_2
        try clear hcz24_3
        try clear hcz24_4
        try clear hcz25_0
        try clear hcz25_1
        try clear hcz25_2
        try clear hcz25_3
        try clear hcz25_4
        try clear hcz7_0
        try clear hcz7_1
        try clear hcz7_2
        try clear hcz7_3
        try clear hcz7_4
        try clear hcz9_0
        try clear hcz9_1
        try clear hcz9_2
        try clear hcz9_3
        try clear hcz9_4
        try clear hfz11_0
        try clear hfz11_1
        try clear hfz11_2
        try clear hfz11_3
        try clear hfz11_4
        try clear hfz12_0
        try clear hfz12_1
        try clear hfz12_2
        try clear hfz12_3
        try clear hfz12_4
        try clear hfz15_0
        try clear hfz15_1
        try clear hfz15_2
        try clear hfz15_3
        try clear hfz15_4
        try clear hfz17_0
        try clear hfz17_1
        try clear hfz17_2
        try clear hfz17_3
        try clear hfz17_4
        try clear hfz19_0
        try clear hfz19_1
        try clear hfz19_2
        try clear hfz19_3
        try clear hfz19_4
        try clear hfz20_0
        try clear hfz20_1
        try clear hfz20_2
        try clear hfz20_3
        try clear hfz20_4
        try clear hfz23_0
        try clear hfz23_1
        try clear hfz23_2
        try clear hfz23_3
        try clear hfz23_4
        try clear hfz24_0
        try clear hfz24_1
        try clear hfz24_2
        try clear hfz24_3
        try clear hfz24_4
        try clear hfz25_0
        try clear hfz25_1
        try clear hfz25_2
        try clear hfz25_3
        try clear hfz25_4
        try clear hfz7_0
        try clear hfz7_1
        try clear hfz7_2
        try clear hfz7_3
        try clear hfz7_4
        try clear hfz9_0
        try clear hfz9_1
        try clear hfz9_2
        try clear hfz9_3
        try clear hfz9_4
        try clear p2
        try clear p6
        obtain ⟨x49_2, rfl, HA, HK2, BK881, HB⟩ := hrel
        cases gk with
        | zero => exact absurd HA.out (by simp [impl_MakerAsk.l0])
        | succ k2 =>
          have H := HA.out
          clear HA
          simp only [impl_MakerAsk.l0] at H
          by_cases c26 : x49_2 < (l0_4.length : Int)
          · rw [if_pos c26] at H
            have c26b0 : decide (x49_2 < (l0_4.length : Int)) = true := decide_eq_true c26
            clear c26
            by_cases c27 : 0 ≤ x49_2
            · rw [if_pos c27] at H
              have c27b0 : decide (0 ≤ x49_2) = true := decide_eq_true c27
              clear c27
              by_cases c28 : x49_2 < (l0_4.length : Int)
              · rw [if_pos c28] at H
                have c28b0 : decide (x49_2 < (l0_4.length : Int)) = true := decide_eq_true c28
                clear c28
                by_cases c29 : ((rd_Mark l0_4 x49_2).f0) = a2
                · rw [if_pos c29] at H
                  have c29b0 : (((rd_Mark l0_4 x49_2).f0) == a2) = true := beq_iff_eq.mpr c29
                  have c29b1 : (((rd_Mark l0_4 x49_2).f0) != a2) = false := bne_eq_false_iff_eq.mpr c29
                  clear c29
                  simp only [Option.some.injEq, Prod.mk.injEq] at H
                  obtain ⟨rfl, rfl⟩ := H
                  have p882 : 0 ≤ (x49_2 : Int) := of_decide_eq_true dt_
                  have q882 : x49_2 < (l0_4.length : Int) := of_decide_eq_true dt_
                  obtain ⟨ad882, e882, hx882_0, hx882_1⟩ := at_Mark HR0_4.out x49_2 p882 q882
                  cases e882
                  replace hx882_0 := hc_ HB hx882_0
                  replace hx882_1 := hc_ HB hx882_1
                  replace p882 := eq_true p882
                  replace q882 := eq_true q882
                  go_wp2_with (first | (go_quiet (fail)) | ((with_reducible refine gate_dst (N := 9) rfl ?_); refine box_event ?hg (N := 9) ?hd (cs := #[.int .i64 0, .int .i64 0]) (t := 110) ?hr ?_; (case hd => rfl); (case hg => rfl); (case hr => first | (go_simp; done) | (go_simp; rfl)); intro gb883 hg w30 hbox hb; have BK883 := Aside0.mk (hbox); have GW883 := Aside0.mk ((by rw [hg]; exact (below_size (qc0_)) : w.heap.size ≤ gb883)); have GE883 := Aside0.mk ((by rw [hg]; exact (below_size (qc0_)) : w.heap.size ≤ gb883)); have NB881_883 := Aside0.mk ((by rw [hg]; exact Nat.ne_of_lt (blk_lt (g := gb881) (o := .cells #[.int .i64 a0_0, .int .i64 a0_1, .int .i64 a0_2, .int .i64 a0_3, .slice (some ad882) l0_4.length c0_4] 38 (0, 0)) (bq_ BK881.out)) : gb881 ≠ gb883)); have NB883_881 := Aside0.mk ((by rw [hg]; exact Nat.ne_of_gt (blk_lt (g := gb881) (o := .cells #[.int .i64 a0_0, .int .i64 a0_1, .int .i64 a0_2, .int .i64 a0_3, .slice (some ad882) l0_4.length c0_4] 38 (0, 0)) (bq_ BK881.out)) : gb883 ≠ gb881)); replace BK881 := Aside0.mk (blk_below (g := gb881) (o := .cells #[.int .i64 a0_0, .int .i64 a0_1, .int .i64 a0_2, .int .i64 a0_3, .slice (some ad882) l0_4.length c0_4] 38 (0, 0)) (bq_ BK881.out) hb); replace HB := Aside0.mk (below_step (qc0_) hb); clear hb hbox hg; have hnb31 := NB883_881.out; have hnc31 := NB881_883.out; have hcz32_0 : w30.cell? ⟨gb883, 0, none⟩ = some (.int .i64 0) := bc_ BK883 0; have hcz32_1 : w30.cell? ⟨gb883, 1, none⟩ = some (.int .i64 0) := bc_ BK883 1; have hfz32_0 := blk_frozen BK883.out 0; have hfz32_1 := blk_frozen BK883.out 1))
                  go_ret2
                  exact ⟨qc8_, qc12_⟩
                · rw [if_neg c29] at H
                  have c29b0 : (((rd_Mark l0_4 x49_2).f0) == a2) = false := beq_eq_false_iff_ne.mpr c29
                  have c29b1 : (((rd_Mark l0_4 x49_2).f0) != a2) = true := bne_iff_ne.mpr c29
                  have H' := Aside0.mk H
                  clear H
                  have p882 : 0 ≤ (x49_2 : Int) := of_decide_eq_true dt_
                  have q882 : x49_2 < (l0_4.length : Int) := of_decide_eq_true dt_
                  obtain ⟨ad882, e882, hx882_0, hx882_1⟩ := at_Mark HR0_4.out x49_2 p882 q882
                  cases e882
                  replace hx882_0 := hc_ HB hx882_0
                  replace hx882_1 := hc_ HB hx882_1
                  replace p882 := eq_true p882
                  replace q882 := eq_true q882
                  go_wp2_with (first | (go_quiet (fail)) | ((with_reducible refine gate_dst (N := 9) rfl ?_); refine box_event ?hg (N := 9) ?hd (cs := #[.int .i64 0, .int .i64 0]) (t := 110) ?hr ?_; (case hd => rfl); (case hg => rfl); (case hr => first | (go_simp; done) | (go_simp; rfl)); intro gb883 hg w33 hbox hb; have BK883 := Aside0.mk (hbox); have GW883 := Aside0.mk ((by rw [hg]; exact (below_size (qc0_)) : w.heap.size ≤ gb883)); have GE883 := Aside0.mk ((by rw [hg]; exact (below_size (qc0_)) : w.heap.size ≤ gb883)); have NB881_883 := Aside0.mk ((by rw [hg]; exact Nat.ne_of_lt (blk_lt (g := gb881) (o := .cells #[.int .i64 a0_0, .int .i64 a0_1, .int .i64 a0_2, .int .i64 a0_3, .slice (some ad882) l0_4.length c0_4] 38 (0, 0)) (bq_ BK881.out)) : gb881 ≠ gb883)); have NB883_881 := Aside0.mk ((by rw [hg]; exact Nat.ne_of_gt (blk_lt (g := gb881) (o := .cells #[.int .i64 a0_0, .int .i64 a0_1, .int .i64 a0_2, .int .i64 a0_3, .slice (some ad882) l0_4.length c0_4] 38 (0, 0)) (bq_ BK881.out)) : gb883 ≠ gb881)); replace BK881 := Aside0.mk (blk_below (g := gb881) (o := .cells #[.int .i64 a0_0, .int .i64 a0_1, .int .i64 a0_2, .int .i64 a0_3, .slice (some ad882) l0_4.length c0_4] 38 (0, 0)) (bq_ BK881.out) hb); replace HB := Aside0.mk (below_step (qc0_) hb); clear hb hbox hg; have hnb34 := NB883_881.out; have hnc34 := NB881_883.out; have hcz35_0 : w33.cell? ⟨gb883, 0, none⟩ = some (.int .i64 0) := bc_ BK883 0; have hcz35_1 : w33.cell? ⟨gb883, 1, none⟩ = some (.int .i64 0) := bc_ BK883 1; have hfz35_0 := blk_frozen BK883.out 0; have hfz35_1 := blk_frozen BK883.out 1))
                  go_roundg k2
                  case measure => have := HJ3.out; have := HK2.out; omega
                  case rel => exact ⟨(wrap64 (x49_2 + 1)), (qc11_), H', ⟨by have := HJ3.out; have := HK2.out; omega⟩, ⟨bf_ NB881_883.out BK881.out⟩, ⟨qc12_⟩⟩
              · rw [if_neg c28] at H
                exact absurd H (by simp)
            · rw [if_neg c27] at H
              exact absurd H (by simp)
          · rw [if_neg c26] at H
            have c26b0 : decide (x49_2 < (l0_4.length : Int)) = false := decide_eq_false c26
            clear c26
            simp only [Option.some.injEq, Prod.mk.injEq] at H
            obtain ⟨rfl, rfl⟩ := H
            go_wp2
            repeat (go_quiet (fail); try go_wp2)
            go_ret2
            exact ⟨qc8_, qc0_⟩
end Go.Proofs.Ythmjhhkheohgfaa.Q
