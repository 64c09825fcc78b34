/- Made by a program of ours out of the print of the loaded functions: for each of some functions a plain function, and the walk that shows that a call comes to what it says. No condition but those of each theorem. -/
import Derived.Test.YthmjhhkheohgfaaZXKeepNew0
import Derived.Test.YthmjhhkheohgfaaZXKeepNewa
import Derived.Test.YthmjhhkheohgfaaZXKeepNewb
import Derived.Test.YthmjhhkheohgfaaZXKeepNewd
import Derived.Test.YthmjhhkheohgfaaZXKeepNewe
namespace Go.Proofs.Ythmjhhkheohgfaa.Q
open Go.RowKit Go.Proofs.YthmjhhkheohgfaaW.PrintWords Go.Proofs.YthmjhhkheohgfaaW.PrintLast Go.Proofs.YthmjhhkheohgfaaW.PrintMore
attribute [local go_sem] max2_int min2_int max_two min_two max_three min_three max_four min_four   -- for this text's walks alone
set_option linter.unusedVariables false
set_option linter.unusedSimpArgs false
theorem qf0_ {P : Prop} (h : P := by repeat (first | (with_reducible first | exact HB.out | apply below_alloc | apply pw_below_drewN | apply below_drew1) | exact HB.out)) : P := h
theorem qf1_ {P : Prop} (h : P := by repeat (first | (with_reducible first | exact HB.out | apply below_alloc | apply pw_below_drewN | apply below_drew1 | refine below_set ?_ GE272.out) | exact HB.out)) : P := h
theorem qf2_ {P : Prop} (h : P := by (try simp only [List.map_toArray, List.map_cons, List.map_nil]); first | done | rfl | (simp only [List.length_drop, List.length_take]; rfl)) : P := h
theorem qf3_ {P : Prop} (h : P := by first | rfl | (simp [errW_none, errW_some] <;> rfl) | (simp [*, errW_none, errW_some] <;> rfl)) : P := h
theorem qf4_ {P : Prop} (h : P := by rw [hw]; exact (below_set (below_set (below_set (below_set (below_set (below_set BA.out (Nat.le_of_eq GA.out.symm)) (Nat.le_of_eq GA.out.symm)) (Nat.le_of_eq GA.out.symm)) (Nat.le_of_eq GA.out.symm)) (Nat.le_of_eq GA.out.symm)) (Nat.le_of_eq GA.out.symm))) : P := h
theorem qf5_ {P : Prop} (h : P := by intro q_ hq_; rw [List.mem_singleton.1 hq_]; rfl) : P := h
theorem qf6_ {P : Prop} (h : P := by rw [hw]; exact (blk_put (blk_put (blk_put (blk_put (blk_put (blk_put KA.out 0 _ rfl) 1 _ rfl) 2 _ rfl) 3 _ rfl) 4 _ rfl) 5 _ rfl)) : P := h
theorem qf7_ {P : Prop} (h : P := by rw [hw]; exact below_set HB.out GB.out) : P := h
theorem qf8_ {P : Prop} (h : P := by first | rfl | (simp; done) | (simp [*]; done)) : P := h
theorem qfh0_ {P : Prop} (h : P := by repeat' first | (with_reducible exact ih0 _ _ _) | (with_reducible exact laws_markText.mono _ _) | (with_reducible exact LeO.refl _) | (with_reducible exact LeO.none _) | (with_reducible refine LeO.ite ?_ ?_) | (with_reducible refine LeO.bind ?_ (fun _ => ?_)) | exact ih0 _ _ _ | exact laws_markText.mono _ _ | exact LeO.none _ | refine LeO.ite ?_ ?_ | refine LeO.bind ?_ (fun _ => ?_)) : P := h

/-! ### laws_heldAnswerS: function 95 -/
def laws_heldAnswerS.l0 : Nat → List (S_Answer) → Int → Int → Option (Int)
  | 0, _, _, _ => none
  | k + 1, x0, x1, x5 => if x5 < (x0.length : Int) then (if 0 ≤ x5 then (if ((rd_Answer x0 x5).f0) = x1 then (if ((rd_Answer x0 x5).f1) = (wrap64 (x1 + 1)) then ((laws_markText.f k (wrap64 ((wrap64 (x1 + 1)) + 1))).bind fun t269 => (if ((rd_Answer x0 x5).f2).toList = t269.toList then ((laws_markText.f k (wrap64 ((wrap64 ((wrap64 (x1 + 1)) + 1)) + 1))).bind fun t271 => (if ((rd_Answer x0 x5).f3).toList = t271.toList then (laws_heldAnswerS.l0 k x0 (wrap64 ((wrap64 ((wrap64 ((wrap64 (x1 + 1)) + 1)) + 1)) + 1)) (wrap64 (x5 + 1))) else (some (-1)))) else (some (-1)))) else (some (-1))) else (some (-1))) else (none)) else (some x1)
def laws_heldAnswerS.f (k : Nat) (l0 : List (S_Answer)) (a1 : Int) : Option (Int) := laws_heldAnswerS.l0 k l0 a1 0
theorem laws_heldAnswerS.mono_l : ∀ k, (∀ y0 y1 y2, LeO (laws_heldAnswerS.l0 k y0 y1 y2) (laws_heldAnswerS.l0 (k + 1) y0 y1 y2))
  | 0 => fun _ _ _ r h => by simp [laws_heldAnswerS.l0] at h
  | k + 1 => by
    have ih0 := laws_heldAnswerS.mono_l k
    · intro y0 y1 y2
      unfold laws_heldAnswerS.l0
      exact qfh0_
theorem laws_heldAnswerS.mono : ∀ a0 a1 k, LeO (laws_heldAnswerS.f k a0 a1) (laws_heldAnswerS.f (k + 1) a0 a1) := by
  intro a0 a1 k
  have ih0 := laws_heldAnswerS.mono_l k
  unfold laws_heldAnswerS.f
  exact qfh0_
def laws_heldAnswerS.T10 : Bool × List (List Nat × List Nat) := (true, [([], []), ([], []), ([0, 1], [0, 1]), ([2], [2]), ([3], [3]), ([], []), ([5], [5]), ([4, 6], [4, 6])])
def laws_heldAnswerS.B10 : List Nat := [0, 0, 3, 7, 15, 0, 32, 127]
theorem laws_heldAnswerS.tab10 : rtab .any (opsOf Try.f95 10) = laws_heldAnswerS.T10 := by kernel_rfl
theorem laws_heldAnswerS.bits10 : waitsOk laws_heldAnswerS.T10.2 laws_heldAnswerS.B10 = true := by kernel_rfl
def laws_heldAnswerS.T13 : Bool × List (List Nat × List Nat) := (true, [([], []), ([], []), ([0, 1], [0, 1]), ([2], [2]), ([3], [3]), ([], []), ([5], [5]), ([4, 6], [4, 6])])
def laws_heldAnswerS.B13 : List Nat := [0, 0, 3, 7, 15, 0, 32, 127]
theorem laws_heldAnswerS.tab13 : rtab .any (opsOf Try.f95 13) = laws_heldAnswerS.T13 := by kernel_rfl
theorem laws_heldAnswerS.bits13 : waitsOk laws_heldAnswerS.T13.2 laws_heldAnswerS.B13 = true := by kernel_rfl
set_option maxHeartbeats 8000000 in
set_option maxRecDepth 100000 in
theorem laws_heldAnswerS.calls (k : Nat) (A0 : Option Addr) (c0 : Nat) (l0 : List (S_Answer)) (a1 : Int) (r : Int) (w : World) (hr0 : Kd.C k_Answer w A0 l0.length l0) (hc0 : l0.length ≤ c0) (h : laws_heldAnswerS.f k l0 a1 = some r) :
    Calls Try.prog 95 #[.slice A0 l0.length c0, .int .i64 a1] w fun e w' => e = .returned (.int .i64 r) ∧ Below w.heap.size w w' := by
  have HR0 := Aside0.mk hr0
  have HC0 := Aside0.mk hc0
  clear hr0 hc0
  have HB := Aside0.mk (Below.refl w.heap.size w)
  have H : (laws_heldAnswerS.l0 k l0 a1 0) = some r := h
  clear h
  have H' := Aside0.mk H
  clear H
  go_enter Try.func95, Try.ntmps95
  go_wp2
  go_loopg [1, 5] k (fun kq v1 v5 w' => ∃ (x1_1 : Int) (x5_1 : Int), v1 = .int .i64 x1_1 ∧ v5 = .int .i64 x5_1 ∧ Aside0 (laws_heldAnswerS.l0 kq l0 x1_1 x5_1 = some r) ∧ Aside0 (kq ≤ k) ∧ Aside0 (Below w.heap.size w w'))
  case atStart => exact ⟨(a1), (0), (qf8_), (qf8_), H', ⟨Nat.le_refl _⟩, ⟨qf0_⟩⟩
  case round =>
    clear H'
    try clear p2
    obtain ⟨x1_1, x5_1, rfl, rfl, HA, HK1, HB⟩ := hrel
    cases gk with
    | zero => exact absurd HA.out (by simp [laws_heldAnswerS.l0])
    | succ k1 =>
      have H := HA.out
      clear HA
      simp only [laws_heldAnswerS.l0] at H
      by_cases c3 : x5_1 < (l0.length : Int)
      · rw [if_pos c3] at H
        have c3b0 : decide (x5_1 < (l0.length : Int)) = true := decide_eq_true c3
        clear c3
        by_cases c4 : 0 ≤ x5_1
        · rw [if_pos c4] at H
          have c4b0 : decide (0 ≤ x5_1) = true := decide_eq_true c4
          clear c4
          by_cases c5 : ((rd_Answer l0 x5_1).f0) = x1_1
          · rw [if_pos c5] at H
            have c5b0 : (((rd_Answer l0 x5_1).f0) == x1_1) = true := beq_iff_eq.mpr c5
            have c5b1 : (((rd_Answer l0 x5_1).f0) != x1_1) = false := bne_eq_false_iff_eq.mpr c5
            clear c5
            by_cases c6 : ((rd_Answer l0 x5_1).f1) = (wrap64 (x1_1 + 1))
            · rw [if_pos c6] at H
              have c6b0 : (((rd_Answer l0 x5_1).f1) == (wrap64 (x1_1 + 1))) = true := beq_iff_eq.mpr c6
              have c6b1 : (((rd_Answer l0 x5_1).f1) != (wrap64 (x1_1 + 1))) = false := bne_eq_false_iff_eq.mpr c6
              clear c6
              replace H := Option.bind_eq_some_iff.mp H
              obtain ⟨t269, A70, H⟩ := H
              replace H : (if ((rd_Answer l0 x5_1).f2).toList = t269.toList then ((laws_markText.f k1 (wrap64 ((wrap64 ((wrap64 (x1_1 + 1)) + 1)) + 1))).bind fun t271 => (if ((rd_Answer l0 x5_1).f3).toList = t271.toList then (laws_heldAnswerS.l0 k1 l0 (wrap64 ((wrap64 ((wrap64 ((wrap64 (x1_1 + 1)) + 1)) + 1)) + 1)) (wrap64 (x5_1 + 1))) else (some (-1)))) else (some (-1))) = some r := H
              have A7 := Aside0.mk A70
              clear A70
              by_cases c8 : ((rd_Answer l0 x5_1).f2).toList = t269.toList
              · rw [if_pos c8] at H
                have c8b0 : (((rd_Answer l0 x5_1).f2).toList == t269.toList) = true := beq_iff_eq.mpr c8
                have c8b1 : (((rd_Answer l0 x5_1).f2).toList != t269.toList) = false := bne_eq_false_iff_eq.mpr c8
                clear c8
                replace H := Option.bind_eq_some_iff.mp H
                obtain ⟨t271, A90, H⟩ := H
                replace H : (if ((rd_Answer l0 x5_1).f3).toList = t271.toList then (laws_heldAnswerS.l0 k1 l0 (wrap64 ((wrap64 ((wrap64 ((wrap64 (x1_1 + 1)) + 1)) + 1)) + 1)) (wrap64 (x5_1 + 1))) else (some (-1))) = some r := H
                have A9 := Aside0.mk A90
                clear A90
                by_cases c10 : ((rd_Answer l0 x5_1).f3).toList = t271.toList
                · rw [if_pos c10] at H
                  have c10b0 : (((rd_Answer l0 x5_1).f3).toList == t271.toList) = true := beq_iff_eq.mpr c10
                  have c10b1 : (((rd_Answer l0 x5_1).f3).toList != t271.toList) = false := bne_eq_false_iff_eq.mpr c10
                  clear c10
                  have H' := Aside0.mk H
                  clear H
                  have p266 : 0 ≤ (x5_1 : Int) := of_decide_eq_true dt_
                  have q266 : x5_1 < (l0.length : Int) := of_decide_eq_true dt_
                  obtain ⟨ad266, e266, hx266_0, hx266_1, hx266_2, hx266_3⟩ := at_Answer HR0.out x5_1 p266 q266
                  cases e266
                  replace hx266_0 := hc_ HB hx266_0
                  replace hx266_1 := hc_ HB hx266_1
                  replace hx266_2 := hc_ HB hx266_2
                  replace hx266_3 := hc_ HB hx266_3
                  replace p266 := eq_true p266
                  replace q266 := eq_true q266
                  have p267 : 0 ≤ (x5_1 : Int) := of_decide_eq_true dt_
                  have q267 : x5_1 < (l0.length : Int) := of_decide_eq_true dt_
                  obtain ⟨ad267, e267, hx267_0, hx267_1, hx267_2, hx267_3⟩ := at_Answer HR0.out x5_1 p267 q267
                  obtain rfl : ad266 = ad267 := (by injection e267)
                  replace hx267_0 := hc_ HB hx267_0
                  replace hx267_1 := hc_ HB hx267_1
                  replace hx267_2 := hc_ HB hx267_2
                  replace hx267_3 := hc_ HB hx267_3
                  replace p267 := eq_true p267
                  replace q267 := eq_true q267
                  try go_wp2
                  replace HB := Aside0.mk (below_drew1 HB.out)
                  have p268 : 0 ≤ (x5_1 : Int) := of_decide_eq_true dt_
                  have q268 : x5_1 < (l0.length : Int) := of_decide_eq_true dt_
                  obtain ⟨ad268, e268, hx268_0, hx268_1, hx268_2, hx268_3⟩ := at_Answer HR0.out x5_1 p268 q268
                  have hw268_3 := hx268_3
                  have hw268_2 := hx268_2
                  have hw268_1 := hx268_1
                  have hw268_0 := hx268_0
                  obtain rfl : ad266 = ad268 := (by injection e268)
                  replace hx268_0 := hc_ HB hx268_0
                  replace hx268_1 := hc_ HB hx268_1
                  replace hx268_2 := hc_ HB hx268_2
                  replace hx268_3 := hc_ HB hx268_3
                  replace p268 := eq_true p268
                  replace q268 := eq_true q268
                  refine start_ (n := 8) (S := fun w' => w'.cell? (ad266.add ((x5_1).toNat * 4)) = some (.int .i64 ((rd_Answer l0 x5_1).f0)) ∧ w'.cell? ⟨(ad266.add ((x5_1).toNat * 4)).block, (ad266.add ((x5_1).toNat * 4)).off + 1, none⟩ = some (.int .i64 ((rd_Answer l0 x5_1).f1)) ∧ w'.cell? ⟨(ad266.add ((x5_1).toNat * 4)).block, (ad266.add ((x5_1).toNat * 4)).off + 2, none⟩ = some (.string ((rd_Answer l0 x5_1).f2)) ∧ w'.cell? ⟨(ad266.add ((x5_1).toNat * 4)).block, (ad266.add ((x5_1).toNat * 4)).off + 3, none⟩ = some (.string ((rd_Answer l0 x5_1).f3))) (ds := []) #[false, false, false, false, false, false, false, false] (by kernel_rfl) rfl rfl ⟨(hd_ HB hw268_0), (hd_ HB hw268_1), (hd_ HB hw268_2), (hd_ HB hw268_3)⟩ (fun hHeld => ?_); refine with_tabW laws_heldAnswerS.tab10 laws_heldAnswerS.bits10 (fun HT_ HW_ => ?_)
                  generalize wr.drew = w11 at HB hx268_0 hx268_1 hx268_2 hx268_3 hHeld ⊢
                  refine pure_ (i := 0) (N := some 30) (v := ?_) (a' := ?_) #[true, false, false, false, false, false, false, false] rfl rfl (any_of HT_.out (by kernel_rfl)) (fun _ _ _ h => h) (Or.inl ⟨by rfl, ?_⟩) ?_ ?_
                  rotate_left
                  · intro w'
                    go_simp
                    with_reducible rfl
                  rotate_left
                  · simp only [Act.put, List.setIfInBounds_toArray, List.set_cons_zero, List.set_cons_succ, i64_w, i32_w]
                    rfl
                  refine pure_ (i := 1) (N := some 31) (v := ?_) (a' := ?_) #[true, true, false, false, false, false, false, false] rfl rfl (any_of HT_.out (by kernel_rfl)) (fun _ _ _ h => h) (Or.inl ⟨by rfl, ?_⟩) ?_ ?_
                  rotate_left
                  · intro w'
                    go_simp
                    with_reducible rfl
                  rotate_left
                  · simp only [Act.put, List.setIfInBounds_toArray, List.set_cons_zero, List.set_cons_succ, i64_w, i32_w]
                    rfl
                  refine pure_ (i := 2) (N := some 32) (v := ?_) (a' := ?_) #[true, true, true, false, false, false, false, false] rfl rfl (any_of HT_.out (by kernel_rfl)) (fun _ _ _ h => h) (Or.inl ⟨by rfl, ?_⟩) ?_ ?_
                  rotate_left
                  · intro w'
                    go_simp
                    with_reducible rfl
                  rotate_left
                  · simp only [Act.put, List.setIfInBounds_toArray, List.set_cons_zero, List.set_cons_succ, i64_w, i32_w]
                    rfl
                  refine pure_ (i := 3) (N := some 33) (v := ?_) (a' := ?_) #[true, true, true, true, false, false, false, false] rfl rfl (any_of HT_.out (by kernel_rfl)) (fun _ _ _ h => h) (Or.inl ⟨by rfl, ?_⟩) ?_ ?_
                  rotate_left
                  · intro w'
                    go_simp
                    with_reducible rfl
                  rotate_left
                  · simp only [Act.put, List.setIfInBounds_toArray, List.set_cons_zero, List.set_cons_succ, i64_w, i32_w]
                    rfl
                  refine pure_ (i := 5) (N := some 35) (v := ?_) (a' := ?_) #[true, true, true, true, false, true, false, false] rfl rfl (any_of HT_.out (by kernel_rfl)) (fun _ _ _ h => h) (Or.inl ⟨by rfl, ?_⟩) ?_ ?_
                  rotate_left
                  · intro w'
                    go_simp
                    with_reducible rfl
                  rotate_left
                  · simp only [Act.put, List.setIfInBounds_toArray, List.set_cons_zero, List.set_cons_succ, i64_w, i32_w]
                    rfl
                  refine take_ (i := 4) (N := some 34) (v := ?_) (a' := ?_) #[true, true, true, true, true, true, false, false] rfl rfl (take_ofW HT_.out HW_.out (by kernel_rfl)) (fun _ _ _ h => h) (Or.inl ⟨by rfl, ?_⟩) hHeld ?_ ?_
                  rotate_left
                  · rintro w' ⟨s0, s1, s2, s3⟩
                    go_simp
                    with_reducible rfl
                  rotate_left
                  · simp only [Act.put, List.setIfInBounds_toArray, List.set_cons_zero, List.set_cons_succ, i64_w, i32_w]
                    rfl
                  refine on_ 6 36 HT_ #[true, true, true, true, true, true, true, false] rfl rfl (fun K hK => ?_)
                  refine goes_ Try.func106 (by kernel_rfl) rfl #[.int .i64 (wrap64 ((wrap64 (x1_1 + 1)) + 1))] (by rfl) rfl rfl (qf2_) ?_
                  with_reducible refine (laws_markText.calls k1 (wrap64 ((wrap64 (x1_1 + 1)) + 1)) t269 _ A7.out).mono ?_
                  rintro e w12 ⟨rfl, hb⟩
                  refine ⟨_, rfl, ?_⟩
                  replace HB := Aside0.mk (below_step (qf0_) hb)
                  (try clear hb)
                  refine hK.out _ _ ⟨(hd_ HB hw268_0), (hd_ HB hw268_1), (hd_ HB hw268_2), (hd_ HB hw268_3)⟩ (fun hHeld => ?_)
                  clear hK K
                  refine norm_ (a' := ?_) ?_ ?_
                  rotate_left
                  · show Act.put _ (some 36) _ = _
                    simp only [Act.put, List.setIfInBounds_toArray, List.set_cons_zero, List.set_cons_succ, i64_w, i32_w]
                    rfl
                  refine pure_ (i := 7) (N := some 37) (v := ?_) (a' := ?_) #[true, true, true, true, true, true, true, true] rfl rfl (any_of HT_.out (by kernel_rfl)) (fun _ _ _ h => h) (Or.inl ⟨by rfl, ?_⟩) ?_ ?_
                  rotate_left
                  · intro w'
                    go_simp
                    with_reducible rfl
                  rotate_left
                  · simp only [Act.put, List.setIfInBounds_toArray, List.set_cons_zero, List.set_cons_succ, i64_w, i32_w]
                    rfl
                  refine done_ (done_of HT_.out (by kernel_rfl)) ?_
                  try go_wp2
                  replace HB := Aside0.mk (below_drew1 HB.out)
                  have p270 : 0 ≤ (x5_1 : Int) := of_decide_eq_true dt_
                  have q270 : x5_1 < (l0.length : Int) := of_decide_eq_true dt_
                  obtain ⟨ad270, e270, hx270_0, hx270_1, hx270_2, hx270_3⟩ := at_Answer HR0.out x5_1 p270 q270
                  have hw270_3 := hx270_3
                  have hw270_2 := hx270_2
                  have hw270_1 := hx270_1
                  have hw270_0 := hx270_0
                  obtain rfl : ad266 = ad270 := (by injection e270)
                  replace hx270_0 := hc_ HB hx270_0
                  replace hx270_1 := hc_ HB hx270_1
                  replace hx270_2 := hc_ HB hx270_2
                  replace hx270_3 := hc_ HB hx270_3
                  replace p270 := eq_true p270
                  replace q270 := eq_true q270
                  refine start_ (n := 8) (S := fun w' => w'.cell? (ad266.add ((x5_1).toNat * 4)) = some (.int .i64 ((rd_Answer l0 x5_1).f0)) ∧ w'.cell? ⟨(ad266.add ((x5_1).toNat * 4)).block, (ad266.add ((x5_1).toNat * 4)).off + 1, none⟩ = some (.int .i64 ((rd_Answer l0 x5_1).f1)) ∧ w'.cell? ⟨(ad266.add ((x5_1).toNat * 4)).block, (ad266.add ((x5_1).toNat * 4)).off + 2, none⟩ = some (.string ((rd_Answer l0 x5_1).f2)) ∧ w'.cell? ⟨(ad266.add ((x5_1).toNat * 4)).block, (ad266.add ((x5_1).toNat * 4)).off + 3, none⟩ = some (.string ((rd_Answer l0 x5_1).f3))) (ds := []) #[false, false, false, false, false, false, false, false] (by kernel_rfl) rfl rfl ⟨(hd_ HB hw270_0), (hd_ HB hw270_1), (hd_ HB hw270_2), (hd_ HB hw270_3)⟩ (fun hHeld => ?_); refine with_tabW laws_heldAnswerS.tab13 laws_heldAnswerS.bits13 (fun HT_ HW_ => ?_)
                  generalize w12.drew = w13 at HB hx270_0 hx270_1 hx270_2 hx270_3 hHeld ⊢
                  refine pure_ (i := 0) (N := some 40) (v := ?_) (a' := ?_) #[true, false, false, false, false, false, false, false] rfl rfl (any_of HT_.out (by kernel_rfl)) (fun _ _ _ h => h) (Or.inl ⟨by rfl, ?_⟩) ?_ ?_
                  rotate_left
                  · intro w'
                    go_simp
                    with_reducible rfl
                  rotate_left
                  · simp only [Act.put, List.setIfInBounds_toArray, List.set_cons_zero, List.set_cons_succ, i64_w, i32_w]
                    rfl
                  refine pure_ (i := 1) (N := some 41) (v := ?_) (a' := ?_) #[true, true, false, false, false, false, false, false] rfl rfl (any_of HT_.out (by kernel_rfl)) (fun _ _ _ h => h) (Or.inl ⟨by rfl, ?_⟩) ?_ ?_
                  rotate_left
                  · intro w'
                    go_simp
                    with_reducible rfl
                  rotate_left
                  · simp only [Act.put, List.setIfInBounds_toArray, List.set_cons_zero, List.set_cons_succ, i64_w, i32_w]
                    rfl
                  refine pure_ (i := 2) (N := some 42) (v := ?_) (a' := ?_) #[true, true, true, false, false, false, false, false] rfl rfl (any_of HT_.out (by kernel_rfl)) (fun _ _ _ h => h) (Or.inl ⟨by rfl, ?_⟩) ?_ ?_
                  rotate_left
                  · intro w'
                    go_simp
                    with_reducible rfl
                  rotate_left
                  · simp only [Act.put, List.setIfInBounds_toArray, List.set_cons_zero, List.set_cons_succ, i64_w, i32_w]
                    rfl
                  refine pure_ (i := 3) (N := some 43) (v := ?_) (a' := ?_) #[true, true, true, true, false, false, false, false] rfl rfl (any_of HT_.out (by kernel_rfl)) (fun _ _ _ h => h) (Or.inl ⟨by rfl, ?_⟩) ?_ ?_
                  rotate_left
                  · intro w'
                    go_simp
                    with_reducible rfl
                  rotate_left
                  · simp only [Act.put, List.setIfInBounds_toArray, List.set_cons_zero, List.set_cons_succ, i64_w, i32_w]
                    rfl
                  refine pure_ (i := 5) (N := some 45) (v := ?_) (a' := ?_) #[true, true, true, true, false, true, false, false] rfl rfl (any_of HT_.out (by kernel_rfl)) (fun _ _ _ h => h) (Or.inl ⟨by rfl, ?_⟩) ?_ ?_
                  rotate_left
                  · intro w'
                    go_simp
                    with_reducible rfl
                  rotate_left
                  · simp only [Act.put, List.setIfInBounds_toArray, List.set_cons_zero, List.set_cons_succ, i64_w, i32_w]
                    rfl
                  refine take_ (i := 4) (N := some 44) (v := ?_) (a' := ?_) #[true, true, true, true, true, true, false, false] rfl rfl (take_ofW HT_.out HW_.out (by kernel_rfl)) (fun _ _ _ h => h) (Or.inl ⟨by rfl, ?_⟩) hHeld ?_ ?_
                  rotate_left
                  · rintro w' ⟨s0, s1, s2, s3⟩
                    go_simp
                    with_reducible rfl
                  rotate_left
                  · simp only [Act.put, List.setIfInBounds_toArray, List.set_cons_zero, List.set_cons_succ, i64_w, i32_w]
                    rfl
                  refine on_ 6 46 HT_ #[true, true, true, true, true, true, true, false] rfl rfl (fun K hK => ?_)
                  refine goes_ Try.func106 (by kernel_rfl) rfl #[.int .i64 (wrap64 ((wrap64 ((wrap64 (x1_1 + 1)) + 1)) + 1))] (by rfl) rfl rfl (qf2_) ?_
                  with_reducible refine (laws_markText.calls k1 (wrap64 ((wrap64 ((wrap64 (x1_1 + 1)) + 1)) + 1)) t271 _ A9.out).mono ?_
                  rintro e w14 ⟨rfl, hb⟩
                  refine ⟨_, rfl, ?_⟩
                  replace HB := Aside0.mk (below_step (qf0_) hb)
                  (try clear hb)
                  refine hK.out _ _ ⟨(hd_ HB hw270_0), (hd_ HB hw270_1), (hd_ HB hw270_2), (hd_ HB hw270_3)⟩ (fun hHeld => ?_)
                  clear hK K
                  refine norm_ (a' := ?_) ?_ ?_
                  rotate_left
                  · show Act.put _ (some 46) _ = _
                    simp only [Act.put, List.setIfInBounds_toArray, List.set_cons_zero, List.set_cons_succ, i64_w, i32_w]
                    rfl
                  refine pure_ (i := 7) (N := some 47) (v := ?_) (a' := ?_) #[true, true, true, true, true, true, true, true] rfl rfl (any_of HT_.out (by kernel_rfl)) (fun _ _ _ h => h) (Or.inl ⟨by rfl, ?_⟩) ?_ ?_
                  rotate_left
                  · intro w'
                    go_simp
                    with_reducible rfl
                  rotate_left
                  · simp only [Act.put, List.setIfInBounds_toArray, List.set_cons_zero, List.set_cons_succ, i64_w, i32_w]
                    rfl
                  refine done_ (done_of HT_.out (by kernel_rfl)) ?_
                  try go_wp2
                  go_roundg k1
                  case measure => have := HK1.out; omega
                  case rel => exact ⟨(wrap64 ((wrap64 ((wrap64 ((wrap64 (x1_1 + 1)) + 1)) + 1)) + 1)), (wrap64 (x5_1 + 1)), (qf8_), (qf8_), H', ⟨by have := HK1.out; omega⟩, ⟨qf0_⟩⟩
                · rw [if_neg c10] at H
                  have c10b0 : (((rd_Answer l0 x5_1).f3).toList == t271.toList) = false := beq_eq_false_iff_ne.mpr c10
                  have c10b1 : (((rd_Answer l0 x5_1).f3).toList != t271.toList) = true := bne_iff_ne.mpr c10
                  obtain rfl := Option.some.inj H
                  have p266 : 0 ≤ (x5_1 : Int) := of_decide_eq_true dt_
                  have q266 : x5_1 < (l0.length : Int) := of_decide_eq_true dt_
                  obtain ⟨ad266, e266, hx266_0, hx266_1, hx266_2, hx266_3⟩ := at_Answer HR0.out x5_1 p266 q266
                  cases e266
                  replace hx266_0 := hc_ HB hx266_0
                  replace hx266_1 := hc_ HB hx266_1
                  replace hx266_2 := hc_ HB hx266_2
                  replace hx266_3 := hc_ HB hx266_3
                  replace p266 := eq_true p266
                  replace q266 := eq_true q266
                  have p267 : 0 ≤ (x5_1 : Int) := of_decide_eq_true dt_
                  have q267 : x5_1 < (l0.length : Int) := of_decide_eq_true dt_
                  obtain ⟨ad267, e267, hx267_0, hx267_1, hx267_2, hx267_3⟩ := at_Answer HR0.out x5_1 p267 q267
                  obtain rfl : ad266 = ad267 := (by injection e267)
                  replace hx267_0 := hc_ HB hx267_0
                  replace hx267_1 := hc_ HB hx267_1
                  replace hx267_2 := hc_ HB hx267_2
                  replace hx267_3 := hc_ HB hx267_3
                  replace p267 := eq_true p267
                  replace q267 := eq_true q267
                  try go_wp2
                  replace HB := Aside0.mk (below_drew1 HB.out)
                  have p268 : 0 ≤ (x5_1 : Int) := of_decide_eq_true dt_
                  have q268 : x5_1 < (l0.length : Int) := of_decide_eq_true dt_
                  obtain ⟨ad268, e268, hx268_0, hx268_1, hx268_2, hx268_3⟩ := at_Answer HR0.out x5_1 p268 q268
                  have hw268_3 := hx268_3
                  have hw268_2 := hx268_2
                  have hw268_1 := hx268_1
                  have hw268_0 := hx268_0
                  obtain rfl : ad266 = ad268 := (by injection e268)
                  replace hx268_0 := hc_ HB hx268_0
                  replace hx268_1 := hc_ HB hx268_1
                  replace hx268_2 := hc_ HB hx268_2
                  replace hx268_3 := hc_ HB hx268_3
                  replace p268 := eq_true p268
                  replace q268 := eq_true q268
                  refine start_ (n := 8) (S := fun w' => w'.cell? (ad266.add ((x5_1).toNat * 4)) = some (.int .i64 ((rd_Answer l0 x5_1).f0)) ∧ w'.cell? ⟨(ad266.add ((x5_1).toNat * 4)).block, (ad266.add ((x5_1).toNat * 4)).off + 1, none⟩ = some (.int .i64 ((rd_Answer l0 x5_1).f1)) ∧ w'.cell? ⟨(ad266.add ((x5_1).toNat * 4)).block, (ad266.add ((x5_1).toNat * 4)).off + 2, none⟩ = some (.string ((rd_Answer l0 x5_1).f2)) ∧ w'.cell? ⟨(ad266.add ((x5_1).toNat * 4)).block, (ad266.add ((x5_1).toNat * 4)).off + 3, none⟩ = some (.string ((rd_Answer l0 x5_1).f3))) (ds := []) #[false, false, false, false, false, false, false, false] (by kernel_rfl) rfl rfl ⟨(hd_ HB hw268_0), (hd_ HB hw268_1), (hd_ HB hw268_2), (hd_ HB hw268_3)⟩ (fun hHeld => ?_); refine with_tabW laws_heldAnswerS.tab10 laws_heldAnswerS.bits10 (fun HT_ HW_ => ?_)
                  generalize wr.drew = w15 at HB hx268_0 hx268_1 hx268_2 hx268_3 hHeld ⊢
                  refine pure_ (i := 0) (N := some 30) (v := ?_) (a' := ?_) #[true, false, false, false, false, false, false, false] rfl rfl (any_of HT_.out (by kernel_rfl)) (fun _ _ _ h => h) (Or.inl ⟨by rfl, ?_⟩) ?_ ?_
                  rotate_left
                  · intro w'
                    go_simp
                    with_reducible rfl
                  rotate_left
                  · simp only [Act.put, List.setIfInBounds_toArray, List.set_cons_zero, List.set_cons_succ, i64_w, i32_w]
                    rfl
                  refine pure_ (i := 1) (N := some 31) (v := ?_) (a' := ?_) #[true, true, false, false, false, false, false, false] rfl rfl (any_of HT_.out (by kernel_rfl)) (fun _ _ _ h => h) (Or.inl ⟨by rfl, ?_⟩) ?_ ?_
                  rotate_left
                  · intro w'
                    go_simp
                    with_reducible rfl
                  rotate_left
                  · simp only [Act.put, List.setIfInBounds_toArray, List.set_cons_zero, List.set_cons_succ, i64_w, i32_w]
                    rfl
                  refine pure_ (i := 2) (N := some 32) (v := ?_) (a' := ?_) #[true, true, true, false, false, false, false, false] rfl rfl (any_of HT_.out (by kernel_rfl)) (fun _ _ _ h => h) (Or.inl ⟨by rfl, ?_⟩) ?_ ?_
                  rotate_left
                  · intro w'
                    go_simp
                    with_reducible rfl
                  rotate_left
                  · simp only [Act.put, List.setIfInBounds_toArray, List.set_cons_zero, List.set_cons_succ, i64_w, i32_w]
                    rfl
                  refine pure_ (i := 3) (N := some 33) (v := ?_) (a' := ?_) #[true, true, true, true, false, false, false, false] rfl rfl (any_of HT_.out (by kernel_rfl)) (fun _ _ _ h => h) (Or.inl ⟨by rfl, ?_⟩) ?_ ?_
                  rotate_left
                  · intro w'
                    go_simp
                    with_reducible rfl
                  rotate_left
                  · simp only [Act.put, List.setIfInBounds_toArray, List.set_cons_zero, List.set_cons_succ, i64_w, i32_w]
                    rfl
                  refine pure_ (i := 5) (N := some 35) (v := ?_) (a' := ?_) #[true, true, true, true, false, true, false, false] rfl rfl (any_of HT_.out (by kernel_rfl)) (fun _ _ _ h => h) (Or.inl ⟨by rfl, ?_⟩) ?_ ?_
                  rotate_left
                  · intro w'
                    go_simp
                    with_reducible rfl
                  rotate_left
                  · simp only [Act.put, List.setIfInBounds_toArray, List.set_cons_zero, List.set_cons_succ, i64_w, i32_w]
                    rfl
                  refine take_ (i := 4) (N := some 34) (v := ?_) (a' := ?_) #[true, true, true, true, true, true, false, false] rfl rfl (take_ofW HT_.out HW_.out (by kernel_rfl)) (fun _ _ _ h => h) (Or.inl ⟨by rfl, ?_⟩) hHeld ?_ ?_
                  rotate_left
                  · rintro w' ⟨s0, s1, s2, s3⟩
                    go_simp
                    with_reducible rfl
                  rotate_left
                  · simp only [Act.put, List.setIfInBounds_toArray, List.set_cons_zero, List.set_cons_succ, i64_w, i32_w]
                    rfl
                  refine on_ 6 36 HT_ #[true, true, true, true, true, true, true, false] rfl rfl (fun K hK => ?_)
                  refine goes_ Try.func106 (by kernel_rfl) rfl #[.int .i64 (wrap64 ((wrap64 (x1_1 + 1)) + 1))] (by rfl) rfl rfl (qf2_) ?_
                  with_reducible refine (laws_markText.calls k1 (wrap64 ((wrap64 (x1_1 + 1)) + 1)) t269 _ A7.out).mono ?_
                  rintro e w16 ⟨rfl, hb⟩
                  refine ⟨_, rfl, ?_⟩
                  replace HB := Aside0.mk (below_step (qf0_) hb)
                  (try clear hb)
                  refine hK.out _ _ ⟨(hd_ HB hw268_0), (hd_ HB hw268_1), (hd_ HB hw268_2), (hd_ HB hw268_3)⟩ (fun hHeld => ?_)
                  clear hK K
                  refine norm_ (a' := ?_) ?_ ?_
                  rotate_left
                  · show Act.put _ (some 36) _ = _
                    simp only [Act.put, List.setIfInBounds_toArray, List.set_cons_zero, List.set_cons_succ, i64_w, i32_w]
                    rfl
                  refine pure_ (i := 7) (N := some 37) (v := ?_) (a' := ?_) #[true, true, true, true, true, true, true, true] rfl rfl (any_of HT_.out (by kernel_rfl)) (fun _ _ _ h => h) (Or.inl ⟨by rfl, ?_⟩) ?_ ?_
                  rotate_left
                  · intro w'
                    go_simp
                    with_reducible rfl
                  rotate_left
                  · simp only [Act.put, List.setIfInBounds_toArray, List.set_cons_zero, List.set_cons_succ, i64_w, i32_w]
                    rfl
                  refine done_ (done_of HT_.out (by kernel_rfl)) ?_
                  try go_wp2
                  replace HB := Aside0.mk (below_drew1 HB.out)
                  have p270 : 0 ≤ (x5_1 : Int) := of_decide_eq_true dt_
                  have q270 : x5_1 < (l0.length : Int) := of_decide_eq_true dt_
                  obtain ⟨ad270, e270, hx270_0, hx270_1, hx270_2, hx270_3⟩ := at_Answer HR0.out x5_1 p270 q270
                  have hw270_3 := hx270_3
                  have hw270_2 := hx270_2
                  have hw270_1 := hx270_1
                  have hw270_0 := hx270_0
                  obtain rfl : ad266 = ad270 := (by injection e270)
                  replace hx270_0 := hc_ HB hx270_0
                  replace hx270_1 := hc_ HB hx270_1
                  replace hx270_2 := hc_ HB hx270_2
                  replace hx270_3 := hc_ HB hx270_3
                  replace p270 := eq_true p270
                  replace q270 := eq_true q270
                  refine start_ (n := 8) (S := fun w' => w'.cell? (ad266.add ((x5_1).toNat * 4)) = some (.int .i64 ((rd_Answer l0 x5_1).f0)) ∧ w'.cell? ⟨(ad266.add ((x5_1).toNat * 4)).block, (ad266.add ((x5_1).toNat * 4)).off + 1, none⟩ = some (.int .i64 ((rd_Answer l0 x5_1).f1)) ∧ w'.cell? ⟨(ad266.add ((x5_1).toNat * 4)).block, (ad266.add ((x5_1).toNat * 4)).off + 2, none⟩ = some (.string ((rd_Answer l0 x5_1).f2)) ∧ w'.cell? ⟨(ad266.add ((x5_1).toNat * 4)).block, (ad266.add ((x5_1).toNat * 4)).off + 3, none⟩ = some (.string ((rd_Answer l0 x5_1).f3))) (ds := []) #[false, false, false, false, false, false, false, false] (by kernel_rfl) rfl rfl ⟨(hd_ HB hw270_0), (hd_ HB hw270_1), (hd_ HB hw270_2), (hd_ HB hw270_3)⟩ (fun hHeld => ?_); refine with_tabW laws_heldAnswerS.tab13 laws_heldAnswerS.bits13 (fun HT_ HW_ => ?_)
                  generalize w16.drew = w17 at HB hx270_0 hx270_1 hx270_2 hx270_3 hHeld ⊢
                  refine pure_ (i := 0) (N := some 40) (v := ?_) (a' := ?_) #[true, false, false, false, false, false, false, false] rfl rfl (any_of HT_.out (by kernel_rfl)) (fun _ _ _ h => h) (Or.inl ⟨by rfl, ?_⟩) ?_ ?_
                  rotate_left
                  · intro w'
                    go_simp
                    with_reducible rfl
                  rotate_left
                  · simp only [Act.put, List.setIfInBounds_toArray, List.set_cons_zero, List.set_cons_succ, i64_w, i32_w]
                    rfl
                  refine pure_ (i := 1) (N := some 41) (v := ?_) (a' := ?_) #[true, true, false, false, false, false, false, false] rfl rfl (any_of HT_.out (by kernel_rfl)) (fun _ _ _ h => h) (Or.inl ⟨by rfl, ?_⟩) ?_ ?_
                  rotate_left
                  · intro w'
                    go_simp
                    with_reducible rfl
                  rotate_left
                  · simp only [Act.put, List.setIfInBounds_toArray, List.set_cons_zero, List.set_cons_succ, i64_w, i32_w]
                    rfl
                  refine pure_ (i := 2) (N := some 42) (v := ?_) (a' := ?_) #[true, true, true, false, false, false, false, false] rfl rfl (any_of HT_.out (by kernel_rfl)) (fun _ _ _ h => h) (Or.inl ⟨by rfl, ?_⟩) ?_ ?_
                  rotate_left
                  · intro w'
                    go_simp
                    with_reducible rfl
                  rotate_left
                  · simp only [Act.put, List.setIfInBounds_toArray, List.set_cons_zero, List.set_cons_succ, i64_w, i32_w]
                    rfl
                  refine pure_ (i := 3) (N := some 43) (v := ?_) (a' := ?_) #[true, true, true, true, false, false, false, false] rfl rfl (any_of HT_.out (by kernel_rfl)) (fun _ _ _ h => h) (Or.inl ⟨by rfl, ?_⟩) ?_ ?_
                  rotate_left
                  · intro w'
                    go_simp
                    with_reducible rfl
                  rotate_left
                  · simp only [Act.put, List.setIfInBounds_toArray, List.set_cons_zero, List.set_cons_succ, i64_w, i32_w]
                    rfl
                  refine pure_ (i := 5) (N := some 45) (v := ?_) (a' := ?_) #[true, true, true, true, false, true, false, false] rfl rfl (any_of HT_.out (by kernel_rfl)) (fun _ _ _ h => h) (Or.inl ⟨by rfl, ?_⟩) ?_ ?_
                  rotate_left
                  · intro w'
                    go_simp
                    with_reducible rfl
                  rotate_left
                  · simp only [Act.put, List.setIfInBounds_toArray, List.set_cons_zero, List.set_cons_succ, i64_w, i32_w]
                    rfl
                  refine take_ (i := 4) (N := some 44) (v := ?_) (a' := ?_) #[true, true, true, true, true, true, false, false] rfl rfl (take_ofW HT_.out HW_.out (by kernel_rfl)) (fun _ _ _ h => h) (Or.inl ⟨by rfl, ?_⟩) hHeld ?_ ?_
                  rotate_left
                  · rintro w' ⟨s0, s1, s2, s3⟩
                    go_simp
                    with_reducible rfl
                  rotate_left
                  · simp only [Act.put, List.setIfInBounds_toArray, List.set_cons_zero, List.set_cons_succ, i64_w, i32_w]
                    rfl
                  refine on_ 6 46 HT_ #[true, true, true, true, true, true, true, false] rfl rfl (fun K hK => ?_)
                  refine goes_ Try.func106 (by kernel_rfl) rfl #[.int .i64 (wrap64 ((wrap64 ((wrap64 (x1_1 + 1)) + 1)) + 1))] (by rfl) rfl rfl (qf2_) ?_
                  with_reducible refine (laws_markText.calls k1 (wrap64 ((wrap64 ((wrap64 (x1_1 + 1)) + 1)) + 1)) t271 _ A9.out).mono ?_
                  rintro e w18 ⟨rfl, hb⟩
                  refine ⟨_, rfl, ?_⟩
                  replace HB := Aside0.mk (below_step (qf0_) hb)
                  (try clear hb)
                  refine hK.out _ _ ⟨(hd_ HB hw270_0), (hd_ HB hw270_1), (hd_ HB hw270_2), (hd_ HB hw270_3)⟩ (fun hHeld => ?_)
                  clear hK K
                  refine norm_ (a' := ?_) ?_ ?_
                  rotate_left
                  · show Act.put _ (some 46) _ = _
                    simp only [Act.put, List.setIfInBounds_toArray, List.set_cons_zero, List.set_cons_succ, i64_w, i32_w]
                    rfl
                  refine pure_ (i := 7) (N := some 47) (v := ?_) (a' := ?_) #[true, true, true, true, true, true, true, true] rfl rfl (any_of HT_.out (by kernel_rfl)) (fun _ _ _ h => h) (Or.inl ⟨by rfl, ?_⟩) ?_ ?_
                  rotate_left
                  · intro w'
                    go_simp
                    with_reducible rfl
                  rotate_left
                  · simp only [Act.put, List.setIfInBounds_toArray, List.set_cons_zero, List.set_cons_succ, i64_w, i32_w]
                    rfl
                  refine done_ (done_of HT_.out (by kernel_rfl)) ?_
                  try go_wp2
                  go_ret
                  exact ⟨qf3_, qf0_⟩
              · rw [if_neg c8] at H
                have c8b0 : (((rd_Answer l0 x5_1).f2).toList == t269.toList) = false := beq_eq_false_iff_ne.mpr c8
                have c8b1 : (((rd_Answer l0 x5_1).f2).toList != t269.toList) = true := bne_iff_ne.mpr c8
                obtain rfl := Option.some.inj H
                have p266 : 0 ≤ (x5_1 : Int) := of_decide_eq_true dt_
                have q266 : x5_1 < (l0.length : Int) := of_decide_eq_true dt_
                obtain ⟨ad266, e266, hx266_0, hx266_1, hx266_2, hx266_3⟩ := at_Answer HR0.out x5_1 p266 q266
                cases e266
                replace hx266_0 := hc_ HB hx266_0
                replace hx266_1 := hc_ HB hx266_1
                replace hx266_2 := hc_ HB hx266_2
                replace hx266_3 := hc_ HB hx266_3
                replace p266 := eq_true p266
                replace q266 := eq_true q266
                have p267 : 0 ≤ (x5_1 : Int) := of_decide_eq_true dt_
                have q267 : x5_1 < (l0.length : Int) := of_decide_eq_true dt_
                obtain ⟨ad267, e267, hx267_0, hx267_1, hx267_2, hx267_3⟩ := at_Answer HR0.out x5_1 p267 q267
                obtain rfl : ad266 = ad267 := (by injection e267)
                replace hx267_0 := hc_ HB hx267_0
                replace hx267_1 := hc_ HB hx267_1
                replace hx267_2 := hc_ HB hx267_2
                replace hx267_3 := hc_ HB hx267_3
                replace p267 := eq_true p267
                replace q267 := eq_true q267
                try go_wp2
                replace HB := Aside0.mk (below_drew1 HB.out)
                have p268 : 0 ≤ (x5_1 : Int) := of_decide_eq_true dt_
                have q268 : x5_1 < (l0.length : Int) := of_decide_eq_true dt_
                obtain ⟨ad268, e268, hx268_0, hx268_1, hx268_2, hx268_3⟩ := at_Answer HR0.out x5_1 p268 q268
                have hw268_3 := hx268_3
                have hw268_2 := hx268_2
                have hw268_1 := hx268_1
                have hw268_0 := hx268_0
                obtain rfl : ad266 = ad268 := (by injection e268)
                replace hx268_0 := hc_ HB hx268_0
                replace hx268_1 := hc_ HB hx268_1
                replace hx268_2 := hc_ HB hx268_2
                replace hx268_3 := hc_ HB hx268_3
                replace p268 := eq_true p268
                replace q268 := eq_true q268
                refine start_ (n := 8) (S := fun w' => w'.cell? (ad266.add ((x5_1).toNat * 4)) = some (.int .i64 ((rd_Answer l0 x5_1).f0)) ∧ w'.cell? ⟨(ad266.add ((x5_1).toNat * 4)).block, (ad266.add ((x5_1).toNat * 4)).off + 1, none⟩ = some (.int .i64 ((rd_Answer l0 x5_1).f1)) ∧ w'.cell? ⟨(ad266.add ((x5_1).toNat * 4)).block, (ad266.add ((x5_1).toNat * 4)).off + 2, none⟩ = some (.string ((rd_Answer l0 x5_1).f2)) ∧ w'.cell? ⟨(ad266.add ((x5_1).toNat * 4)).block, (ad266.add ((x5_1).toNat * 4)).off + 3, none⟩ = some (.string ((rd_Answer l0 x5_1).f3))) (ds := []) #[false, false, false, false, false, false, false, false] (by kernel_rfl) rfl rfl ⟨(hd_ HB hw268_0), (hd_ HB hw268_1), (hd_ HB hw268_2), (hd_ HB hw268_3)⟩ (fun hHeld => ?_); refine with_tabW laws_heldAnswerS.tab10 laws_heldAnswerS.bits10 (fun HT_ HW_ => ?_)
                generalize wr.drew = w19 at HB hx268_0 hx268_1 hx268_2 hx268_3 hHeld ⊢
                refine pure_ (i := 0) (N := some 30) (v := ?_) (a' := ?_) #[true, false, false, false, false, false, false, false] rfl rfl (any_of HT_.out (by kernel_rfl)) (fun _ _ _ h => h) (Or.inl ⟨by rfl, ?_⟩) ?_ ?_
                rotate_left
                · intro w'
                  go_simp
                  with_reducible rfl
                rotate_left
                · simp only [Act.put, List.setIfInBounds_toArray, List.set_cons_zero, List.set_cons_succ, i64_w, i32_w]
                  rfl
                refine pure_ (i := 1) (N := some 31) (v := ?_) (a' := ?_) #[true, true, false, false, false, false, false, false] rfl rfl (any_of HT_.out (by kernel_rfl)) (fun _ _ _ h => h) (Or.inl ⟨by rfl, ?_⟩) ?_ ?_
                rotate_left
                · intro w'
                  go_simp
                  with_reducible rfl
                rotate_left
                · simp only [Act.put, List.setIfInBounds_toArray, List.set_cons_zero, List.set_cons_succ, i64_w, i32_w]
                  rfl
                refine pure_ (i := 2) (N := some 32) (v := ?_) (a' := ?_) #[true, true, true, false, false, false, false, false] rfl rfl (any_of HT_.out (by kernel_rfl)) (fun _ _ _ h => h) (Or.inl ⟨by rfl, ?_⟩) ?_ ?_
                rotate_left
                · intro w'
                  go_simp
                  with_reducible rfl
                rotate_left
                · simp only [Act.put, List.setIfInBounds_toArray, List.set_cons_zero, List.set_cons_succ, i64_w, i32_w]
                  rfl
                refine pure_ (i := 3) (N := some 33) (v := ?_) (a' := ?_) #[true, true, true, true, false, false, false, false] rfl rfl (any_of HT_.out (by kernel_rfl)) (fun _ _ _ h => h) (Or.inl ⟨by rfl, ?_⟩) ?_ ?_
                rotate_left
                · intro w'
                  go_simp
                  with_reducible rfl
                rotate_left
                · simp only [Act.put, List.setIfInBounds_toArray, List.set_cons_zero, List.set_cons_succ, i64_w, i32_w]
                  rfl
                refine pure_ (i := 5) (N := some 35) (v := ?_) (a' := ?_) #[true, true, true, true, false, true, false, false] rfl rfl (any_of HT_.out (by kernel_rfl)) (fun _ _ _ h => h) (Or.inl ⟨by rfl, ?_⟩) ?_ ?_
                rotate_left
                · intro w'
                  go_simp
                  with_reducible rfl
                rotate_left
                · simp only [Act.put, List.setIfInBounds_toArray, List.set_cons_zero, List.set_cons_succ, i64_w, i32_w]
                  rfl
                refine take_ (i := 4) (N := some 34) (v := ?_) (a' := ?_) #[true, true, true, true, true, true, false, false] rfl rfl (take_ofW HT_.out HW_.out (by kernel_rfl)) (fun _ _ _ h => h) (Or.inl ⟨by rfl, ?_⟩) hHeld ?_ ?_
                rotate_left
                · rintro w' ⟨s0, s1, s2, s3⟩
                  go_simp
                  with_reducible rfl
                rotate_left
                · simp only [Act.put, List.setIfInBounds_toArray, List.set_cons_zero, List.set_cons_succ, i64_w, i32_w]
                  rfl
                refine on_ 6 36 HT_ #[true, true, true, true, true, true, true, false] rfl rfl (fun K hK => ?_)
                refine goes_ Try.func106 (by kernel_rfl) rfl #[.int .i64 (wrap64 ((wrap64 (x1_1 + 1)) + 1))] (by rfl) rfl rfl (qf2_) ?_
                with_reducible refine (laws_markText.calls k1 (wrap64 ((wrap64 (x1_1 + 1)) + 1)) t269 _ A7.out).mono ?_
                rintro e w20 ⟨rfl, hb⟩
                refine ⟨_, rfl, ?_⟩
                replace HB := Aside0.mk (below_step (qf0_) hb)
                (try clear hb)
                refine hK.out _ _ ⟨(hd_ HB hw268_0), (hd_ HB hw268_1), (hd_ HB hw268_2), (hd_ HB hw268_3)⟩ (fun hHeld => ?_)
                clear hK K
                refine norm_ (a' := ?_) ?_ ?_
                rotate_left
                · show Act.put _ (some 36) _ = _
                  simp only [Act.put, List.setIfInBounds_toArray, List.set_cons_zero, List.set_cons_succ, i64_w, i32_w]
                  rfl
                refine pure_ (i := 7) (N := some 37) (v := ?_) (a' := ?_) #[true, true, true, true, true, true, true, true] rfl rfl (any_of HT_.out (by kernel_rfl)) (fun _ _ _ h => h) (Or.inl ⟨by rfl, ?_⟩) ?_ ?_
                rotate_left
                · intro w'
                  go_simp
                  with_reducible rfl
                rotate_left
                · simp only [Act.put, List.setIfInBounds_toArray, List.set_cons_zero, List.set_cons_succ, i64_w, i32_w]
                  rfl
                refine done_ (done_of HT_.out (by kernel_rfl)) ?_
                try go_wp2
                go_ret
                exact ⟨qf3_, qf0_⟩
            · rw [if_neg c6] at H
              have c6b0 : (((rd_Answer l0 x5_1).f1) == (wrap64 (x1_1 + 1))) = false := beq_eq_false_iff_ne.mpr c6
              have c6b1 : (((rd_Answer l0 x5_1).f1) != (wrap64 (x1_1 + 1))) = true := bne_iff_ne.mpr c6
              obtain rfl := Option.some.inj H
              have p266 : 0 ≤ (x5_1 : Int) := of_decide_eq_true dt_
              have q266 : x5_1 < (l0.length : Int) := of_decide_eq_true dt_
              obtain ⟨ad266, e266, hx266_0, hx266_1, hx266_2, hx266_3⟩ := at_Answer HR0.out x5_1 p266 q266
              cases e266
              replace hx266_0 := hc_ HB hx266_0
              replace hx266_1 := hc_ HB hx266_1
              replace hx266_2 := hc_ HB hx266_2
              replace hx266_3 := hc_ HB hx266_3
              replace p266 := eq_true p266
              replace q266 := eq_true q266
              have p267 : 0 ≤ (x5_1 : Int) := of_decide_eq_true dt_
              have q267 : x5_1 < (l0.length : Int) := of_decide_eq_true dt_
              obtain ⟨ad267, e267, hx267_0, hx267_1, hx267_2, hx267_3⟩ := at_Answer HR0.out x5_1 p267 q267
              obtain rfl : ad266 = ad267 := (by injection e267)
              replace hx267_0 := hc_ HB hx267_0
              replace hx267_1 := hc_ HB hx267_1
              replace hx267_2 := hc_ HB hx267_2
              replace hx267_3 := hc_ HB hx267_3
              replace p267 := eq_true p267
              replace q267 := eq_true q267
              go_wp2
              go_ret
              exact ⟨qf3_, qf0_⟩
          · rw [if_neg c5] at H
            have c5b0 : (((rd_Answer l0 x5_1).f0) == x1_1) = false := beq_eq_false_iff_ne.mpr c5
            have c5b1 : (((rd_Answer l0 x5_1).f0) != x1_1) = true := bne_iff_ne.mpr c5
            obtain rfl := Option.some.inj H
            have p266 : 0 ≤ (x5_1 : Int) := of_decide_eq_true dt_
            have q266 : x5_1 < (l0.length : Int) := of_decide_eq_true dt_
            obtain ⟨ad266, e266, hx266_0, hx266_1, hx266_2, hx266_3⟩ := at_Answer HR0.out x5_1 p266 q266
            cases e266
            replace hx266_0 := hc_ HB hx266_0
            replace hx266_1 := hc_ HB hx266_1
            replace hx266_2 := hc_ HB hx266_2
            replace hx266_3 := hc_ HB hx266_3
            replace p266 := eq_true p266
            replace q266 := eq_true q266
            go_wp2
            go_ret
            exact ⟨qf3_, qf0_⟩
        · rw [if_neg c4] at H
          exact absurd H (by simp)
      · rw [if_neg c3] at H
        have c3b0 : decide (x5_1 < (l0.length : Int)) = false := decide_eq_false c3
        clear c3
        obtain rfl := Option.some.inj H
        go_wp2
        go_ret
        exact ⟨qf3_, qf0_⟩
/-! ### laws_heldKeep: function 49 -/
def laws_heldKeep.f (k : Nat) (l0_0 : List (S_Row)) (l0_1 : List (S_Maker)) (l0_2 : List (S_Group)) (a0_3 : Int) (l0_4 : List Int) (l0_5 : List (S_Answer)) (a1 : Int) : Option (Int) := (laws_heldRowS.f k l0_0 a1).bind fun t273 => (if t273 < 0 then (some (-1)) else ((laws_heldMakerS.f k l0_1 t273).bind fun t274 => (if t274 < 0 then (some (-1)) else ((laws_heldGroupS.f k l0_2 t274).bind fun t275 => (if t275 < 0 then (some (-1)) else ((laws_heldIntS.f k l0_4 t275).bind fun t276 => (if t276 < 0 then (some (-1)) else ((laws_heldAnswerS.f k l0_5 t276).bind fun t277 => (if t277 < 0 then (some (-1)) else (some t277))))))))))
theorem laws_heldKeep.mono : ∀ a0 a1 a2 a3 a4 a5 a6 k, LeO (laws_heldKeep.f k a0 a1 a2 a3 a4 a5 a6) (laws_heldKeep.f (k + 1) a0 a1 a2 a3 a4 a5 a6) := by
  intro a0 a1 a2 a3 a4 a5 a6 k
  unfold laws_heldKeep.f
  repeat' first
      | (with_reducible exact laws_heldAnswerS.mono _ _ _)
      | (with_reducible exact laws_heldGroupS.mono _ _ _)
      | (with_reducible exact laws_heldIntS.mono _ _ _)
      | (with_reducible exact laws_heldMakerS.mono _ _ _)
      | (with_reducible exact laws_heldRowS.mono _ _ _)
      | (with_reducible exact LeO.refl _)
      | (with_reducible exact LeO.none _)
      | (with_reducible refine LeO.ite ?_ ?_)
      | (with_reducible refine LeO.bind ?_ (fun _ => ?_))
      | exact laws_heldAnswerS.mono _ _ _
      | exact laws_heldGroupS.mono _ _ _
      | exact laws_heldIntS.mono _ _ _
      | exact laws_heldMakerS.mono _ _ _
      | exact laws_heldRowS.mono _ _ _
      | exact LeO.none _
      | refine LeO.ite ?_ ?_
      | refine LeO.bind ?_ (fun _ => ?_)
set_option maxHeartbeats 8000000 in
set_option maxRecDepth 100000 in
theorem laws_heldKeep.calls (k : Nat) (A0_0 : Option Addr) (c0_0 : Nat) (l0_0 : List (S_Row)) (A0_1 : Option Addr) (c0_1 : Nat) (l0_1 : List (S_Maker)) (A0_2 : Option Addr) (c0_2 : Nat) (l0_2 : List (S_Group)) (a0_3 : Int) (A0_4 : Option Addr) (c0_4 : Nat) (l0_4 : List Int) (A0_5 : Option Addr) (c0_5 : Nat) (l0_5 : List (S_Answer)) (a1 : Int) (r : Int) (w : World) (hr0_0 : Kd.C k_Row w A0_0 l0_0.length l0_0) (hc0_0 : l0_0.length ≤ c0_0) (hr0_1 : Kd.C k_Maker w A0_1 l0_1.length l0_1) (hc0_1 : l0_1.length ≤ c0_1) (hr0_2 : Kd.C k_Group w A0_2 l0_2.length l0_2) (hc0_2 : l0_2.length ≤ c0_2) (hr0_4 : Kd.C (Kd.int .i64) w A0_4 l0_4.length l0_4) (hc0_4 : l0_4.length ≤ c0_4) (hr0_5 : Kd.C k_Answer w A0_5 l0_5.length l0_5) (hc0_5 : l0_5.length ≤ c0_5) (h : laws_heldKeep.f k l0_0 l0_1 l0_2 a0_3 l0_4 l0_5 a1 = some r) :
    Calls Try.prog 49 #[.agg #[.slice A0_0 l0_0.length c0_0, .slice A0_1 l0_1.length c0_1, .slice A0_2 l0_2.length c0_2, .int .i64 a0_3, .slice A0_4 l0_4.length c0_4, .slice A0_5 l0_5.length c0_5], .int .i64 a1] w fun e w' => e = .returned (.int .i64 r) ∧ Below w.heap.size w w' := by
  have hu80 := Try.underlying80
  have HR0_0 := Aside0.mk hr0_0
  have HC0_0 := Aside0.mk hc0_0
  clear hr0_0 hc0_0
  have HR0_1 := Aside0.mk hr0_1
  have HC0_1 := Aside0.mk hc0_1
  clear hr0_1 hc0_1
  have HR0_2 := Aside0.mk hr0_2
  have HC0_2 := Aside0.mk hc0_2
  clear hr0_2 hc0_2
  have HR0_4 := Aside0.mk hr0_4
  have HC0_4 := Aside0.mk hc0_4
  clear hr0_4 hc0_4
  have HR0_5 := Aside0.mk hr0_5
  have HC0_5 := Aside0.mk hc0_5
  clear hr0_5 hc0_5
  have HB := Aside0.mk (Below.refl w.heap.size w)
  have H : ((laws_heldRowS.f k l0_0 a1).bind fun t273 => (if t273 < 0 then (some (-1)) else ((laws_heldMakerS.f k l0_1 t273).bind fun t274 => (if t274 < 0 then (some (-1)) else ((laws_heldGroupS.f k l0_2 t274).bind fun t275 => (if t275 < 0 then (some (-1)) else ((laws_heldIntS.f k l0_4 t275).bind fun t276 => (if t276 < 0 then (some (-1)) else ((laws_heldAnswerS.f k l0_5 t276).bind fun t277 => (if t277 < 0 then (some (-1)) else (some t277))))))))))) = some r := h
  clear h
  replace H := Option.bind_eq_some_iff.mp H
  obtain ⟨t273, A30, H⟩ := H
  replace H : (if t273 < 0 then (some (-1)) else ((laws_heldMakerS.f k l0_1 t273).bind fun t274 => (if t274 < 0 then (some (-1)) else ((laws_heldGroupS.f k l0_2 t274).bind fun t275 => (if t275 < 0 then (some (-1)) else ((laws_heldIntS.f k l0_4 t275).bind fun t276 => (if t276 < 0 then (some (-1)) else ((laws_heldAnswerS.f k l0_5 t276).bind fun t277 => (if t277 < 0 then (some (-1)) else (some t277)))))))))) = some r := H
  have A3 := Aside0.mk A30
  clear A30
  by_cases c4 : t273 < 0
  · rw [if_pos c4] at H
    have c4b0 : decide (t273 < 0) = true := decide_eq_true c4
    clear c4
    obtain rfl := Option.some.inj H
    go_enter Try.func49, Try.ntmps49
    go_wp2_with (first | ((with_reducible refine gate_dst (N := 2) rfl ?_); refine box_event ?hg (N := 2) ?hd (cs := #[.slice A0_0 l0_0.length c0_0, .slice A0_1 l0_1.length c0_1, .slice A0_2 l0_2.length c0_2, .int .i64 a0_3, .slice A0_4 l0_4.length c0_4, .slice A0_5 l0_5.length c0_5]) (t := 80) ?hr ?_; (case hd => rfl); (case hg => rfl); (case hr => first | (go_simp; done) | (go_simp; rfl)); intro gb272 hg w5 hbox hb; have BK272 := Aside0.mk (hbox); have GW272 := Aside0.mk ((by rw [hg]; exact (below_size (qf0_)) : w.heap.size ≤ gb272)); have GE272 := Aside0.mk ((by rw [hg]; exact (below_size (qf0_)) : w.heap.size ≤ gb272)); replace HB := Aside0.mk (below_step (qf0_) hb); clear hb hbox hg; have hcz6_0 : w5.cell? ⟨gb272, 0, none⟩ = some (.slice A0_0 l0_0.length c0_0) := bc_ BK272 0; have hcz6_1 : w5.cell? ⟨gb272, 1, none⟩ = some (.slice A0_1 l0_1.length c0_1) := bc_ BK272 1; have hcz6_2 : w5.cell? ⟨gb272, 2, none⟩ = some (.slice A0_2 l0_2.length c0_2) := bc_ BK272 2; have hcz6_3 : w5.cell? ⟨gb272, 3, none⟩ = some (.int .i64 a0_3) := bc_ BK272 3; have hcz6_4 : w5.cell? ⟨gb272, 4, none⟩ = some (.slice A0_4 l0_4.length c0_4) := bc_ BK272 4; have hcz6_5 : w5.cell? ⟨gb272, 5, none⟩ = some (.slice A0_5 l0_5.length c0_5) := bc_ BK272 5; have hfz6_0 := blk_frozen BK272.out 0; have hfz6_1 := blk_frozen BK272.out 1; have hfz6_2 := blk_frozen BK272.out 2; have hfz6_3 := blk_frozen BK272.out 3; have hfz6_4 := blk_frozen BK272.out 4; have hfz6_5 := blk_frozen BK272.out 5) | ((with_reducible refine gate_callee (f := 92) rfl ?_); refine goesL_ (some 8) rfl rfl Try.func92 (by kernel_rfl) rfl #[.slice A0_0 l0_0.length c0_0, .int .i64 a1] rfl (qf2_) ?_; (with_reducible refine (laws_heldRowS.calls k _ _ l0_0 a1 t273 _ ?side1 ?side2 A3.out).mono ?_); (case side1 => repeat (first | exact (Kd.C_below HR0_0.out HB.out) | (with_reducible refine Kd.C_alloc ?_ _) | (with_reducible refine Kd.C_drewN ?_ _) | (with_reducible refine Kd.C_drew ?_))); (case side2 => exact HC0_0.out); rintro e w7 ⟨rfl, hb⟩; refine ⟨_, rfl, ?_⟩; replace BK272 := Aside0.mk (blk_below (g := gb272) (o := .cells #[.slice A0_0 l0_0.length c0_0, .slice A0_1 l0_1.length c0_1, .slice A0_2 l0_2.length c0_2, .int .i64 a0_3, .slice A0_4 l0_4.length c0_4, .slice A0_5 l0_5.length c0_5] 80 (0, 0)) (bq_ BK272.out) hb); replace HB := Aside0.mk (below_step (qf1_) hb); (try clear hb); (try clear hb2); (try clear hk); (try clear hi)))
    go_ret
    exact ⟨qf3_, qf1_⟩
  · rw [if_neg c4] at H
    have c4b0 : decide (t273 < 0) = false := decide_eq_false c4
    clear c4
    replace H := Option.bind_eq_some_iff.mp H
    obtain ⟨t274, A80, H⟩ := H
    replace H : (if t274 < 0 then (some (-1)) else ((laws_heldGroupS.f k l0_2 t274).bind fun t275 => (if t275 < 0 then (some (-1)) else ((laws_heldIntS.f k l0_4 t275).bind fun t276 => (if t276 < 0 then (some (-1)) else ((laws_heldAnswerS.f k l0_5 t276).bind fun t277 => (if t277 < 0 then (some (-1)) else (some t277)))))))) = some r := H
    have A8 := Aside0.mk A80
    clear A80
    by_cases c9 : t274 < 0
    · rw [if_pos c9] at H
      have c9b0 : decide (t274 < 0) = true := decide_eq_true c9
      clear c9
      obtain rfl := Option.some.inj H
      go_enter Try.func49, Try.ntmps49
      go_wp2_with (first | ((with_reducible refine gate_dst (N := 2) rfl ?_); refine box_event ?hg (N := 2) ?hd (cs := #[.slice A0_0 l0_0.length c0_0, .slice A0_1 l0_1.length c0_1, .slice A0_2 l0_2.length c0_2, .int .i64 a0_3, .slice A0_4 l0_4.length c0_4, .slice A0_5 l0_5.length c0_5]) (t := 80) ?hr ?_; (case hd => rfl); (case hg => rfl); (case hr => first | (go_simp; done) | (go_simp; rfl)); intro gb272 hg w10 hbox hb; have BK272 := Aside0.mk (hbox); have GW272 := Aside0.mk ((by rw [hg]; exact (below_size (qf0_)) : w.heap.size ≤ gb272)); have GE272 := Aside0.mk ((by rw [hg]; exact (below_size (qf0_)) : w.heap.size ≤ gb272)); replace HB := Aside0.mk (below_step (qf0_) hb); clear hb hbox hg; have hcz11_0 : w10.cell? ⟨gb272, 0, none⟩ = some (.slice A0_0 l0_0.length c0_0) := bc_ BK272 0; have hcz11_1 : w10.cell? ⟨gb272, 1, none⟩ = some (.slice A0_1 l0_1.length c0_1) := bc_ BK272 1; have hcz11_2 : w10.cell? ⟨gb272, 2, none⟩ = some (.slice A0_2 l0_2.length c0_2) := bc_ BK272 2; have hcz11_3 : w10.cell? ⟨gb272, 3, none⟩ = some (.int .i64 a0_3) := bc_ BK272 3; have hcz11_4 : w10.cell? ⟨gb272, 4, none⟩ = some (.slice A0_4 l0_4.length c0_4) := bc_ BK272 4; have hcz11_5 : w10.cell? ⟨gb272, 5, none⟩ = some (.slice A0_5 l0_5.length c0_5) := bc_ BK272 5; have hfz11_0 := blk_frozen BK272.out 0; have hfz11_1 := blk_frozen BK272.out 1; have hfz11_2 := blk_frozen BK272.out 2; have hfz11_3 := blk_frozen BK272.out 3; have hfz11_4 := blk_frozen BK272.out 4; have hfz11_5 := blk_frozen BK272.out 5) | ((with_reducible refine gate_callee (f := 92) rfl ?_); refine goesL_ (some 8) rfl rfl Try.func92 (by kernel_rfl) rfl #[.slice A0_0 l0_0.length c0_0, .int .i64 a1] rfl (qf2_) ?_; (with_reducible refine (laws_heldRowS.calls k _ _ l0_0 a1 t273 _ ?side1 ?side2 A3.out).mono ?_); (case side1 => repeat (first | exact (Kd.C_below HR0_0.out HB.out) | (with_reducible refine Kd.C_alloc ?_ _) | (with_reducible refine Kd.C_drewN ?_ _) | (with_reducible refine Kd.C_drew ?_))); (case side2 => exact HC0_0.out); rintro e w12 ⟨rfl, hb⟩; refine ⟨_, rfl, ?_⟩; replace BK272 := Aside0.mk (blk_below (g := gb272) (o := .cells #[.slice A0_0 l0_0.length c0_0, .slice A0_1 l0_1.length c0_1, .slice A0_2 l0_2.length c0_2, .int .i64 a0_3, .slice A0_4 l0_4.length c0_4, .slice A0_5 l0_5.length c0_5] 80 (0, 0)) (bq_ BK272.out) hb); replace HB := Aside0.mk (below_step (qf1_) hb); (try clear hb); (try clear hb2); (try clear hk); (try clear hi); have hcz13_0 : w12.cell? ⟨gb272, 0, none⟩ = some (.slice A0_0 l0_0.length c0_0) := bc_ BK272 0; have hcz13_1 : w12.cell? ⟨gb272, 1, none⟩ = some (.slice A0_1 l0_1.length c0_1) := bc_ BK272 1; have hcz13_2 : w12.cell? ⟨gb272, 2, none⟩ = some (.slice A0_2 l0_2.length c0_2) := bc_ BK272 2; have hcz13_3 : w12.cell? ⟨gb272, 3, none⟩ = some (.int .i64 a0_3) := bc_ BK272 3; have hcz13_4 : w12.cell? ⟨gb272, 4, none⟩ = some (.slice A0_4 l0_4.length c0_4) := bc_ BK272 4; have hcz13_5 : w12.cell? ⟨gb272, 5, none⟩ = some (.slice A0_5 l0_5.length c0_5) := bc_ BK272 5; have hfz13_0 := blk_frozen BK272.out 0; have hfz13_1 := blk_frozen BK272.out 1; have hfz13_2 := blk_frozen BK272.out 2; have hfz13_3 := blk_frozen BK272.out 3; have hfz13_4 := blk_frozen BK272.out 4; have hfz13_5 := blk_frozen BK272.out 5) | ((with_reducible refine gate_callee (f := 28) rfl ?_); refine goesL_ (some 14) rfl rfl Try.func28 (by kernel_rfl) rfl #[.slice A0_1 l0_1.length c0_1, .int .i64 t273] rfl (qf2_) ?_; (with_reducible refine (laws_heldMakerS.calls k _ _ l0_1 t273 t274 _ ?side1 ?side2 A8.out).mono ?_); (case side1 => repeat (first | exact (Kd.C_below HR0_1.out HB.out) | (with_reducible refine Kd.C_alloc ?_ _) | (with_reducible refine Kd.C_drewN ?_ _) | (with_reducible refine Kd.C_drew ?_))); (case side2 => exact HC0_1.out); rintro e w' ⟨rfl, ⟨nd, rfl⟩⟩; refine ⟨_, rfl, ?_⟩))
      go_ret
      exact ⟨qf3_, qf1_⟩
    · rw [if_neg c9] at H
      have c9b0 : decide (t274 < 0) = false := decide_eq_false c9
      clear c9
      replace H := Option.bind_eq_some_iff.mp H
      obtain ⟨t275, A140, H⟩ := H
      replace H : (if t275 < 0 then (some (-1)) else ((laws_heldIntS.f k l0_4 t275).bind fun t276 => (if t276 < 0 then (some (-1)) else ((laws_heldAnswerS.f k l0_5 t276).bind fun t277 => (if t277 < 0 then (some (-1)) else (some t277)))))) = some r := H
      have A14 := Aside0.mk A140
      clear A140
      by_cases c15 : t275 < 0
      · rw [if_pos c15] at H
        have c15b0 : decide (t275 < 0) = true := decide_eq_true c15
        clear c15
        obtain rfl := Option.some.inj H
        go_enter Try.func49, Try.ntmps49
        go_wp2_with (first | ((with_reducible refine gate_dst (N := 2) rfl ?_); refine box_event ?hg (N := 2) ?hd (cs := #[.slice A0_0 l0_0.length c0_0, .slice A0_1 l0_1.length c0_1, .slice A0_2 l0_2.length c0_2, .int .i64 a0_3, .slice A0_4 l0_4.length c0_4, .slice A0_5 l0_5.length c0_5]) (t := 80) ?hr ?_; (case hd => rfl); (case hg => rfl); (case hr => first | (go_simp; done) | (go_simp; rfl)); intro gb272 hg w16 hbox hb; have BK272 := Aside0.mk (hbox); have GW272 := Aside0.mk ((by rw [hg]; exact (below_size (qf0_)) : w.heap.size ≤ gb272)); have GE272 := Aside0.mk ((by rw [hg]; exact (below_size (qf0_)) : w.heap.size ≤ gb272)); replace HB := Aside0.mk (below_step (qf0_) hb); clear hb hbox hg; have hcz17_0 : w16.cell? ⟨gb272, 0, none⟩ = some (.slice A0_0 l0_0.length c0_0) := bc_ BK272 0; have hcz17_1 : w16.cell? ⟨gb272, 1, none⟩ = some (.slice A0_1 l0_1.length c0_1) := bc_ BK272 1; have hcz17_2 : w16.cell? ⟨gb272, 2, none⟩ = some (.slice A0_2 l0_2.length c0_2) := bc_ BK272 2; have hcz17_3 : w16.cell? ⟨gb272, 3, none⟩ = some (.int .i64 a0_3) := bc_ BK272 3; have hcz17_4 : w16.cell? ⟨gb272, 4, none⟩ = some (.slice A0_4 l0_4.length c0_4) := bc_ BK272 4; have hcz17_5 : w16.cell? ⟨gb272, 5, none⟩ = some (.slice A0_5 l0_5.length c0_5) := bc_ BK272 5; have hfz17_0 := blk_frozen BK272.out 0; have hfz17_1 := blk_frozen BK272.out 1; have hfz17_2 := blk_frozen BK272.out 2; have hfz17_3 := blk_frozen BK272.out 3; have hfz17_4 := blk_frozen BK272.out 4; have hfz17_5 := blk_frozen BK272.out 5) | ((with_reducible refine gate_callee (f := 92) rfl ?_); refine goesL_ (some 8) rfl rfl Try.func92 (by kernel_rfl) rfl #[.slice A0_0 l0_0.length c0_0, .int .i64 a1] rfl (qf2_) ?_; (with_reducible refine (laws_heldRowS.calls k _ _ l0_0 a1 t273 _ ?side1 ?side2 A3.out).mono ?_); (case side1 => repeat (first | exact (Kd.C_below HR0_0.out HB.out) | (with_reducible refine Kd.C_alloc ?_ _) | (with_reducible refine Kd.C_drewN ?_ _) | (with_reducible refine Kd.C_drew ?_))); (case side2 => exact HC0_0.out); rintro e w18 ⟨rfl, hb⟩; refine ⟨_, rfl, ?_⟩; replace BK272 := Aside0.mk (blk_below (g := gb272) (o := .cells #[.slice A0_0 l0_0.length c0_0, .slice A0_1 l0_1.length c0_1, .slice A0_2 l0_2.length c0_2, .int .i64 a0_3, .slice A0_4 l0_4.length c0_4, .slice A0_5 l0_5.length c0_5] 80 (0, 0)) (bq_ BK272.out) hb); replace HB := Aside0.mk (below_step (qf1_) hb); (try clear hb); (try clear hb2); (try clear hk); (try clear hi); have hcz19_0 : w18.cell? ⟨gb272, 0, none⟩ = some (.slice A0_0 l0_0.length c0_0) := bc_ BK272 0; have hcz19_1 : w18.cell? ⟨gb272, 1, none⟩ = some (.slice A0_1 l0_1.length c0_1) := bc_ BK272 1; have hcz19_2 : w18.cell? ⟨gb272, 2, none⟩ = some (.slice A0_2 l0_2.length c0_2) := bc_ BK272 2; have hcz19_3 : w18.cell? ⟨gb272, 3, none⟩ = some (.int .i64 a0_3) := bc_ BK272 3; have hcz19_4 : w18.cell? ⟨gb272, 4, none⟩ = some (.slice A0_4 l0_4.length c0_4) := bc_ BK272 4; have hcz19_5 : w18.cell? ⟨gb272, 5, none⟩ = some (.slice A0_5 l0_5.length c0_5) := bc_ BK272 5; have hfz19_0 := blk_frozen BK272.out 0; have hfz19_1 := blk_frozen BK272.out 1; have hfz19_2 := blk_frozen BK272.out 2; have hfz19_3 := blk_frozen BK272.out 3; have hfz19_4 := blk_frozen BK272.out 4; have hfz19_5 := blk_frozen BK272.out 5) | ((with_reducible refine gate_callee (f := 28) rfl ?_); refine goesL_ (some 14) rfl rfl Try.func28 (by kernel_rfl) rfl #[.slice A0_1 l0_1.length c0_1, .int .i64 t273] rfl (qf2_) ?_; (with_reducible refine (laws_heldMakerS.calls k _ _ l0_1 t273 t274 _ ?side1 ?side2 A8.out).mono ?_); (case side1 => repeat (first | exact (Kd.C_below HR0_1.out HB.out) | (with_reducible refine Kd.C_alloc ?_ _) | (with_reducible refine Kd.C_drewN ?_ _) | (with_reducible refine Kd.C_drew ?_))); (case side2 => exact HC0_1.out); rintro e w' ⟨rfl, ⟨nd, rfl⟩⟩; refine ⟨_, rfl, ?_⟩) | ((with_reducible refine gate_callee (f := 93) rfl ?_); refine goesL_ (some 20) rfl rfl Try.func93 (by kernel_rfl) rfl #[.slice A0_2 l0_2.length c0_2, .int .i64 t274] rfl (qf2_) ?_; (with_reducible refine (laws_heldGroupS.calls k _ _ l0_2 t274 t275 _ ?side1 ?side2 A14.out).mono ?_); (case side1 => repeat (first | exact (Kd.C_below HR0_2.out (qf1_)) | (with_reducible refine Kd.C_alloc ?_ _) | (with_reducible refine Kd.C_drewN ?_ _) | (with_reducible refine Kd.C_drew ?_))); (case side2 => exact HC0_2.out); rintro e w' ⟨rfl, ⟨nd, rfl⟩⟩; refine ⟨_, rfl, ?_⟩))
        go_ret
        exact ⟨qf3_, qf1_⟩
      · rw [if_neg c15] at H
        have c15b0 : decide (t275 < 0) = false := decide_eq_false c15
        clear c15
        replace H := Option.bind_eq_some_iff.mp H
        obtain ⟨t276, A200, H⟩ := H
        replace H : (if t276 < 0 then (some (-1)) else ((laws_heldAnswerS.f k l0_5 t276).bind fun t277 => (if t277 < 0 then (some (-1)) else (some t277)))) = some r := H
        have A20 := Aside0.mk A200
        clear A200
        by_cases c21 : t276 < 0
        · rw [if_pos c21] at H
          have c21b0 : decide (t276 < 0) = true := decide_eq_true c21
          clear c21
          obtain rfl := Option.some.inj H
          go_enter Try.func49, Try.ntmps49
          go_wp2_with (first | ((with_reducible refine gate_dst (N := 2) rfl ?_); refine box_event ?hg (N := 2) ?hd (cs := #[.slice A0_0 l0_0.length c0_0, .slice A0_1 l0_1.length c0_1, .slice A0_2 l0_2.length c0_2, .int .i64 a0_3, .slice A0_4 l0_4.length c0_4, .slice A0_5 l0_5.length c0_5]) (t := 80) ?hr ?_; (case hd => rfl); (case hg => rfl); (case hr => first | (go_simp; done) | (go_simp; rfl)); intro gb272 hg w22 hbox hb; have BK272 := Aside0.mk (hbox); have GW272 := Aside0.mk ((by rw [hg]; exact (below_size (qf0_)) : w.heap.size ≤ gb272)); have GE272 := Aside0.mk ((by rw [hg]; exact (below_size (qf0_)) : w.heap.size ≤ gb272)); replace HB := Aside0.mk (below_step (qf0_) hb); clear hb hbox hg; have hcz23_0 : w22.cell? ⟨gb272, 0, none⟩ = some (.slice A0_0 l0_0.length c0_0) := bc_ BK272 0; have hcz23_1 : w22.cell? ⟨gb272, 1, none⟩ = some (.slice A0_1 l0_1.length c0_1) := bc_ BK272 1; have hcz23_2 : w22.cell? ⟨gb272, 2, none⟩ = some (.slice A0_2 l0_2.length c0_2) := bc_ BK272 2; have hcz23_3 : w22.cell? ⟨gb272, 3, none⟩ = some (.int .i64 a0_3) := bc_ BK272 3; have hcz23_4 : w22.cell? ⟨gb272, 4, none⟩ = some (.slice A0_4 l0_4.length c0_4) := bc_ BK272 4; have hcz23_5 : w22.cell? ⟨gb272, 5, none⟩ = some (.slice A0_5 l0_5.length c0_5) := bc_ BK272 5; have hfz23_0 := blk_frozen BK272.out 0; have hfz23_1 := blk_frozen BK272.out 1; have hfz23_2 := blk_frozen BK272.out 2; have hfz23_3 := blk_frozen BK272.out 3; have hfz23_4 := blk_frozen BK272.out 4; have hfz23_5 := blk_frozen BK272.out 5) | ((with_reducible refine gate_callee (f := 92) rfl ?_); refine goesL_ (some 8) rfl rfl Try.func92 (by kernel_rfl) rfl #[.slice A0_0 l0_0.length c0_0, .int .i64 a1] rfl (qf2_) ?_; (with_reducible refine (laws_heldRowS.calls k _ _ l0_0 a1 t273 _ ?side1 ?side2 A3.out).mono ?_); (case side1 => repeat (first | exact (Kd.C_below HR0_0.out HB.out) | (with_reducible refine Kd.C_alloc ?_ _) | (with_reducible refine Kd.C_drewN ?_ _) | (with_reducible refine Kd.C_drew ?_))); (case side2 => exact HC0_0.out); rintro e w24 ⟨rfl, hb⟩; refine ⟨_, rfl, ?_⟩; replace BK272 := Aside0.mk (blk_below (g := gb272) (o := .cells #[.slice A0_0 l0_0.length c0_0, .slice A0_1 l0_1.length c0_1, .slice A0_2 l0_2.length c0_2, .int .i64 a0_3, .slice A0_4 l0_4.length c0_4, .slice A0_5 l0_5.length c0_5] 80 (0, 0)) (bq_ BK272.out) hb); replace HB := Aside0.mk (below_step (qf1_) hb); (try clear hb); (try clear hb2); (try clear hk); (try clear hi); have hcz25_0 : w24.cell? ⟨gb272, 0, none⟩ = some (.slice A0_0 l0_0.length c0_0) := bc_ BK272 0; have hcz25_1 : w24.cell? ⟨gb272, 1, none⟩ = some (.slice A0_1 l0_1.length c0_1) := bc_ BK272 1; have hcz25_2 : w24.cell? ⟨gb272, 2, none⟩ = some (.slice A0_2 l0_2.length c0_2) := bc_ BK272 2; have hcz25_3 : w24.cell? ⟨gb272, 3, none⟩ = some (.int .i64 a0_3) := bc_ BK272 3; have hcz25_4 : w24.cell? ⟨gb272, 4, none⟩ = some (.slice A0_4 l0_4.length c0_4) := bc_ BK272 4; have hcz25_5 : w24.cell? ⟨gb272, 5, none⟩ = some (.slice A0_5 l0_5.length c0_5) := bc_ BK272 5; have hfz25_0 := blk_frozen BK272.out 0; have hfz25_1 := blk_frozen BK272.out 1; have hfz25_2 := blk_frozen BK272.out 2; have hfz25_3 := blk_frozen BK272.out 3; have hfz25_4 := blk_frozen BK272.out 4; have hfz25_5 := blk_frozen BK272.out 5) | ((with_reducible refine gate_callee (f := 28) rfl ?_); refine goesL_ (some 14) rfl rfl Try.func28 (by kernel_rfl) rfl #[.slice A0_1 l0_1.length c0_1, .int .i64 t273] rfl (qf2_) ?_; (with_reducible refine (laws_heldMakerS.calls k _ _ l0_1 t273 t274 _ ?side1 ?side2 A8.out).mono ?_); (case side1 => repeat (first | exact (Kd.C_below HR0_1.out HB.out) | (with_reducible refine Kd.C_alloc ?_ _) | (with_reducible refine Kd.C_drewN ?_ _) | (with_reducible refine Kd.C_drew ?_))); (case side2 => exact HC0_1.out); rintro e w' ⟨rfl, ⟨nd, rfl⟩⟩; refine ⟨_, rfl, ?_⟩) | ((with_reducible refine gate_callee (f := 93) rfl ?_); refine goesL_ (some 20) rfl rfl Try.func93 (by kernel_rfl) rfl #[.slice A0_2 l0_2.length c0_2, .int .i64 t274] rfl (qf2_) ?_; (with_reducible refine (laws_heldGroupS.calls k _ _ l0_2 t274 t275 _ ?side1 ?side2 A14.out).mono ?_); (case side1 => repeat (first | exact (Kd.C_below HR0_2.out (qf1_)) | (with_reducible refine Kd.C_alloc ?_ _) | (with_reducible refine Kd.C_drewN ?_ _) | (with_reducible refine Kd.C_drew ?_))); (case side2 => exact HC0_2.out); rintro e w' ⟨rfl, ⟨nd, rfl⟩⟩; refine ⟨_, rfl, ?_⟩) | ((with_reducible refine gate_callee (f := 94) rfl ?_); refine goesL_ (some 26) rfl rfl Try.func94 (by kernel_rfl) rfl #[.slice A0_4 l0_4.length c0_4, .int .i64 t275] rfl (qf2_) ?_; (with_reducible refine (laws_heldIntS.calls k _ _ l0_4 t275 t276 _ ?side1 ?side2 A20.out).mono ?_); (case side1 => repeat (first | exact (Kd.C_below HR0_4.out (qf1_)) | (with_reducible refine Kd.C_alloc ?_ _) | (with_reducible refine Kd.C_drewN ?_ _) | (with_reducible refine Kd.C_drew ?_))); (case side2 => exact HC0_4.out); rintro e w' ⟨rfl, ⟨nd, rfl⟩⟩; refine ⟨_, rfl, ?_⟩))
          go_ret
          exact ⟨qf3_, qf1_⟩
        · rw [if_neg c21] at H
          have c21b0 : decide (t276 < 0) = false := decide_eq_false c21
          clear c21
          replace H := Option.bind_eq_some_iff.mp H
          obtain ⟨t277, A260, H⟩ := H
          replace H : (if t277 < 0 then (some (-1)) else (some t277)) = some r := H
          have A26 := Aside0.mk A260
          clear A260
          by_cases c27 : t277 < 0
          · rw [if_pos c27] at H
            have c27b0 : decide (t277 < 0) = true := decide_eq_true c27
            clear c27
            obtain rfl := Option.some.inj H
            go_enter Try.func49, Try.ntmps49
            go_wp2_with (first | ((with_reducible refine gate_dst (N := 2) rfl ?_); refine box_event ?hg (N := 2) ?hd (cs := #[.slice A0_0 l0_0.length c0_0, .slice A0_1 l0_1.length c0_1, .slice A0_2 l0_2.length c0_2, .int .i64 a0_3, .slice A0_4 l0_4.length c0_4, .slice A0_5 l0_5.length c0_5]) (t := 80) ?hr ?_; (case hd => rfl); (case hg => rfl); (case hr => first | (go_simp; done) | (go_simp; rfl)); intro gb272 hg w28 hbox hb; have BK272 := Aside0.mk (hbox); have GW272 := Aside0.mk ((by rw [hg]; exact (below_size (qf0_)) : w.heap.size ≤ gb272)); have GE272 := Aside0.mk ((by rw [hg]; exact (below_size (qf0_)) : w.heap.size ≤ gb272)); replace HB := Aside0.mk (below_step (qf0_) hb); clear hb hbox hg; have hcz29_0 : w28.cell? ⟨gb272, 0, none⟩ = some (.slice A0_0 l0_0.length c0_0) := bc_ BK272 0; have hcz29_1 : w28.cell? ⟨gb272, 1, none⟩ = some (.slice A0_1 l0_1.length c0_1) := bc_ BK272 1; have hcz29_2 : w28.cell? ⟨gb272, 2, none⟩ = some (.slice A0_2 l0_2.length c0_2) := bc_ BK272 2; have hcz29_3 : w28.cell? ⟨gb272, 3, none⟩ = some (.int .i64 a0_3) := bc_ BK272 3; have hcz29_4 : w28.cell? ⟨gb272, 4, none⟩ = some (.slice A0_4 l0_4.length c0_4) := bc_ BK272 4; have hcz29_5 : w28.cell? ⟨gb272, 5, none⟩ = some (.slice A0_5 l0_5.length c0_5) := bc_ BK272 5; have hfz29_0 := blk_frozen BK272.out 0; have hfz29_1 := blk_frozen BK272.out 1; have hfz29_2 := blk_frozen BK272.out 2; have hfz29_3 := blk_frozen BK272.out 3; have hfz29_4 := blk_frozen BK272.out 4; have hfz29_5 := blk_frozen BK272.out 5) | ((with_reducible refine gate_callee (f := 92) rfl ?_); refine goesL_ (some 8) rfl rfl Try.func92 (by kernel_rfl) rfl #[.slice A0_0 l0_0.length c0_0, .int .i64 a1] rfl (qf2_) ?_; (with_reducible refine (laws_heldRowS.calls k _ _ l0_0 a1 t273 _ ?side1 ?side2 A3.out).mono ?_); (case side1 => repeat (first | exact (Kd.C_below HR0_0.out HB.out) | (with_reducible refine Kd.C_alloc ?_ _) | (with_reducible refine Kd.C_drewN ?_ _) | (with_reducible refine Kd.C_drew ?_))); (case side2 => exact HC0_0.out); rintro e w30 ⟨rfl, hb⟩; refine ⟨_, rfl, ?_⟩; replace BK272 := Aside0.mk (blk_below (g := gb272) (o := .cells #[.slice A0_0 l0_0.length c0_0, .slice A0_1 l0_1.length c0_1, .slice A0_2 l0_2.length c0_2, .int .i64 a0_3, .slice A0_4 l0_4.length c0_4, .slice A0_5 l0_5.length c0_5] 80 (0, 0)) (bq_ BK272.out) hb); replace HB := Aside0.mk (below_step (qf1_) hb); (try clear hb); (try clear hb2); (try clear hk); (try clear hi); have hcz31_0 : w30.cell? ⟨gb272, 0, none⟩ = some (.slice A0_0 l0_0.length c0_0) := bc_ BK272 0; have hcz31_1 : w30.cell? ⟨gb272, 1, none⟩ = some (.slice A0_1 l0_1.length c0_1) := bc_ BK272 1; have hcz31_2 : w30.cell? ⟨gb272, 2, none⟩ = some (.slice A0_2 l0_2.length c0_2) := bc_ BK272 2; have hcz31_3 : w30.cell? ⟨gb272, 3, none⟩ = some (.int .i64 a0_3) := bc_ BK272 3; have hcz31_4 : w30.cell? ⟨gb272, 4, none⟩ = some (.slice A0_4 l0_4.length c0_4) := bc_ BK272 4; have hcz31_5 : w30.cell? ⟨gb272, 5, none⟩ = some (.slice A0_5 l0_5.length c0_5) := bc_ BK272 5; have hfz31_0 := blk_frozen BK272.out 0; have hfz31_1 := blk_frozen BK272.out 1; have hfz31_2 := blk_frozen BK272.out 2; have hfz31_3 := blk_frozen BK272.out 3; have hfz31_4 := blk_frozen BK272.out 4; have hfz31_5 := blk_frozen BK272.out 5) | ((with_reducible refine gate_callee (f := 28) rfl ?_); refine goesL_ (some 14) rfl rfl Try.func28 (by kernel_rfl) rfl #[.slice A0_1 l0_1.length c0_1, .int .i64 t273] rfl (qf2_) ?_; (with_reducible refine (laws_heldMakerS.calls k _ _ l0_1 t273 t274 _ ?side1 ?side2 A8.out).mono ?_); (case side1 => repeat (first | exact (Kd.C_below HR0_1.out HB.out) | (with_reducible refine Kd.C_alloc ?_ _) | (with_reducible refine Kd.C_drewN ?_ _) | (with_reducible refine Kd.C_drew ?_))); (case side2 => exact HC0_1.out); rintro e w' ⟨rfl, ⟨nd, rfl⟩⟩; refine ⟨_, rfl, ?_⟩) | ((with_reducible refine gate_callee (f := 93) rfl ?_); refine goesL_ (some 20) rfl rfl Try.func93 (by kernel_rfl) rfl #[.slice A0_2 l0_2.length c0_2, .int .i64 t274] rfl (qf2_) ?_; (with_reducible refine (laws_heldGroupS.calls k _ _ l0_2 t274 t275 _ ?side1 ?side2 A14.out).mono ?_); (case side1 => repeat (first | exact (Kd.C_below HR0_2.out (qf1_)) | (with_reducible refine Kd.C_alloc ?_ _) | (with_reducible refine Kd.C_drewN ?_ _) | (with_reducible refine Kd.C_drew ?_))); (case side2 => exact HC0_2.out); rintro e w' ⟨rfl, ⟨nd, rfl⟩⟩; refine ⟨_, rfl, ?_⟩) | ((with_reducible refine gate_callee (f := 94) rfl ?_); refine goesL_ (some 26) rfl rfl Try.func94 (by kernel_rfl) rfl #[.slice A0_4 l0_4.length c0_4, .int .i64 t275] rfl (qf2_) ?_; (with_reducible refine (laws_heldIntS.calls k _ _ l0_4 t275 t276 _ ?side1 ?side2 A20.out).mono ?_); (case side1 => repeat (first | exact (Kd.C_below HR0_4.out (qf1_)) | (with_reducible refine Kd.C_alloc ?_ _) | (with_reducible refine Kd.C_drewN ?_ _) | (with_reducible refine Kd.C_drew ?_))); (case side2 => exact HC0_4.out); rintro e w' ⟨rfl, ⟨nd, rfl⟩⟩; refine ⟨_, rfl, ?_⟩) | ((with_reducible refine gate_callee (f := 95) rfl ?_); refine goesL_ (some 32) rfl rfl Try.func95 (by kernel_rfl) rfl #[.slice A0_5 l0_5.length c0_5, .int .i64 t276] rfl (qf2_) ?_; (with_reducible refine (laws_heldAnswerS.calls k _ _ l0_5 t276 t277 _ ?side1 ?side2 A26.out).mono ?_); (case side1 => repeat (first | exact (Kd.C_below HR0_5.out (qf1_)) | (with_reducible refine Kd.C_alloc ?_ _) | (with_reducible refine Kd.C_drewN ?_ _) | (with_reducible refine Kd.C_drew ?_))); (case side2 => exact HC0_5.out); rintro e w32 ⟨rfl, hb⟩; refine ⟨_, rfl, ?_⟩; replace BK272 := Aside0.mk (blk_below (g := gb272) (o := .cells #[.slice A0_0 l0_0.length c0_0, .slice A0_1 l0_1.length c0_1, .slice A0_2 l0_2.length c0_2, .int .i64 a0_3, .slice A0_4 l0_4.length c0_4, .slice A0_5 l0_5.length c0_5] 80 (0, 0)) (bq_ BK272.out) hb); replace HB := Aside0.mk (below_step (qf1_) hb); (try clear hb); (try clear hb2); (try clear hk); (try clear hi)))
            go_ret
            exact ⟨qf3_, qf1_⟩
          · rw [if_neg c27] at H
            have c27b0 : decide (t277 < 0) = false := decide_eq_false c27
            clear c27
            obtain rfl := Option.some.inj H
            go_enter Try.func49, Try.ntmps49
            go_wp2_with (first | ((with_reducible refine gate_dst (N := 2) rfl ?_); refine box_event ?hg (N := 2) ?hd (cs := #[.slice A0_0 l0_0.length c0_0, .slice A0_1 l0_1.length c0_1, .slice A0_2 l0_2.length c0_2, .int .i64 a0_3, .slice A0_4 l0_4.length c0_4, .slice A0_5 l0_5.length c0_5]) (t := 80) ?hr ?_; (case hd => rfl); (case hg => rfl); (case hr => first | (go_simp; done) | (go_simp; rfl)); intro gb272 hg w33 hbox hb; have BK272 := Aside0.mk (hbox); have GW272 := Aside0.mk ((by rw [hg]; exact (below_size (qf0_)) : w.heap.size ≤ gb272)); have GE272 := Aside0.mk ((by rw [hg]; exact (below_size (qf0_)) : w.heap.size ≤ gb272)); replace HB := Aside0.mk (below_step (qf0_) hb); clear hb hbox hg; have hcz34_0 : w33.cell? ⟨gb272, 0, none⟩ = some (.slice A0_0 l0_0.length c0_0) := bc_ BK272 0; have hcz34_1 : w33.cell? ⟨gb272, 1, none⟩ = some (.slice A0_1 l0_1.length c0_1) := bc_ BK272 1; have hcz34_2 : w33.cell? ⟨gb272, 2, none⟩ = some (.slice A0_2 l0_2.length c0_2) := bc_ BK272 2; have hcz34_3 : w33.cell? ⟨gb272, 3, none⟩ = some (.int .i64 a0_3) := bc_ BK272 3; have hcz34_4 : w33.cell? ⟨gb272, 4, none⟩ = some (.slice A0_4 l0_4.length c0_4) := bc_ BK272 4; have hcz34_5 : w33.cell? ⟨gb272, 5, none⟩ = some (.slice A0_5 l0_5.length c0_5) := bc_ BK272 5; have hfz34_0 := blk_frozen BK272.out 0; have hfz34_1 := blk_frozen BK272.out 1; have hfz34_2 := blk_frozen BK272.out 2; have hfz34_3 := blk_frozen BK272.out 3; have hfz34_4 := blk_frozen BK272.out 4; have hfz34_5 := blk_frozen BK272.out 5) | ((with_reducible refine gate_callee (f := 92) rfl ?_); refine goesL_ (some 8) rfl rfl Try.func92 (by kernel_rfl) rfl #[.slice A0_0 l0_0.length c0_0, .int .i64 a1] rfl (qf2_) ?_; (with_reducible refine (laws_heldRowS.calls k _ _ l0_0 a1 t273 _ ?side1 ?side2 A3.out).mono ?_); (case side1 => repeat (first | exact (Kd.C_below HR0_0.out HB.out) | (with_reducible refine Kd.C_alloc ?_ _) | (with_reducible refine Kd.C_drewN ?_ _) | (with_reducible refine Kd.C_drew ?_))); (case side2 => exact HC0_0.out); rintro e w35 ⟨rfl, hb⟩; refine ⟨_, rfl, ?_⟩; replace BK272 := Aside0.mk (blk_below (g := gb272) (o := .cells #[.slice A0_0 l0_0.length c0_0, .slice A0_1 l0_1.length c0_1, .slice A0_2 l0_2.length c0_2, .int .i64 a0_3, .slice A0_4 l0_4.length c0_4, .slice A0_5 l0_5.length c0_5] 80 (0, 0)) (bq_ BK272.out) hb); replace HB := Aside0.mk (below_step (qf1_) hb); (try clear hb); (try clear hb2); (try clear hk); (try clear hi); have hcz36_0 : w35.cell? ⟨gb272, 0, none⟩ = some (.slice A0_0 l0_0.length c0_0) := bc_ BK272 0; have hcz36_1 : w35.cell? ⟨gb272, 1, none⟩ = some (.slice A0_1 l0_1.length c0_1) := bc_ BK272 1; have hcz36_2 : w35.cell? ⟨gb272, 2, none⟩ = some (.slice A0_2 l0_2.length c0_2) := bc_ BK272 2; have hcz36_3 : w35.cell? ⟨gb272, 3, none⟩ = some (.int .i64 a0_3) := bc_ BK272 3; have hcz36_4 : w35.cell? ⟨gb272, 4, none⟩ = some (.slice A0_4 l0_4.length c0_4) := bc_ BK272 4; have hcz36_5 : w35.cell? ⟨gb272, 5, none⟩ = some (.slice A0_5 l0_5.length c0_5) := bc_ BK272 5; have hfz36_0 := blk_frozen BK272.out 0; have hfz36_1 := blk_frozen BK272.out 1; have hfz36_2 := blk_frozen BK272.out 2; have hfz36_3 := blk_frozen BK272.out 3; have hfz36_4 := blk_frozen BK272.out 4; have hfz36_5 := blk_frozen BK272.out 5) | ((with_reducible refine gate_callee (f := 28) rfl ?_); refine goesL_ (some 14) rfl rfl Try.func28 (by kernel_rfl) rfl #[.slice A0_1 l0_1.length c0_1, .int .i64 t273] rfl (qf2_) ?_; (with_reducible refine (laws_heldMakerS.calls k _ _ l0_1 t273 t274 _ ?side1 ?side2 A8.out).mono ?_); (case side1 => repeat (first | exact (Kd.C_below HR0_1.out HB.out) | (with_reducible refine Kd.C_alloc ?_ _) | (with_reducible refine Kd.C_drewN ?_ _) | (with_reducible refine Kd.C_drew ?_))); (case side2 => exact HC0_1.out); rintro e w' ⟨rfl, ⟨nd, rfl⟩⟩; refine ⟨_, rfl, ?_⟩) | ((with_reducible refine gate_callee (f := 93) rfl ?_); refine goesL_ (some 20) rfl rfl Try.func93 (by kernel_rfl) rfl #[.slice A0_2 l0_2.length c0_2, .int .i64 t274] rfl (qf2_) ?_; (with_reducible refine (laws_heldGroupS.calls k _ _ l0_2 t274 t275 _ ?side1 ?side2 A14.out).mono ?_); (case side1 => repeat (first | exact (Kd.C_below HR0_2.out (qf1_)) | (with_reducible refine Kd.C_alloc ?_ _) | (with_reducible refine Kd.C_drewN ?_ _) | (with_reducible refine Kd.C_drew ?_))); (case side2 => exact HC0_2.out); rintro e w' ⟨rfl, ⟨nd, rfl⟩⟩; refine ⟨_, rfl, ?_⟩) | ((with_reducible refine gate_callee (f := 94) rfl ?_); refine goesL_ (some 26) rfl rfl Try.func94 (by kernel_rfl) rfl #[.slice A0_4 l0_4.length c0_4, .int .i64 t275] rfl (qf2_) ?_; (with_reducible refine (laws_heldIntS.calls k _ _ l0_4 t275 t276 _ ?side1 ?side2 A20.out).mono ?_); (case side1 => repeat (first | exact (Kd.C_below HR0_4.out (qf1_)) | (with_reducible refine Kd.C_alloc ?_ _) | (with_reducible refine Kd.C_drewN ?_ _) | (with_reducible refine Kd.C_drew ?_))); (case side2 => exact HC0_4.out); rintro e w' ⟨rfl, ⟨nd, rfl⟩⟩; refine ⟨_, rfl, ?_⟩) | ((with_reducible refine gate_callee (f := 95) rfl ?_); refine goesL_ (some 32) rfl rfl Try.func95 (by kernel_rfl) rfl #[.slice A0_5 l0_5.length c0_5, .int .i64 t276] rfl (qf2_) ?_; (with_reducible refine (laws_heldAnswerS.calls k _ _ l0_5 t276 t277 _ ?side1 ?side2 A26.out).mono ?_); (case side1 => repeat (first | exact (Kd.C_below HR0_5.out (qf1_)) | (with_reducible refine Kd.C_alloc ?_ _) | (with_reducible refine Kd.C_drewN ?_ _) | (with_reducible refine Kd.C_drew ?_))); (case side2 => exact HC0_5.out); rintro e w37 ⟨rfl, hb⟩; refine ⟨_, rfl, ?_⟩; replace BK272 := Aside0.mk (blk_below (g := gb272) (o := .cells #[.slice A0_0 l0_0.length c0_0, .slice A0_1 l0_1.length c0_1, .slice A0_2 l0_2.length c0_2, .int .i64 a0_3, .slice A0_4 l0_4.length c0_4, .slice A0_5 l0_5.length c0_5] 80 (0, 0)) (bq_ BK272.out) hb); replace HB := Aside0.mk (below_step (qf1_) hb); (try clear hb); (try clear hb2); (try clear hk); (try clear hi)))
            go_ret
            exact ⟨qf3_, qf1_⟩

/-! ### laws_markMakerS: function 21 -/
def laws_markMakerS.l0 : Nat → List (S_Maker) → Int → Int → Option (Int × (List (S_Maker)))
  | 0, _, _, _ => none
  | k + 1, x0, x1, x5 => if x5 < (x0.length : Int) then (if 0 ≤ x5 then ((laws_markMarkS.f k ((rd_Maker x0 x5).f4) (wrap64 (wrap64 (wrap64 (wrap64 (x1 + 1) + 1) + 1) + 1))).bind fun b0 => laws_markMakerS.l0 k (x0.set (x5 : Int).toNat (⟨x1, (wrap64 (x1 + 1)), (wrap64 (wrap64 (x1 + 1) + 1)), (wrap64 (wrap64 (wrap64 (x1 + 1) + 1) + 1)), b0.2⟩ : S_Maker)) b0.1 (wrap64 (x5 + 1))) else (none)) else (some (x1, x0))
def laws_markMakerS.f (k : Nat) (l0 : List (S_Maker)) (a1 : Int) : Option (Int × (List (S_Maker))) := laws_markMakerS.l0 k l0 a1 0
theorem laws_markMakerS.mono_l : ∀ k, (∀ y0 y1 y2, LeO (laws_markMakerS.l0 k y0 y1 y2) (laws_markMakerS.l0 (k + 1) y0 y1 y2))
  | 0 => fun _ _ _ r h => by simp [laws_markMakerS.l0] at h
  | k + 1 => by
    have ih0 := laws_markMakerS.mono_l k
    intro y0 y1 y2
    unfold laws_markMakerS.l0
    refine LeO.ite (LeO.ite ?_ (LeO.none _)) (LeO.refl _)
    refine LeO.bind (laws_markMarkS.mono _ _ _) (fun _ => ?_)
    exact ih0 _ _ _
theorem laws_markMakerS.mono : ∀ a0 a1 k, LeO (laws_markMakerS.f k a0 a1) (laws_markMakerS.f (k + 1) a0 a1) := fun a0 a1 k => laws_markMakerS.mono_l k _ _ _
set_option maxHeartbeats 16000000 in
set_option maxRecDepth 100000 in
theorem laws_markMakerS.calls0 (k : Nat) (P0_ : Nat → Prop) (u9000_ : Value) (l0 : List (S_Maker)) (a1 : Int) (r1 : Int) (r2 : List (S_Maker)) (w0 w : World) (hB : Below w0.heap.size w0 w) (ho0 : Kd.S k_Maker 38 w w0.heap.size P0_ u9000_ l0) (h : laws_markMakerS.f k l0 a1 = some (r1, r2)) :
    Calls Try.prog 21 #[u9000_, .int .i64 a1] w fun e w' => e = .returned (.int .i64 r1) ∧ Kd.S k_Maker 38 w' w0.heap.size P0_ u9000_ r2 ∧ Below w0.heap.size w0 w' ∧ Kept w w' (fun k_ => P0_ k_) := by
  have hu := Try.underlying38
  have HO := Aside0.mk (show Kd.S k_Maker 38 w w0.heap.size P0_ u9000_ l0 from ho0)
  have HK := Aside0.mk (Kept.refl w (fun k_ => P0_ k_))
  have HB := Aside0.mk hB
  have H' : Aside0 (laws_markMakerS.l0 k l0 a1 0 = some (r1, r2)) := ⟨h⟩
  obtain ⟨A0, c0, e0⟩ := Kd.S_slice ho0
  subst e0
  clear h hB ho0
  go_enter Try.func21, Try.ntmps21
  go_wp2
  go_loopg [1, 5] k (fun kq v1 v5 w' => ∃ (x0 : List (S_Maker)) (x1 x5 : Int), v1 = .int .i64 x1 ∧ v5 = .int .i64 x5 ∧ Aside0 (laws_markMakerS.l0 kq x0 x1 x5 = some (r1, r2)) ∧ Aside0 (kq ≤ k) ∧ Aside0 (Kd.S k_Maker 38 w' w0.heap.size P0_ (.slice A0 l0.length c0) x0) ∧ Aside0 (Kept w w' (fun k_ => P0_ k_)) ∧ Aside0 (Below w0.heap.size w0 w'))
  case atStart => exact ⟨l0, a1, 0, rfl, rfl, H', ⟨Nat.le_refl _⟩, HO, HK, HB⟩
  case round =>
    clear H' HO HK HB
    obtain ⟨x0, x1, x5, rfl, rfl, HA, HK1, HO, HK, HB⟩ := hrel
    cases gk with
    | zero => exact absurd HA.out (by simp [laws_markMakerS.l0])
    | succ k1 =>
      have H := HA.out
      clear HA
      simp only [laws_markMakerS.l0] at H
      have hlen := (Kd.S_reads' HO.out).1
      by_cases c1 : x5 < (x0.length : Int)
      · rw [if_pos c1] at H
        by_cases c2 : 0 ≤ x5
        · rw [if_pos c2] at H
          obtain ⟨⟨s0, m0⟩, Q0, H⟩ := Option.bind_eq_some_iff.mp H
          have Q0 := Aside0.mk Q0
          have H' := Aside0.mk H
          clear H
          have hlt : x5 < (l0.length : Int) := by omega
          have c1d : decide (x5 < (l0.length : Int)) = true := decide_eq_true hlt
          have c2d : decide (0 ≤ x5) = true := decide_eq_true c2
          obtain ⟨g, cap, eg, gb, gl, cl, HG⟩ := Kd.S_form HO.out (by omega)
          injection eg with ea_ en_ ec_
          subst ea_
          subst ec_
          clear en_ hlen
          obtain ⟨oki, ce, hcl, hM, hcc, hfr, hoki, hH⟩ := Kd.S_elem HO.out z_Maker x5 c2 hlt
          change k_Maker.M wr w0.heap.size oki (rd_Maker x0 x5) ce at hM
          obtain ⟨v4, rfl, R4⟩ := k_Maker_openM hM
          obtain ⟨A4, d4, rfl⟩ := Kd.R_slice R4
          have GP : Aside0 (P0_ g ∨ w.heap.size ≤ g) := ⟨.inl ((Kd.S_R HO.out).1 g (by simp [Value.ownBlock]))⟩
          have GB := Aside0.mk gb
          have HI := Aside0.mk hoki
          have hz : ∀ {W : World} {c' : List Value}, Kd.H k_Maker 38 W w0.heap.size P0_ (.slice (some ⟨g, 0, none⟩) l0.length c0) x0 x5 oki c' → (∀ j u, c'[j]? = some u → W.cell? ⟨g, x5.toNat * 5 + j, none⟩ = some u) ∧ ∀ j, W.frozen? ⟨g, x5.toNat * 5 + j, none⟩ = false := fun hH_ => by
            obtain ⟨_, _, _, _, _, hc_, _⟩ := Kd.H_raw hH_ c2 hlt
            obtain ⟨_, _, hR_⟩ := hH_
            obtain ⟨_, _, _, _, hf_⟩ := Kd.R_elem hR_ (z_Maker, 0) x5 c2 hlt
            exact ⟨hc_, hf_⟩
          have HZ := Aside0.mk (@hz)
          have HH := Aside0.mk hH
          have RR4 := Aside0.mk R4
          have hx_0 : wr.cell? ⟨g, x5.toNat * 5, none⟩ = some (.int .i64 (rd_Maker x0 x5).f0) := hcc 0 _ rfl
          have hf_0 : wr.frozen? ⟨g, x5.toNat * 5, none⟩ = false := hfr 0
          clear hcl hM hcc hfr hoki hH gb gl HG hz R4
          go_wp2_with (first | ((with_reducible refine gate_store (t := 3) (p := 16) rfl ?_); refine store_event (t := 3) (p := 16) (v := ?vo_ws0) (w1 := (wr.setCell ⟨g, x5.toNat * 5, none⟩ (.int .i64 x1))) ?hg ?ho ?hn ?hr ?_; (case ho => rfl); (case hg => rfl); (case hn => rfl); (case hr => first | (go_simp; done) | (go_simp; rfl)); intro ws0 hw; have hs_ := Kd.H_seg HH.out c2 hlt (seg := [.int .i64 x1]) (j := 0) (show 1 ≤ 5 from by decide) (qf5_); have hh_ : Kd.H k_Maker 38 ws0 w0.heap.size P0_ (.slice (some ⟨g, 0, none⟩) l0.length c0) x0 x5 oki [.int .i64 x1, .int .i64 (rd_Maker x0 x5).f1, .int .i64 (rd_Maker x0 x5).f2, .int .i64 (rd_Maker x0 x5).f3, .slice A4 (rd_Maker x0 x5).f4.length d4] := (by rw [hw]; exact hs_.1); have hg_ : wr.grownBy ws0 (some g) := (by rw [hw]; exact hs_.2); have r4_ := Aside0.mk (Kd.R_grown RR4.out hg_ (fun k_ hk_ he_ => (HI.out k_ hk_).2 (by injection he_))); have b_ : Aside0 (Below w0.heap.size w0 ws0) := ⟨qf7_⟩; have k_ := Aside0.mk (Kept.of_grown (S := (fun k_ => P0_ k_)) hg_ HK.out (fun k_ e_ => by cases e_; exact GP.out)); clear hs_ hx_0 hf_0 HH HB HK RR4; have HH := Aside0.mk hh_; have HB := b_; have HK := k_; have RR4 := r4_; clear hh_ hg_ b_ k_ hw r4_; have hx_0 : ws0.cell? ⟨g, x5.toNat * 5 + 1, none⟩ = some (.int .i64 (rd_Maker x0 x5).f1) := (HZ.out HH.out).1 1 _ rfl; have hf_0 : ws0.frozen? ⟨g, x5.toNat * 5 + 1, none⟩ = false := (HZ.out HH.out).2 1) | ((with_reducible refine gate_store (t := 3) (p := 23) rfl ?_); refine store_event (t := 3) (p := 23) (v := ?vo_ws1) (w1 := (ws0.setCell ⟨g, x5.toNat * 5 + 1, none⟩ (.int .i64 (wrap64 (x1 + 1))))) ?hg ?ho ?hn ?hr ?_; (case ho => rfl); (case hg => rfl); (case hn => rfl); (case hr => first | (go_simp; done) | (go_simp; rfl)); intro ws1 hw; have hs_ := Kd.H_seg HH.out c2 hlt (seg := [.int .i64 (wrap64 (x1 + 1))]) (j := 1) (show 2 ≤ 5 from by decide) (qf5_); have hh_ : Kd.H k_Maker 38 ws1 w0.heap.size P0_ (.slice (some ⟨g, 0, none⟩) l0.length c0) x0 x5 oki [.int .i64 x1, .int .i64 (wrap64 (x1 + 1)), .int .i64 (rd_Maker x0 x5).f2, .int .i64 (rd_Maker x0 x5).f3, .slice A4 (rd_Maker x0 x5).f4.length d4] := (by rw [hw]; exact hs_.1); have hg_ : ws0.grownBy ws1 (some g) := (by rw [hw]; exact hs_.2); have r4_ := Aside0.mk (Kd.R_grown RR4.out hg_ (fun k_ hk_ he_ => (HI.out k_ hk_).2 (by injection he_))); have b_ : Aside0 (Below w0.heap.size w0 ws1) := ⟨qf7_⟩; have k_ := Aside0.mk (Kept.of_grown (S := (fun k_ => P0_ k_)) hg_ HK.out (fun k_ e_ => by cases e_; exact GP.out)); clear hs_ hx_0 hf_0 HH HB HK RR4; have HH := Aside0.mk hh_; have HB := b_; have HK := k_; have RR4 := r4_; clear hh_ hg_ b_ k_ hw r4_; have hx_0 : ws1.cell? ⟨g, x5.toNat * 5 + 2, none⟩ = some (.int .i64 (rd_Maker x0 x5).f2) := (HZ.out HH.out).1 2 _ rfl; have hf_0 : ws1.frozen? ⟨g, x5.toNat * 5 + 2, none⟩ = false := (HZ.out HH.out).2 2) | ((with_reducible refine gate_store (t := 3) (p := 30) rfl ?_); refine store_event (t := 3) (p := 30) (v := ?vo_ws2) (w1 := (ws1.setCell ⟨g, x5.toNat * 5 + 2, none⟩ (.int .i64 (wrap64 (wrap64 (x1 + 1) + 1))))) ?hg ?ho ?hn ?hr ?_; (case ho => rfl); (case hg => rfl); (case hn => rfl); (case hr => first | (go_simp; done) | (go_simp; rfl)); intro ws2 hw; have hs_ := Kd.H_seg HH.out c2 hlt (seg := [.int .i64 (wrap64 (wrap64 (x1 + 1) + 1))]) (j := 2) (show 3 ≤ 5 from by decide) (qf5_); have hh_ : Kd.H k_Maker 38 ws2 w0.heap.size P0_ (.slice (some ⟨g, 0, none⟩) l0.length c0) x0 x5 oki [.int .i64 x1, .int .i64 (wrap64 (x1 + 1)), .int .i64 (wrap64 (wrap64 (x1 + 1) + 1)), .int .i64 (rd_Maker x0 x5).f3, .slice A4 (rd_Maker x0 x5).f4.length d4] := (by rw [hw]; exact hs_.1); have hg_ : ws1.grownBy ws2 (some g) := (by rw [hw]; exact hs_.2); have r4_ := Aside0.mk (Kd.R_grown RR4.out hg_ (fun k_ hk_ he_ => (HI.out k_ hk_).2 (by injection he_))); have b_ : Aside0 (Below w0.heap.size w0 ws2) := ⟨qf7_⟩; have k_ := Aside0.mk (Kept.of_grown (S := (fun k_ => P0_ k_)) hg_ HK.out (fun k_ e_ => by cases e_; exact GP.out)); clear hs_ hx_0 hf_0 HH HB HK RR4; have HH := Aside0.mk hh_; have HB := b_; have HK := k_; have RR4 := r4_; clear hh_ hg_ b_ k_ hw r4_; have hx_0 : ws2.cell? ⟨g, x5.toNat * 5 + 3, none⟩ = some (.int .i64 (rd_Maker x0 x5).f3) := (HZ.out HH.out).1 3 _ rfl; have hf_0 : ws2.frozen? ⟨g, x5.toNat * 5 + 3, none⟩ = false := (HZ.out HH.out).2 3) | ((with_reducible refine gate_store (t := 3) (p := 37) rfl ?_); refine store_event (t := 3) (p := 37) (v := ?vo_ws3) (w1 := (ws2.setCell ⟨g, x5.toNat * 5 + 3, none⟩ (.int .i64 (wrap64 (wrap64 (wrap64 (x1 + 1) + 1) + 1))))) ?hg ?ho ?hn ?hr ?_; (case ho => rfl); (case hg => rfl); (case hn => rfl); (case hr => first | (go_simp; done) | (go_simp; rfl)); intro ws3 hw; have hs_ := Kd.H_seg HH.out c2 hlt (seg := [.int .i64 (wrap64 (wrap64 (wrap64 (x1 + 1) + 1) + 1))]) (j := 3) (show 4 ≤ 5 from by decide) (qf5_); have hh_ : Kd.H k_Maker 38 ws3 w0.heap.size P0_ (.slice (some ⟨g, 0, none⟩) l0.length c0) x0 x5 oki [.int .i64 x1, .int .i64 (wrap64 (x1 + 1)), .int .i64 (wrap64 (wrap64 (x1 + 1) + 1)), .int .i64 (wrap64 (wrap64 (wrap64 (x1 + 1) + 1) + 1)), .slice A4 (rd_Maker x0 x5).f4.length d4] := (by rw [hw]; exact hs_.1); have hg_ : ws2.grownBy ws3 (some g) := (by rw [hw]; exact hs_.2); have r4_ := Aside0.mk (Kd.R_grown RR4.out hg_ (fun k_ hk_ he_ => (HI.out k_ hk_).2 (by injection he_))); have b_ : Aside0 (Below w0.heap.size w0 ws3) := ⟨qf7_⟩; have k_ := Aside0.mk (Kept.of_grown (S := (fun k_ => P0_ k_)) hg_ HK.out (fun k_ e_ => by cases e_; exact GP.out)); clear hs_ hx_0 hf_0 HH HB HK RR4; have HH := Aside0.mk hh_; have HB := b_; have HK := k_; have RR4 := r4_; clear hh_ hg_ b_ k_ hw r4_; have hx_0 : ws3.cell? ⟨g, x5.toNat * 5 + 4, none⟩ = some (.slice A4 (rd_Maker x0 x5).f4.length d4) := (HZ.out HH.out).1 4 _ rfl; have hf_0 : ws3.frozen? ⟨g, x5.toNat * 5 + 4, none⟩ = false := (HZ.out HH.out).2 4) | (go_at_call 63; (with_reducible refine (laws_markMarkS.calls k1 oki (.slice A4 (rd_Maker x0 x5).f4.length d4) ((rd_Maker x0 x5).f4) (wrap64 (wrap64 (wrap64 (wrap64 (x1 + 1) + 1) + 1) + 1)) s0 m0 w0 _ HB.out RR4.out Q0.out).mono ?_); rintro e wc0 ⟨rfl, hr_, hb_, hk_⟩; have r_ := Aside0.mk (Kd.R_mono (Kd.R_tight rfl hr_) (fun k_ hk_ => RR4.out.1 k_ hk_.symm)); have hh_ := Kd.H_step HH.out (fun k_ _ hn_ hl_ => hk_.2 k_ hl_ (fun hk_h => hn_ (hk_h))); have kk_ := Aside0.mk (Kept.then_ HK.out hk_ (fun k_ hk_h => .inl (HI.out k_ (hk_h)).1)); have bb_ := Aside0.mk hb_; clear hk_ hb_ hr_ HH HK HB RR4 hx_0 hf_0; have HH := Aside0.mk hh_; have HK := kk_; have HB := bb_; have RR4 := r_; clear hh_ kk_ bb_ r_))
          have HM : Aside0 (Kd.S k_Maker 38 wc0 w0.heap.size P0_ (.slice (some ⟨g, 0, none⟩) l0.length c0) (x0.set x5.toNat (⟨x1, wrap64 (x1 + 1), wrap64 (wrap64 (x1 + 1) + 1), wrap64 (wrap64 (wrap64 (x1 + 1) + 1) + 1), m0⟩ : S_Maker))) := by
            obtain ⟨_, _, ev0⟩ := Kd.R_slice RR4.out
            have el0 : m0.length = (rd_Maker x0 x5).f4.length := by injection ev0 with _ h_ _; exact h_.symm
            exact ⟨Kd.H_back HH.out (okp := oki) (k_Maker_mkM _ _ _ (⟨x1, wrap64 (x1 + 1), wrap64 (wrap64 (x1 + 1) + 1), wrap64 (wrap64 (wrap64 (x1 + 1) + 1) + 1), m0⟩ : S_Maker) RR4.out) (fun _ hk_ => hk_)⟩
          clear HH RR4 HI HZ GP GB
          go_roundg k1
          case measure => have := HK1.out; omega
          case rel => exact ⟨_, _, _, by first | rfl | (simp; done), by first | rfl | (simp; done), H', ⟨by have := HK1.out; omega⟩, HM, HK, HB⟩
        · rw [if_neg c2] at H
          exact absurd H (by simp)
      · rw [if_neg c1] at H
        have c1d : decide (x5 < (l0.length : Int)) = false := decide_eq_false (by omega)
        clear hlen
        have E := Aside0.mk (Option.some.inj H)
        clear H c1
        go_wp2
        go_ret
        obtain ⟨rfl, rfl⟩ : x1 = r1 ∧ x0 = r2 := by have h_ := E.out; simpa using h_
        exact ⟨by first | rfl | simp, HO.out, HB.out, HK.out⟩
theorem laws_markMakerS.calls (k : Nat) (P0_ : Nat → Prop) (u9000_ : Value) (l0 : List (S_Maker)) (a1 : Int) (r1 : Int) (r2 : List (S_Maker)) (w0 w : World) (hB : Below w0.heap.size w0 w) (ho0 : Kd.S k_Maker 38 w w0.heap.size P0_ u9000_ l0) (h : laws_markMakerS.f k l0 a1 = some (r1, r2)) :
    Calls Try.prog 21 #[u9000_, .int .i64 a1] w fun e w' => e = .returned (.int .i64 r1) ∧ Kd.S k_Maker 38 w' w0.heap.size (fun k_ => (P0_ k_ ∨ w.heap.size ≤ k_)) u9000_ r2 ∧ Below w0.heap.size w0 w' ∧ Kept w w' (fun k_ => P0_ k_) :=
  (laws_markMakerS.calls0 k P0_ u9000_ l0 a1 r1 r2 w0 w hB ho0 h).mono (fun _ _ hx => ⟨hx.1, Kd.S_mono hx.2.1 (fun _ hk => .inl hk), hx.2.2.1, hx.2.2.2⟩)

/-! ### laws_markRowS: function 88 -/
def laws_markRowS.l0 : Nat → List (S_Row) → Int → Int → Option (Int × (List (S_Row)))
  | 0, _, _, _ => none
  | k + 1, x0, x1, x5 => if x5 < (x0.length : Int) then (if 0 ≤ x5 then ((laws_markItemS.f k ((rd_Row x0 x5).f2) (wrap64 (wrap64 (x1 + 1) + 1))).bind fun b0 => laws_markRowS.l0 k (x0.set (x5 : Int).toNat (⟨x1, (wrap64 (x1 + 1)), b0.2⟩ : S_Row)) b0.1 (wrap64 (x5 + 1))) else (none)) else (some (x1, x0))
def laws_markRowS.f (k : Nat) (l0 : List (S_Row)) (a1 : Int) : Option (Int × (List (S_Row))) := laws_markRowS.l0 k l0 a1 0
theorem laws_markRowS.mono_l : ∀ k, (∀ y0 y1 y2, LeO (laws_markRowS.l0 k y0 y1 y2) (laws_markRowS.l0 (k + 1) y0 y1 y2))
  | 0 => fun _ _ _ r h => by simp [laws_markRowS.l0] at h
  | k + 1 => by
    have ih0 := laws_markRowS.mono_l k
    intro y0 y1 y2
    unfold laws_markRowS.l0
    refine LeO.ite (LeO.ite ?_ (LeO.none _)) (LeO.refl _)
    refine LeO.bind (laws_markItemS.mono _ _ _) (fun _ => ?_)
    exact ih0 _ _ _
theorem laws_markRowS.mono : ∀ a0 a1 k, LeO (laws_markRowS.f k a0 a1) (laws_markRowS.f (k + 1) a0 a1) := fun a0 a1 k => laws_markRowS.mono_l k _ _ _
set_option maxHeartbeats 16000000 in
set_option maxRecDepth 100000 in
theorem laws_markRowS.calls0 (k : Nat) (P0_ : Nat → Prop) (u9000_ : Value) (l0 : List (S_Row)) (a1 : Int) (r1 : Int) (r2 : List (S_Row)) (w0 w : World) (hB : Below w0.heap.size w0 w) (ho0 : Kd.S k_Row 26 w w0.heap.size P0_ u9000_ l0) (h : laws_markRowS.f k l0 a1 = some (r1, r2)) :
    Calls Try.prog 88 #[u9000_, .int .i64 a1] w fun e w' => e = .returned (.int .i64 r1) ∧ Kd.S k_Row 26 w' w0.heap.size P0_ u9000_ r2 ∧ Below w0.heap.size w0 w' ∧ Kept w w' (fun k_ => P0_ k_) := by
  have hu := Try.underlying26
  have HO := Aside0.mk (show Kd.S k_Row 26 w w0.heap.size P0_ u9000_ l0 from ho0)
  have HK := Aside0.mk (Kept.refl w (fun k_ => P0_ k_))
  have HB := Aside0.mk hB
  have H' : Aside0 (laws_markRowS.l0 k l0 a1 0 = some (r1, r2)) := ⟨h⟩
  obtain ⟨A0, c0, e0⟩ := Kd.S_slice ho0
  subst e0
  clear h hB ho0
  go_enter Try.func88, Try.ntmps88
  go_wp2
  go_loopg [1, 5] k (fun kq v1 v5 w' => ∃ (x0 : List (S_Row)) (x1 x5 : Int), v1 = .int .i64 x1 ∧ v5 = .int .i64 x5 ∧ Aside0 (laws_markRowS.l0 kq x0 x1 x5 = some (r1, r2)) ∧ Aside0 (kq ≤ k) ∧ Aside0 (Kd.S k_Row 26 w' w0.heap.size P0_ (.slice A0 l0.length c0) x0) ∧ Aside0 (Kept w w' (fun k_ => P0_ k_)) ∧ Aside0 (Below w0.heap.size w0 w'))
  case atStart => exact ⟨l0, a1, 0, rfl, rfl, H', ⟨Nat.le_refl _⟩, HO, HK, HB⟩
  case round =>
    clear H' HO HK HB
    obtain ⟨x0, x1, x5, rfl, rfl, HA, HK1, HO, HK, HB⟩ := hrel
    cases gk with
    | zero => exact absurd HA.out (by simp [laws_markRowS.l0])
    | succ k1 =>
      have H := HA.out
      clear HA
      simp only [laws_markRowS.l0] at H
      have hlen := (Kd.S_reads' HO.out).1
      by_cases c1 : x5 < (x0.length : Int)
      · rw [if_pos c1] at H
        by_cases c2 : 0 ≤ x5
        · rw [if_pos c2] at H
          obtain ⟨⟨s0, m0⟩, Q0, H⟩ := Option.bind_eq_some_iff.mp H
          have Q0 := Aside0.mk Q0
          have H' := Aside0.mk H
          clear H
          have hlt : x5 < (l0.length : Int) := by omega
          have c1d : decide (x5 < (l0.length : Int)) = true := decide_eq_true hlt
          have c2d : decide (0 ≤ x5) = true := decide_eq_true c2
          obtain ⟨g, cap, eg, gb, gl, cl, HG⟩ := Kd.S_form HO.out (by omega)
          injection eg with ea_ en_ ec_
          subst ea_
          subst ec_
          clear en_ hlen
          obtain ⟨oki, ce, hcl, hM, hcc, hfr, hoki, hH⟩ := Kd.S_elem HO.out z_Row x5 c2 hlt
          change k_Row.M wr w0.heap.size oki (rd_Row x0 x5) ce at hM
          obtain ⟨v2, rfl, R2⟩ := k_Row_openM hM
          obtain ⟨A2, d2, rfl⟩ := Kd.R_slice R2
          have GP : Aside0 (P0_ g ∨ w.heap.size ≤ g) := ⟨.inl ((Kd.S_R HO.out).1 g (by simp [Value.ownBlock]))⟩
          have GB := Aside0.mk gb
          have HI := Aside0.mk hoki
          have hz : ∀ {W : World} {c' : List Value}, Kd.H k_Row 26 W w0.heap.size P0_ (.slice (some ⟨g, 0, none⟩) l0.length c0) x0 x5 oki c' → (∀ j u, c'[j]? = some u → W.cell? ⟨g, x5.toNat * 3 + j, none⟩ = some u) ∧ ∀ j, W.frozen? ⟨g, x5.toNat * 3 + j, none⟩ = false := fun hH_ => by
            obtain ⟨_, _, _, _, _, hc_, _⟩ := Kd.H_raw hH_ c2 hlt
            obtain ⟨_, _, hR_⟩ := hH_
            obtain ⟨_, _, _, _, hf_⟩ := Kd.R_elem hR_ (z_Row, 0) x5 c2 hlt
            exact ⟨hc_, hf_⟩
          have HZ := Aside0.mk (@hz)
          have HH := Aside0.mk hH
          have RR2 := Aside0.mk R2
          have hx_0 : wr.cell? ⟨g, x5.toNat * 3, none⟩ = some (.int .i64 (rd_Row x0 x5).f0) := hcc 0 _ rfl
          have hf_0 : wr.frozen? ⟨g, x5.toNat * 3, none⟩ = false := hfr 0
          clear hcl hM hcc hfr hoki hH gb gl HG hz R2
          go_wp2_with (first | ((with_reducible refine gate_store (t := 3) (p := 16) rfl ?_); refine store_event (t := 3) (p := 16) (v := ?vo_ws0) (w1 := (wr.setCell ⟨g, x5.toNat * 3, none⟩ (.int .i64 x1))) ?hg ?ho ?hn ?hr ?_; (case ho => rfl); (case hg => rfl); (case hn => rfl); (case hr => first | (go_simp; done) | (go_simp; rfl)); intro ws0 hw; have hs_ := Kd.H_seg HH.out c2 hlt (seg := [.int .i64 x1]) (j := 0) (show 1 ≤ 3 from by decide) (qf5_); have hh_ : Kd.H k_Row 26 ws0 w0.heap.size P0_ (.slice (some ⟨g, 0, none⟩) l0.length c0) x0 x5 oki [.int .i64 x1, .int .i64 (rd_Row x0 x5).f1, .slice A2 (rd_Row x0 x5).f2.length d2] := (by rw [hw]; exact hs_.1); have hg_ : wr.grownBy ws0 (some g) := (by rw [hw]; exact hs_.2); have r2_ := Aside0.mk (Kd.R_grown RR2.out hg_ (fun k_ hk_ he_ => (HI.out k_ hk_).2 (by injection he_))); have b_ : Aside0 (Below w0.heap.size w0 ws0) := ⟨qf7_⟩; have k_ := Aside0.mk (Kept.of_grown (S := (fun k_ => P0_ k_)) hg_ HK.out (fun k_ e_ => by cases e_; exact GP.out)); clear hs_ hx_0 hf_0 HH HB HK RR2; have HH := Aside0.mk hh_; have HB := b_; have HK := k_; have RR2 := r2_; clear hh_ hg_ b_ k_ hw r2_; have hx_0 : ws0.cell? ⟨g, x5.toNat * 3 + 1, none⟩ = some (.int .i64 (rd_Row x0 x5).f1) := (HZ.out HH.out).1 1 _ rfl; have hf_0 : ws0.frozen? ⟨g, x5.toNat * 3 + 1, none⟩ = false := (HZ.out HH.out).2 1) | ((with_reducible refine gate_store (t := 3) (p := 23) rfl ?_); refine store_event (t := 3) (p := 23) (v := ?vo_ws1) (w1 := (ws0.setCell ⟨g, x5.toNat * 3 + 1, none⟩ (.int .i64 (wrap64 (x1 + 1))))) ?hg ?ho ?hn ?hr ?_; (case ho => rfl); (case hg => rfl); (case hn => rfl); (case hr => first | (go_simp; done) | (go_simp; rfl)); intro ws1 hw; have hs_ := Kd.H_seg HH.out c2 hlt (seg := [.int .i64 (wrap64 (x1 + 1))]) (j := 1) (show 2 ≤ 3 from by decide) (qf5_); have hh_ : Kd.H k_Row 26 ws1 w0.heap.size P0_ (.slice (some ⟨g, 0, none⟩) l0.length c0) x0 x5 oki [.int .i64 x1, .int .i64 (wrap64 (x1 + 1)), .slice A2 (rd_Row x0 x5).f2.length d2] := (by rw [hw]; exact hs_.1); have hg_ : ws0.grownBy ws1 (some g) := (by rw [hw]; exact hs_.2); have r2_ := Aside0.mk (Kd.R_grown RR2.out hg_ (fun k_ hk_ he_ => (HI.out k_ hk_).2 (by injection he_))); have b_ : Aside0 (Below w0.heap.size w0 ws1) := ⟨qf7_⟩; have k_ := Aside0.mk (Kept.of_grown (S := (fun k_ => P0_ k_)) hg_ HK.out (fun k_ e_ => by cases e_; exact GP.out)); clear hs_ hx_0 hf_0 HH HB HK RR2; have HH := Aside0.mk hh_; have HB := b_; have HK := k_; have RR2 := r2_; clear hh_ hg_ b_ k_ hw r2_; have hx_0 : ws1.cell? ⟨g, x5.toNat * 3 + 2, none⟩ = some (.slice A2 (rd_Row x0 x5).f2.length d2) := (HZ.out HH.out).1 2 _ rfl; have hf_0 : ws1.frozen? ⟨g, x5.toNat * 3 + 2, none⟩ = false := (HZ.out HH.out).2 2) | (go_at_call 71; (with_reducible refine (laws_markItemS.calls k1 oki (.slice A2 (rd_Row x0 x5).f2.length d2) ((rd_Row x0 x5).f2) (wrap64 (wrap64 (x1 + 1) + 1)) s0 m0 w0 _ HB.out RR2.out Q0.out).mono ?_); rintro e wc0 ⟨rfl, hr_, hb_, hk_⟩; have r_ := Aside0.mk (Kd.R_mono (Kd.R_tight rfl hr_) (fun k_ hk_ => RR2.out.1 k_ hk_.symm)); have hh_ := Kd.H_step HH.out (fun k_ _ hn_ hl_ => hk_.2 k_ hl_ (fun hk_h => hn_ (hk_h))); have kk_ := Aside0.mk (Kept.then_ HK.out hk_ (fun k_ hk_h => .inl (HI.out k_ (hk_h)).1)); have bb_ := Aside0.mk hb_; clear hk_ hb_ hr_ HH HK HB RR2 hx_0 hf_0; have HH := Aside0.mk hh_; have HK := kk_; have HB := bb_; have RR2 := r_; clear hh_ kk_ bb_ r_))
          have HM : Aside0 (Kd.S k_Row 26 wc0 w0.heap.size P0_ (.slice (some ⟨g, 0, none⟩) l0.length c0) (x0.set x5.toNat (⟨x1, wrap64 (x1 + 1), m0⟩ : S_Row))) := by
            obtain ⟨_, _, ev0⟩ := Kd.R_slice RR2.out
            have el0 : m0.length = (rd_Row x0 x5).f2.length := by injection ev0 with _ h_ _; exact h_.symm
            exact ⟨Kd.H_back HH.out (okp := oki) (k_Row_mkM _ _ _ (⟨x1, wrap64 (x1 + 1), m0⟩ : S_Row) RR2.out) (fun _ hk_ => hk_)⟩
          clear HH RR2 HI HZ GP GB
          go_roundg k1
          case measure => have := HK1.out; omega
          case rel => exact ⟨_, _, _, by first | rfl | (simp; done), by first | rfl | (simp; done), H', ⟨by have := HK1.out; omega⟩, HM, HK, HB⟩
        · rw [if_neg c2] at H
          exact absurd H (by simp)
      · rw [if_neg c1] at H
        have c1d : decide (x5 < (l0.length : Int)) = false := decide_eq_false (by omega)
        clear hlen
        have E := Aside0.mk (Option.some.inj H)
        clear H c1
        go_wp2
        go_ret
        obtain ⟨rfl, rfl⟩ : x1 = r1 ∧ x0 = r2 := by have h_ := E.out; simpa using h_
        exact ⟨by first | rfl | simp, HO.out, HB.out, HK.out⟩
theorem laws_markRowS.calls (k : Nat) (P0_ : Nat → Prop) (u9000_ : Value) (l0 : List (S_Row)) (a1 : Int) (r1 : Int) (r2 : List (S_Row)) (w0 w : World) (hB : Below w0.heap.size w0 w) (ho0 : Kd.S k_Row 26 w w0.heap.size P0_ u9000_ l0) (h : laws_markRowS.f k l0 a1 = some (r1, r2)) :
    Calls Try.prog 88 #[u9000_, .int .i64 a1] w fun e w' => e = .returned (.int .i64 r1) ∧ Kd.S k_Row 26 w' w0.heap.size (fun k_ => (P0_ k_ ∨ w.heap.size ≤ k_)) u9000_ r2 ∧ Below w0.heap.size w0 w' ∧ Kept w w' (fun k_ => P0_ k_) :=
  (laws_markRowS.calls0 k P0_ u9000_ l0 a1 r1 r2 w0 w hB ho0 h).mono (fun _ _ hx => ⟨hx.1, Kd.S_mono hx.2.1 (fun _ hk => .inl hk), hx.2.2.1, hx.2.2.2⟩)

/-! ### laws_markGroupS: function 89 -/
def laws_markGroupS.l0 : Nat → List (S_Group) → Int → Int → Option (Int × (List (S_Group)))
  | 0, _, _, _ => none
  | k + 1, x0, x1, x5 => if x5 < (x0.length : Int) then (if 0 ≤ x5 then ((laws_markIntS.f k ((rd_Group x0 x5).f1) (wrap64 (x1 + 1))).bind fun b0 => (laws_markIntS.f k ((rd_Group x0 x5).f2) b0.1).bind fun b1 => (laws_markIntS.f k ((rd_Group x0 x5).f3) b1.1).bind fun b2 => laws_markGroupS.l0 k (x0.set (x5 : Int).toNat (⟨x1, b0.2, b1.2, b2.2⟩ : S_Group)) b2.1 (wrap64 (x5 + 1))) else (none)) else (some (x1, x0))
def laws_markGroupS.f (k : Nat) (l0 : List (S_Group)) (a1 : Int) : Option (Int × (List (S_Group))) := laws_markGroupS.l0 k l0 a1 0
theorem laws_markGroupS.mono_l : ∀ k, (∀ y0 y1 y2, LeO (laws_markGroupS.l0 k y0 y1 y2) (laws_markGroupS.l0 (k + 1) y0 y1 y2))
  | 0 => fun _ _ _ r h => by simp [laws_markGroupS.l0] at h
  | k + 1 => by
    have ih0 := laws_markGroupS.mono_l k
    intro y0 y1 y2
    unfold laws_markGroupS.l0
    refine LeO.ite (LeO.ite ?_ (LeO.none _)) (LeO.refl _)
    refine LeO.bind (laws_markIntS.mono _ _ _) (fun _ => ?_)
    refine LeO.bind (laws_markIntS.mono _ _ _) (fun _ => ?_)
    refine LeO.bind (laws_markIntS.mono _ _ _) (fun _ => ?_)
    exact ih0 _ _ _
theorem laws_markGroupS.mono : ∀ a0 a1 k, LeO (laws_markGroupS.f k a0 a1) (laws_markGroupS.f (k + 1) a0 a1) := fun a0 a1 k => laws_markGroupS.mono_l k _ _ _
set_option maxHeartbeats 16000000 in
set_option maxRecDepth 100000 in
theorem laws_markGroupS.calls0 (k : Nat) (P0_ : Nat → Prop) (u9000_ : Value) (l0 : List (S_Group)) (a1 : Int) (r1 : Int) (r2 : List (S_Group)) (w0 w : World) (hB : Below w0.heap.size w0 w) (ho0 : Kd.S k_Group 115 w w0.heap.size P0_ u9000_ l0) (h : laws_markGroupS.f k l0 a1 = some (r1, r2)) :
    Calls Try.prog 89 #[u9000_, .int .i64 a1] w fun e w' => e = .returned (.int .i64 r1) ∧ Kd.S k_Group 115 w' w0.heap.size P0_ u9000_ r2 ∧ Below w0.heap.size w0 w' ∧ Kept w w' (fun k_ => P0_ k_) := by
  have hu := Try.underlying115
  have HO := Aside0.mk (show Kd.S k_Group 115 w w0.heap.size P0_ u9000_ l0 from ho0)
  have HK := Aside0.mk (Kept.refl w (fun k_ => P0_ k_))
  have HB := Aside0.mk hB
  have H' : Aside0 (laws_markGroupS.l0 k l0 a1 0 = some (r1, r2)) := ⟨h⟩
  obtain ⟨A0, c0, e0⟩ := Kd.S_slice ho0
  subst e0
  clear h hB ho0
  go_enter Try.func89, Try.ntmps89
  go_wp2
  go_loopg [1, 5] k (fun kq v1 v5 w' => ∃ (x0 : List (S_Group)) (x1 x5 : Int), v1 = .int .i64 x1 ∧ v5 = .int .i64 x5 ∧ Aside0 (laws_markGroupS.l0 kq x0 x1 x5 = some (r1, r2)) ∧ Aside0 (kq ≤ k) ∧ Aside0 (Kd.S k_Group 115 w' w0.heap.size P0_ (.slice A0 l0.length c0) x0) ∧ Aside0 (Kept w w' (fun k_ => P0_ k_)) ∧ Aside0 (Below w0.heap.size w0 w'))
  case atStart => exact ⟨l0, a1, 0, rfl, rfl, H', ⟨Nat.le_refl _⟩, HO, HK, HB⟩
  case round =>
    clear H' HO HK HB
    obtain ⟨x0, x1, x5, rfl, rfl, HA, HK1, HO, HK, HB⟩ := hrel
    cases gk with
    | zero => exact absurd HA.out (by simp [laws_markGroupS.l0])
    | succ k1 =>
      have H := HA.out
      clear HA
      simp only [laws_markGroupS.l0] at H
      have hlen := (Kd.S_reads' HO.out).1
      by_cases c1 : x5 < (x0.length : Int)
      · rw [if_pos c1] at H
        by_cases c2 : 0 ≤ x5
        · rw [if_pos c2] at H
          obtain ⟨⟨s0, m0⟩, Q0, H⟩ := Option.bind_eq_some_iff.mp H
          have Q0 := Aside0.mk Q0
          obtain ⟨⟨s1, m1⟩, Q1, H⟩ := Option.bind_eq_some_iff.mp H
          have Q1 := Aside0.mk Q1
          obtain ⟨⟨s2, m2⟩, Q2, H⟩ := Option.bind_eq_some_iff.mp H
          have Q2 := Aside0.mk Q2
          have H' := Aside0.mk H
          clear H
          have hlt : x5 < (l0.length : Int) := by omega
          have c1d : decide (x5 < (l0.length : Int)) = true := decide_eq_true hlt
          have c2d : decide (0 ≤ x5) = true := decide_eq_true c2
          obtain ⟨g, cap, eg, gb, gl, cl, HG⟩ := Kd.S_form HO.out (by omega)
          injection eg with ea_ en_ ec_
          subst ea_
          subst ec_
          clear en_ hlen
          obtain ⟨oki, ce, hcl, hM, hcc, hfr, hoki, hH⟩ := Kd.S_elem HO.out z_Group x5 c2 hlt
          change k_Group.M wr w0.heap.size oki (rd_Group x0 x5) ce at hM
          obtain ⟨v1, v2, v3, rfl, R1, R2, R3⟩ := k_Group_openM hM
          obtain ⟨A1, d1, rfl⟩ := Kd.R_slice R1
          obtain ⟨A2, d2, rfl⟩ := Kd.R_slice R2
          obtain ⟨A3, d3, rfl⟩ := Kd.R_slice R3
          have GP : Aside0 (P0_ g ∨ w.heap.size ≤ g) := ⟨.inl ((Kd.S_R HO.out).1 g (by simp [Value.ownBlock]))⟩
          have GB := Aside0.mk gb
          have HI := Aside0.mk hoki
          have hz : ∀ {W : World} {c' : List Value}, Kd.H k_Group 115 W w0.heap.size P0_ (.slice (some ⟨g, 0, none⟩) l0.length c0) x0 x5 oki c' → (∀ j u, c'[j]? = some u → W.cell? ⟨g, x5.toNat * 4 + j, none⟩ = some u) ∧ ∀ j, W.frozen? ⟨g, x5.toNat * 4 + j, none⟩ = false := fun hH_ => by
            obtain ⟨_, _, _, _, _, hc_, _⟩ := Kd.H_raw hH_ c2 hlt
            obtain ⟨_, _, hR_⟩ := hH_
            obtain ⟨_, _, _, _, hf_⟩ := Kd.R_elem hR_ (z_Group, 0) x5 c2 hlt
            exact ⟨hc_, hf_⟩
          have HZ := Aside0.mk (@hz)
          have HH := Aside0.mk hH
          have RR1 := Aside0.mk R1
          have RR2 := Aside0.mk R2
          have RR3 := Aside0.mk R3
          have DD := Aside0.mk (k_Group_openA hM)
          have hx_0 : wr.cell? ⟨g, x5.toNat * 4, none⟩ = some (.int .i64 (rd_Group x0 x5).f0) := hcc 0 _ rfl
          have hf_0 : wr.frozen? ⟨g, x5.toNat * 4, none⟩ = false := hfr 0
          clear hcl hM hcc hfr hoki hH gb gl HG hz R1 R2 R3
          go_wp2_with (first | ((with_reducible refine gate_store (t := 3) (p := 16) rfl ?_); refine store_event (t := 3) (p := 16) (v := ?vo_ws0) (w1 := (wr.setCell ⟨g, x5.toNat * 4, none⟩ (.int .i64 x1))) ?hg ?ho ?hn ?hr ?_; (case ho => rfl); (case hg => rfl); (case hn => rfl); (case hr => first | (go_simp; done) | (go_simp; rfl)); intro ws0 hw; have hs_ := Kd.H_seg HH.out c2 hlt (seg := [.int .i64 x1]) (j := 0) (show 1 ≤ 4 from by decide) (qf5_); have hh_ : Kd.H k_Group 115 ws0 w0.heap.size P0_ (.slice (some ⟨g, 0, none⟩) l0.length c0) x0 x5 oki [.int .i64 x1, .slice A1 (rd_Group x0 x5).f1.length d1, .slice A2 (rd_Group x0 x5).f2.length d2, .slice A3 (rd_Group x0 x5).f3.length d3] := (by rw [hw]; exact hs_.1); have hg_ : wr.grownBy ws0 (some g) := (by rw [hw]; exact hs_.2); have r1_ := Aside0.mk (Kd.R_grown RR1.out hg_ (fun k_ hk_ he_ => (HI.out k_ hk_).2 (by injection he_))); have r2_ := Aside0.mk (Kd.R_grown RR2.out hg_ (fun k_ hk_ he_ => (HI.out k_ hk_).2 (by injection he_))); have r3_ := Aside0.mk (Kd.R_grown RR3.out hg_ (fun k_ hk_ he_ => (HI.out k_ hk_).2 (by injection he_))); have b_ : Aside0 (Below w0.heap.size w0 ws0) := ⟨qf7_⟩; have k_ := Aside0.mk (Kept.of_grown (S := (fun k_ => P0_ k_)) hg_ HK.out (fun k_ e_ => by cases e_; exact GP.out)); clear hs_ hx_0 hf_0 HH HB HK RR1 RR2 RR3; have HH := Aside0.mk hh_; have HB := b_; have HK := k_; have RR1 := r1_; have RR2 := r2_; have RR3 := r3_; clear hh_ hg_ b_ k_ hw r1_ r2_ r3_; have hx_0 : ws0.cell? ⟨g, x5.toNat * 4 + 1, none⟩ = some (.slice A1 (rd_Group x0 x5).f1.length d1) := (HZ.out HH.out).1 1 _ rfl; have hf_0 : ws0.frozen? ⟨g, x5.toNat * 4 + 1, none⟩ = false := (HZ.out HH.out).2 1; have hx_1 : ws0.cell? ⟨g, x5.toNat * 4 + 2, none⟩ = some (.slice A2 (rd_Group x0 x5).f2.length d2) := (HZ.out HH.out).1 2 _ rfl; have hf_1 : ws0.frozen? ⟨g, x5.toNat * 4 + 2, none⟩ = false := (HZ.out HH.out).2 2; have hx_2 : ws0.cell? ⟨g, x5.toNat * 4 + 3, none⟩ = some (.slice A3 (rd_Group x0 x5).f3.length d3) := (HZ.out HH.out).1 3 _ rfl; have hf_2 : ws0.frozen? ⟨g, x5.toNat * 4 + 3, none⟩ = false := (HZ.out HH.out).2 3) | (go_at_call 90; have ri_ := Kd.R_mono (ok' := fun k_ => oki k_ ∧ some k_ = (Value.slice A1 (rd_Group x0 x5).f1.length d1).ownBlock) (Kd.R_tight rfl RR1.out) (fun k_ hk_ => ⟨RR1.out.1 k_ hk_.symm, hk_⟩); (with_reducible refine (laws_markIntS.calls k1 (fun k_ => oki k_ ∧ some k_ = (Value.slice A1 (rd_Group x0 x5).f1.length d1).ownBlock) (.slice A1 (rd_Group x0 x5).f1.length d1) ((rd_Group x0 x5).f1) (wrap64 (x1 + 1)) s0 m0 w0 _ HB.out ri_ Q0.out).mono ?_); rintro e wc0 ⟨rfl, hr_, hb_, hk_⟩; clear ri_; have r_ := Aside0.mk (Kd.R_mono (Kd.R_tight rfl hr_) (fun k_ hk_ => RR1.out.1 k_ hk_.symm)); have hh_ := Kd.H_step HH.out (fun k_ _ hn_ hl_ => hk_.2 k_ hl_ (fun hk_h => hn_ (hk_h.1))); have kk_ := Aside0.mk (Kept.then_ HK.out hk_ (fun k_ hk_h => .inl (HI.out k_ (hk_h.1)).1)); have bb_ := Aside0.mk hb_; have o2_ := Aside0.mk (Kd.R_mono (ok' := oki) (Kd.R_step (Kd.R_mono (Kd.R_tight rfl RR2.out) (fun k_ hk_ => (show oki k_ ∧ some k_ = (Value.slice A2 (rd_Group x0 x5).f2.length d2).ownBlock from ⟨RR2.out.1 k_ hk_.symm, hk_⟩))) (fun k_ ho_ hl_ => hk_.2 k_ hl_ (fun hk_h => DD.out.1 k_ hk_h.2.symm ho_.2))) (fun k_ hk_ => hk_.1)); have o3_ := Aside0.mk (Kd.R_mono (ok' := oki) (Kd.R_step (Kd.R_mono (Kd.R_tight rfl RR3.out) (fun k_ hk_ => (show oki k_ ∧ some k_ = (Value.slice A3 (rd_Group x0 x5).f3.length d3).ownBlock from ⟨RR3.out.1 k_ hk_.symm, hk_⟩))) (fun k_ ho_ hl_ => hk_.2 k_ hl_ (fun hk_h => DD.out.2.1 k_ hk_h.2.symm ho_.2))) (fun k_ hk_ => hk_.1)); clear hk_ hb_ hr_ HH HK HB RR1 RR2 RR3 hx_0 hf_0 hx_1 hf_1 hx_2 hf_2; have HH := Aside0.mk hh_; have HK := kk_; have HB := bb_; have RR1 := r_; have RR2 := o2_; have RR3 := o3_; clear hh_ kk_ bb_ r_ o2_ o3_; have hx_1 : wc0.cell? ⟨g, x5.toNat * 4 + 2, none⟩ = some (.slice A2 (rd_Group x0 x5).f2.length d2) := (HZ.out HH.out).1 2 _ rfl; have hf_1 : wc0.frozen? ⟨g, x5.toNat * 4 + 2, none⟩ = false := (HZ.out HH.out).2 2; have hx_2 : wc0.cell? ⟨g, x5.toNat * 4 + 3, none⟩ = some (.slice A3 (rd_Group x0 x5).f3.length d3) := (HZ.out HH.out).1 3 _ rfl; have hf_2 : wc0.frozen? ⟨g, x5.toNat * 4 + 3, none⟩ = false := (HZ.out HH.out).2 3) | (go_at_call 90; have ri_ := Kd.R_mono (ok' := fun k_ => oki k_ ∧ some k_ = (Value.slice A2 (rd_Group x0 x5).f2.length d2).ownBlock) (Kd.R_tight rfl RR2.out) (fun k_ hk_ => ⟨RR2.out.1 k_ hk_.symm, hk_⟩); (with_reducible refine (laws_markIntS.calls k1 (fun k_ => oki k_ ∧ some k_ = (Value.slice A2 (rd_Group x0 x5).f2.length d2).ownBlock) (.slice A2 (rd_Group x0 x5).f2.length d2) ((rd_Group x0 x5).f2) s0 s1 m1 w0 _ HB.out ri_ Q1.out).mono ?_); rintro e wc1 ⟨rfl, hr_, hb_, hk_⟩; clear ri_; have r_ := Aside0.mk (Kd.R_mono (Kd.R_tight rfl hr_) (fun k_ hk_ => RR2.out.1 k_ hk_.symm)); have hh_ := Kd.H_step HH.out (fun k_ _ hn_ hl_ => hk_.2 k_ hl_ (fun hk_h => hn_ (hk_h.1))); have kk_ := Aside0.mk (Kept.then_ HK.out hk_ (fun k_ hk_h => .inl (HI.out k_ (hk_h.1)).1)); have bb_ := Aside0.mk hb_; have o1_ := Aside0.mk (Kd.R_mono (ok' := oki) (Kd.R_step (Kd.R_mono (Kd.R_tight rfl RR1.out) (fun k_ hk_ => (show oki k_ ∧ some k_ = (Value.slice A1 (rd_Group x0 x5).f1.length d1).ownBlock from ⟨RR1.out.1 k_ hk_.symm, hk_⟩))) (fun k_ ho_ hl_ => hk_.2 k_ hl_ (fun hk_h => DD.out.1 k_ ho_.2.symm hk_h.2))) (fun k_ hk_ => hk_.1)); have o3_ := Aside0.mk (Kd.R_mono (ok' := oki) (Kd.R_step (Kd.R_mono (Kd.R_tight rfl RR3.out) (fun k_ hk_ => (show oki k_ ∧ some k_ = (Value.slice A3 (rd_Group x0 x5).f3.length d3).ownBlock from ⟨RR3.out.1 k_ hk_.symm, hk_⟩))) (fun k_ ho_ hl_ => hk_.2 k_ hl_ (fun hk_h => DD.out.2.2 k_ hk_h.2.symm ho_.2))) (fun k_ hk_ => hk_.1)); clear hk_ hb_ hr_ HH HK HB RR1 RR2 RR3 hx_1 hf_1 hx_2 hf_2; have HH := Aside0.mk hh_; have HK := kk_; have HB := bb_; have RR2 := r_; have RR1 := o1_; have RR3 := o3_; clear hh_ kk_ bb_ r_ o1_ o3_; have hx_2 : wc1.cell? ⟨g, x5.toNat * 4 + 3, none⟩ = some (.slice A3 (rd_Group x0 x5).f3.length d3) := (HZ.out HH.out).1 3 _ rfl; have hf_2 : wc1.frozen? ⟨g, x5.toNat * 4 + 3, none⟩ = false := (HZ.out HH.out).2 3) | (go_at_call 90; have ri_ := Kd.R_mono (ok' := fun k_ => oki k_ ∧ some k_ = (Value.slice A3 (rd_Group x0 x5).f3.length d3).ownBlock) (Kd.R_tight rfl RR3.out) (fun k_ hk_ => ⟨RR3.out.1 k_ hk_.symm, hk_⟩); (with_reducible refine (laws_markIntS.calls k1 (fun k_ => oki k_ ∧ some k_ = (Value.slice A3 (rd_Group x0 x5).f3.length d3).ownBlock) (.slice A3 (rd_Group x0 x5).f3.length d3) ((rd_Group x0 x5).f3) s1 s2 m2 w0 _ HB.out ri_ Q2.out).mono ?_); rintro e wc2 ⟨rfl, hr_, hb_, hk_⟩; clear ri_; have r_ := Aside0.mk (Kd.R_mono (Kd.R_tight rfl hr_) (fun k_ hk_ => RR3.out.1 k_ hk_.symm)); have hh_ := Kd.H_step HH.out (fun k_ _ hn_ hl_ => hk_.2 k_ hl_ (fun hk_h => hn_ (hk_h.1))); have kk_ := Aside0.mk (Kept.then_ HK.out hk_ (fun k_ hk_h => .inl (HI.out k_ (hk_h.1)).1)); have bb_ := Aside0.mk hb_; have o1_ := Aside0.mk (Kd.R_mono (ok' := oki) (Kd.R_step (Kd.R_mono (Kd.R_tight rfl RR1.out) (fun k_ hk_ => (show oki k_ ∧ some k_ = (Value.slice A1 (rd_Group x0 x5).f1.length d1).ownBlock from ⟨RR1.out.1 k_ hk_.symm, hk_⟩))) (fun k_ ho_ hl_ => hk_.2 k_ hl_ (fun hk_h => DD.out.2.1 k_ ho_.2.symm hk_h.2))) (fun k_ hk_ => hk_.1)); have o2_ := Aside0.mk (Kd.R_mono (ok' := oki) (Kd.R_step (Kd.R_mono (Kd.R_tight rfl RR2.out) (fun k_ hk_ => (show oki k_ ∧ some k_ = (Value.slice A2 (rd_Group x0 x5).f2.length d2).ownBlock from ⟨RR2.out.1 k_ hk_.symm, hk_⟩))) (fun k_ ho_ hl_ => hk_.2 k_ hl_ (fun hk_h => DD.out.2.2 k_ ho_.2.symm hk_h.2))) (fun k_ hk_ => hk_.1)); clear hk_ hb_ hr_ HH HK HB RR1 RR2 RR3 hx_2 hf_2; have HH := Aside0.mk hh_; have HK := kk_; have HB := bb_; have RR3 := r_; have RR1 := o1_; have RR2 := o2_; clear hh_ kk_ bb_ r_ o1_ o2_))
          have HM : Aside0 (Kd.S k_Group 115 wc2 w0.heap.size P0_ (.slice (some ⟨g, 0, none⟩) l0.length c0) (x0.set x5.toNat (⟨x1, m0, m1, m2⟩ : S_Group))) := by
            obtain ⟨_, _, ev0⟩ := Kd.R_slice RR1.out
            have el0 : m0.length = (rd_Group x0 x5).f1.length := by injection ev0 with _ h_ _; exact h_.symm
            obtain ⟨_, _, ev1⟩ := Kd.R_slice RR2.out
            have el1 : m1.length = (rd_Group x0 x5).f2.length := by injection ev1 with _ h_ _; exact h_.symm
            obtain ⟨_, _, ev2⟩ := Kd.R_slice RR3.out
            have el2 : m2.length = (rd_Group x0 x5).f3.length := by injection ev2 with _ h_ _; exact h_.symm
            exact ⟨Kd.H_back HH.out (okp := oki) (k_Group_mkM _ _ _ (⟨x1, m0, m1, m2⟩ : S_Group) RR1.out RR2.out RR3.out DD.out) (fun _ hk_ => hk_)⟩
          clear HH RR1 RR2 RR3 HI HZ GP GB DD
          go_roundg k1
          case measure => have := HK1.out; omega
          case rel => exact ⟨_, _, _, by first | rfl | (simp; done), by first | rfl | (simp; done), H', ⟨by have := HK1.out; omega⟩, HM, HK, HB⟩
        · rw [if_neg c2] at H
          exact absurd H (by simp)
      · rw [if_neg c1] at H
        have c1d : decide (x5 < (l0.length : Int)) = false := decide_eq_false (by omega)
        clear hlen
        have E := Aside0.mk (Option.some.inj H)
        clear H c1
        go_wp2
        go_ret
        obtain ⟨rfl, rfl⟩ : x1 = r1 ∧ x0 = r2 := by have h_ := E.out; simpa using h_
        exact ⟨by first | rfl | simp, HO.out, HB.out, HK.out⟩
theorem laws_markGroupS.calls (k : Nat) (P0_ : Nat → Prop) (u9000_ : Value) (l0 : List (S_Group)) (a1 : Int) (r1 : Int) (r2 : List (S_Group)) (w0 w : World) (hB : Below w0.heap.size w0 w) (ho0 : Kd.S k_Group 115 w w0.heap.size P0_ u9000_ l0) (h : laws_markGroupS.f k l0 a1 = some (r1, r2)) :
    Calls Try.prog 89 #[u9000_, .int .i64 a1] w fun e w' => e = .returned (.int .i64 r1) ∧ Kd.S k_Group 115 w' w0.heap.size (fun k_ => (P0_ k_ ∨ w.heap.size ≤ k_)) u9000_ r2 ∧ Below w0.heap.size w0 w' ∧ Kept w w' (fun k_ => P0_ k_) :=
  (laws_markGroupS.calls0 k P0_ u9000_ l0 a1 r1 r2 w0 w hB ho0 h).mono (fun _ _ hx => ⟨hx.1, Kd.S_mono hx.2.1 (fun _ hk => .inl hk), hx.2.2.1, hx.2.2.2⟩)
/-! ### laws_markKeep: function 48 -/
def laws_markKeep.f (k : Nat) (l0 : List (S_Row)) (l1 : List (S_Maker)) (l2 : List (S_Group)) (l4 : List Int) (l5 : List (S_Answer)) (a1 : Int) : Option (Int × List (S_Row) × List (S_Maker) × List (S_Group) × List Int × List (S_Answer)) :=
  (laws_markRowS.f k l0 a1).bind fun b0 => (laws_markMakerS.f k l1 b0.1).bind fun b1 => (laws_markGroupS.f k l2 b1.1).bind fun b2 => (laws_markIntS.f k l4 b2.1).bind fun b3 => (laws_markAnswerS.f k l5 b3.1).bind fun b4 => some (b4.1, b0.2, b1.2, b2.2, b3.2, b4.2)
theorem laws_markKeep.mono : ∀ a0 a1 a2 a3 a4 a5 k, LeO (laws_markKeep.f k a0 a1 a2 a3 a4 a5) (laws_markKeep.f (k + 1) a0 a1 a2 a3 a4 a5) := by
  intro a0 a1 a2 a3 a4 a5 k
  unfold laws_markKeep.f
  refine LeO.bind (laws_markRowS.mono _ _ _) (fun _ => ?_)
  refine LeO.bind (laws_markMakerS.mono _ _ _) (fun _ => ?_)
  refine LeO.bind (laws_markGroupS.mono _ _ _) (fun _ => ?_)
  refine LeO.bind (laws_markIntS.mono _ _ _) (fun _ => ?_)
  refine LeO.bind (laws_markAnswerS.mono _ _ _) (fun _ => ?_)
  exact LeO.refl _
set_option maxHeartbeats 32000000 in
set_option maxRecDepth 100000 in
theorem laws_markKeep.calls (k : Nat) (Q : Nat → Prop) (col : Nat → Nat) (u0 : Value) (l0 : List (S_Row)) (u1 : Value) (l1 : List (S_Maker)) (u2 : Value) (l2 : List (S_Group)) (u4 : Value) (l4 : List Int) (u5 : Value) (l5 : List (S_Answer)) (a3 : Int) (a1 : Int) (r : Int) (m0 : List (S_Row)) (m1 : List (S_Maker)) (m2 : List (S_Group)) (m4 : List Int) (m5 : List (S_Answer)) (w0 w : World) (hB : Below w0.heap.size w0 w) (hQ : ∀ k_, Q k_ → k_ < w.heap.size) (h0 : Kd.S k_Row 26 w w0.heap.size (fun k_ => Q k_ ∧ col k_ = 0) u0 l0) (h1 : Kd.S k_Maker 38 w w0.heap.size (fun k_ => Q k_ ∧ col k_ = 1) u1 l1) (h2 : Kd.S k_Group 115 w w0.heap.size (fun k_ => Q k_ ∧ col k_ = 2) u2 l2) (h4 : Kd.R (Kd.int .i64) 3 w w0.heap.size (fun k_ => Q k_ ∧ col k_ = 3) u4 l4) (h5 : Kd.R k_Answer 144 w w0.heap.size (fun k_ => Q k_ ∧ col k_ = 4) u5 l5) (h : laws_markKeep.f k l0 l1 l2 l4 l5 a1 = some (r, m0, m1, m2, m4, m5)) :
    Calls Try.prog 48 #[.agg #[u0, u1, u2, .int .i64 a3, u4, u5], .int .i64 a1] w fun e w' => e = .returned (.int .i64 r) ∧ Kd.S k_Row 26 w' w0.heap.size (fun k_ => Q k_ ∧ col k_ = 0) u0 m0 ∧ Kd.S k_Maker 38 w' w0.heap.size (fun k_ => Q k_ ∧ col k_ = 1) u1 m1 ∧ Kd.S k_Group 115 w' w0.heap.size (fun k_ => Q k_ ∧ col k_ = 2) u2 m2 ∧ Kd.R (Kd.int .i64) 3 w' w0.heap.size (fun k_ => Q k_ ∧ col k_ = 3) u4 m4 ∧ Kd.R k_Answer 144 w' w0.heap.size (fun k_ => Q k_ ∧ col k_ = 4) u5 m5 ∧ Below w0.heap.size w0 w' ∧ Kept w w' Q := by
  have huK := Try.underlying80
  have HQ := Aside0.mk hQ
  have B_0 := Aside0.mk hB
  have KK_0 := Aside0.mk (Kept.refl w Q)
  obtain ⟨A_r0, c_r0, rfl⟩ := Kd.S_slice h0
  have F_r0_0 := Aside0.mk h0
  have U_r0_0 := Aside0.mk hB.size
  obtain ⟨A_r1, c_r1, rfl⟩ := Kd.S_slice h1
  have F_r1_0 := Aside0.mk h1
  have U_r1_0 := Aside0.mk hB.size
  obtain ⟨A_r2, c_r2, rfl⟩ := Kd.S_slice h2
  have F_r2_0 := Aside0.mk h2
  have U_r2_0 := Aside0.mk hB.size
  obtain ⟨A_r4, c_r4, rfl⟩ := Kd.R_slice h4
  have F_r4_0 := Aside0.mk h4
  have U_r4_0 := Aside0.mk hB.size
  obtain ⟨A_r5, c_r5, rfl⟩ := Kd.R_slice h5
  have F_r5_0 := Aside0.mk h5
  have U_r5_0 := Aside0.mk hB.size
  clear hQ hB h0 h1 h2 h4 h5
  unfold laws_markKeep.f at h
  obtain ⟨⟨s0, x0⟩, Q0, h⟩ := Option.bind_eq_some_iff.mp h
  have q_ := Aside0.mk Q0
  clear Q0
  have Q0 := q_
  clear q_
  obtain ⟨⟨s1, x1⟩, Q1, h⟩ := Option.bind_eq_some_iff.mp h
  have q_ := Aside0.mk Q1
  clear Q1
  have Q1 := q_
  clear q_
  obtain ⟨⟨s2, x2⟩, Q2, h⟩ := Option.bind_eq_some_iff.mp h
  have q_ := Aside0.mk Q2
  clear Q2
  have Q2 := q_
  clear q_
  obtain ⟨⟨s3, x4⟩, Q3, h⟩ := Option.bind_eq_some_iff.mp h
  have q_ := Aside0.mk Q3
  clear Q3
  have Q3 := q_
  clear q_
  obtain ⟨⟨s4, x5⟩, Q4, h⟩ := Option.bind_eq_some_iff.mp h
  have q_ := Aside0.mk Q4
  clear Q4
  have Q4 := q_
  clear q_
  have he := Option.some.inj h
  clear h
  injection he with e0 he
  injection he with e1 he
  injection he with e2 he
  injection he with e3 he
  injection he with e4 e5
  subst e0 e1 e2 e3 e4 e5
  dsimp only at *
  go_enter Try.func48, Try.ntmps48
  go_wp2_with (first | ((with_reducible refine gate_dst (N := 2) rfl ?_); refine box_event ?hg (N := 2) ?hd (cs := #[.slice A_r0 l0.length c_r0, .slice A_r1 l1.length c_r1, .slice A_r2 l2.length c_r2, .int .i64 a3, .slice A_r4 l4.length c_r4, .slice A_r5 l5.length c_r5]) (t := 80) ?hr ?_; (case hd => rfl); (case hg => rfl); (case hr => first | (go_simp; done) | (go_simp; rfl)); intro g_bx hg w_1 hbox hb; have GB_bx := Aside0.mk (Nat.le_of_eq hg.symm); have E_r0_bx : Aside0 (w0.heap.size ≤ g_bx) := ⟨by rw [hg]; exact U_r0_0.out⟩; have E_r1_bx : Aside0 (w0.heap.size ≤ g_bx) := ⟨by rw [hg]; exact U_r1_0.out⟩; have E_r2_bx : Aside0 (w0.heap.size ≤ g_bx) := ⟨by rw [hg]; exact U_r2_0.out⟩; have E_r4_bx : Aside0 (w0.heap.size ≤ g_bx) := ⟨by rw [hg]; exact U_r4_0.out⟩; have E_r5_bx : Aside0 (w0.heap.size ≤ g_bx) := ⟨by rw [hg]; exact U_r5_0.out⟩; have F_r0_1 := Aside0.mk (Kd.S_below F_r0_0.out hb); have U_r0_1 := Aside0.mk (Nat.le_trans U_r0_0.out (Below.size hb)); have F_r1_1 := Aside0.mk (Kd.S_below F_r1_0.out hb); have U_r1_1 := Aside0.mk (Nat.le_trans U_r1_0.out (Below.size hb)); have F_r2_1 := Aside0.mk (Kd.S_below F_r2_0.out hb); have U_r2_1 := Aside0.mk (Nat.le_trans U_r2_0.out (Below.size hb)); have F_r4_1 := Aside0.mk (Kd.R_below F_r4_0.out hb); have U_r4_1 := Aside0.mk (Nat.le_trans U_r4_0.out (Below.size hb)); have F_r5_1 := Aside0.mk (Kd.R_below F_r5_0.out hb); have U_r5_1 := Aside0.mk (Nat.le_trans U_r5_0.out (Below.size hb)); have B_1 := Aside0.mk (below_step B_0.out hb); have KK_1 := Aside0.mk (Kept.below KK_0.out hb); have K_bx_1 := Aside0.mk hbox; have hc_bx_0_1 : w_1.cell? ⟨g_bx, 0, none⟩ = some (.slice A_r0 l0.length c_r0) := (blk_cell hbox 0).trans rfl; have hc_bx_1_1 : w_1.cell? ⟨g_bx, 1, none⟩ = some (.slice A_r1 l1.length c_r1) := (blk_cell hbox 1).trans rfl; have hc_bx_2_1 : w_1.cell? ⟨g_bx, 2, none⟩ = some (.slice A_r2 l2.length c_r2) := (blk_cell hbox 2).trans rfl; have hc_bx_3_1 : w_1.cell? ⟨g_bx, 3, none⟩ = some (.int .i64 a3) := (blk_cell hbox 3).trans rfl; have hc_bx_4_1 : w_1.cell? ⟨g_bx, 4, none⟩ = some (.slice A_r4 l4.length c_r4) := (blk_cell hbox 4).trans rfl; have hc_bx_5_1 : w_1.cell? ⟨g_bx, 5, none⟩ = some (.slice A_r5 l5.length c_r5) := (blk_cell hbox 5).trans rfl; clear hb hbox hg F_r0_0 U_r0_0 F_r1_0 U_r1_0 F_r2_0 U_r2_0 F_r4_0 U_r4_0 F_r5_0 U_r5_0 B_0 KK_0) | (go_at_call 88; refine (laws_markRowS.calls0 k (fun k_ => Q k_ ∧ col k_ = 0) (.slice A_r0 l0.length c_r0) l0 a1 s0 x0 w0 _ B_1.out F_r0_1.out Q0.out).mono ?_; rintro e w_2 ⟨rfl, ho, hb, hk⟩; have F_r0_2 := Aside0.mk (ho); have U_r0_2 := Aside0.mk (Nat.le_trans U_r0_1.out hk.1); have F_r1_2 := Aside0.mk (Kd.S_kept F_r1_1.out hk (fun k_ h_ h2_ => by have e1_ := h_.2; have e2_ := h2_.2; omega)); have U_r1_2 := Aside0.mk (Nat.le_trans U_r1_1.out hk.1); have F_r2_2 := Aside0.mk (Kd.S_kept F_r2_1.out hk (fun k_ h_ h2_ => by have e1_ := h_.2; have e2_ := h2_.2; omega)); have U_r2_2 := Aside0.mk (Nat.le_trans U_r2_1.out hk.1); have F_r4_2 := Aside0.mk (Kd.R_kept F_r4_1.out hk (fun k_ h_ h2_ => by have e1_ := h_.2; have e2_ := h2_.2; omega)); have U_r4_2 := Aside0.mk (Nat.le_trans U_r4_1.out hk.1); have F_r5_2 := Aside0.mk (Kd.R_kept F_r5_1.out hk (fun k_ h_ h2_ => by have e1_ := h_.2; have e2_ := h2_.2; omega)); have U_r5_2 := Aside0.mk (Nat.le_trans U_r5_1.out hk.1); have K_bx_2 := Aside0.mk (blk_kept K_bx_1.out hk (fun h_ => by have e1_ := HQ.out _ h_.1; have e2_ := GB_bx.out; omega)); have hc_bx_0_2 : w_2.cell? ⟨g_bx, 0, none⟩ = some (.slice A_r0 l0.length c_r0) := (blk_cell K_bx_2.out 0).trans rfl; have hc_bx_1_2 : w_2.cell? ⟨g_bx, 1, none⟩ = some (.slice A_r1 l1.length c_r1) := (blk_cell K_bx_2.out 1).trans rfl; have hc_bx_2_2 : w_2.cell? ⟨g_bx, 2, none⟩ = some (.slice A_r2 l2.length c_r2) := (blk_cell K_bx_2.out 2).trans rfl; have hc_bx_3_2 : w_2.cell? ⟨g_bx, 3, none⟩ = some (.int .i64 a3) := (blk_cell K_bx_2.out 3).trans rfl; have hc_bx_4_2 : w_2.cell? ⟨g_bx, 4, none⟩ = some (.slice A_r4 l4.length c_r4) := (blk_cell K_bx_2.out 4).trans rfl; have hc_bx_5_2 : w_2.cell? ⟨g_bx, 5, none⟩ = some (.slice A_r5 l5.length c_r5) := (blk_cell K_bx_2.out 5).trans rfl; have B_2 := Aside0.mk (hb); have KK_2 := Aside0.mk (Kept.then_ KK_1.out hk (fun _ h_ => .inl h_.1)); clear ho hb hk F_r0_1 U_r0_1 F_r1_1 U_r1_1 F_r2_1 U_r2_1 F_r4_1 U_r4_1 F_r5_1 U_r5_1 K_bx_1 hc_bx_0_1 hc_bx_1_1 hc_bx_2_1 hc_bx_3_1 hc_bx_4_1 hc_bx_5_1 B_1 KK_1) | (go_at_call 21; refine (laws_markMakerS.calls0 k (fun k_ => Q k_ ∧ col k_ = 1) (.slice A_r1 l1.length c_r1) l1 s0 s1 x1 w0 _ B_2.out F_r1_2.out Q1.out).mono ?_; rintro e w_3 ⟨rfl, ho, hb, hk⟩; have F_r0_3 := Aside0.mk (Kd.S_kept F_r0_2.out hk (fun k_ h_ h2_ => by have e1_ := h_.2; have e2_ := h2_.2; omega)); have U_r0_3 := Aside0.mk (Nat.le_trans U_r0_2.out hk.1); have F_r1_3 := Aside0.mk (ho); have U_r1_3 := Aside0.mk (Nat.le_trans U_r1_2.out hk.1); have F_r2_3 := Aside0.mk (Kd.S_kept F_r2_2.out hk (fun k_ h_ h2_ => by have e1_ := h_.2; have e2_ := h2_.2; omega)); have U_r2_3 := Aside0.mk (Nat.le_trans U_r2_2.out hk.1); have F_r4_3 := Aside0.mk (Kd.R_kept F_r4_2.out hk (fun k_ h_ h2_ => by have e1_ := h_.2; have e2_ := h2_.2; omega)); have U_r4_3 := Aside0.mk (Nat.le_trans U_r4_2.out hk.1); have F_r5_3 := Aside0.mk (Kd.R_kept F_r5_2.out hk (fun k_ h_ h2_ => by have e1_ := h_.2; have e2_ := h2_.2; omega)); have U_r5_3 := Aside0.mk (Nat.le_trans U_r5_2.out hk.1); have K_bx_3 := Aside0.mk (blk_kept K_bx_2.out hk (fun h_ => by have e1_ := HQ.out _ h_.1; have e2_ := GB_bx.out; omega)); have hc_bx_0_3 : w_3.cell? ⟨g_bx, 0, none⟩ = some (.slice A_r0 l0.length c_r0) := (blk_cell K_bx_3.out 0).trans rfl; have hc_bx_1_3 : w_3.cell? ⟨g_bx, 1, none⟩ = some (.slice A_r1 l1.length c_r1) := (blk_cell K_bx_3.out 1).trans rfl; have hc_bx_2_3 : w_3.cell? ⟨g_bx, 2, none⟩ = some (.slice A_r2 l2.length c_r2) := (blk_cell K_bx_3.out 2).trans rfl; have hc_bx_3_3 : w_3.cell? ⟨g_bx, 3, none⟩ = some (.int .i64 a3) := (blk_cell K_bx_3.out 3).trans rfl; have hc_bx_4_3 : w_3.cell? ⟨g_bx, 4, none⟩ = some (.slice A_r4 l4.length c_r4) := (blk_cell K_bx_3.out 4).trans rfl; have hc_bx_5_3 : w_3.cell? ⟨g_bx, 5, none⟩ = some (.slice A_r5 l5.length c_r5) := (blk_cell K_bx_3.out 5).trans rfl; have B_3 := Aside0.mk (hb); have KK_3 := Aside0.mk (Kept.then_ KK_2.out hk (fun _ h_ => .inl h_.1)); clear ho hb hk F_r0_2 U_r0_2 F_r1_2 U_r1_2 F_r2_2 U_r2_2 F_r4_2 U_r4_2 F_r5_2 U_r5_2 K_bx_2 hc_bx_0_2 hc_bx_1_2 hc_bx_2_2 hc_bx_3_2 hc_bx_4_2 hc_bx_5_2 B_2 KK_2) | (go_at_call 89; refine (laws_markGroupS.calls0 k (fun k_ => Q k_ ∧ col k_ = 2) (.slice A_r2 l2.length c_r2) l2 s1 s2 x2 w0 _ B_3.out F_r2_3.out Q2.out).mono ?_; rintro e w_4 ⟨rfl, ho, hb, hk⟩; have F_r0_4 := Aside0.mk (Kd.S_kept F_r0_3.out hk (fun k_ h_ h2_ => by have e1_ := h_.2; have e2_ := h2_.2; omega)); have U_r0_4 := Aside0.mk (Nat.le_trans U_r0_3.out hk.1); have F_r1_4 := Aside0.mk (Kd.S_kept F_r1_3.out hk (fun k_ h_ h2_ => by have e1_ := h_.2; have e2_ := h2_.2; omega)); have U_r1_4 := Aside0.mk (Nat.le_trans U_r1_3.out hk.1); have F_r2_4 := Aside0.mk (ho); have U_r2_4 := Aside0.mk (Nat.le_trans U_r2_3.out hk.1); have F_r4_4 := Aside0.mk (Kd.R_kept F_r4_3.out hk (fun k_ h_ h2_ => by have e1_ := h_.2; have e2_ := h2_.2; omega)); have U_r4_4 := Aside0.mk (Nat.le_trans U_r4_3.out hk.1); have F_r5_4 := Aside0.mk (Kd.R_kept F_r5_3.out hk (fun k_ h_ h2_ => by have e1_ := h_.2; have e2_ := h2_.2; omega)); have U_r5_4 := Aside0.mk (Nat.le_trans U_r5_3.out hk.1); have K_bx_4 := Aside0.mk (blk_kept K_bx_3.out hk (fun h_ => by have e1_ := HQ.out _ h_.1; have e2_ := GB_bx.out; omega)); have hc_bx_0_4 : w_4.cell? ⟨g_bx, 0, none⟩ = some (.slice A_r0 l0.length c_r0) := (blk_cell K_bx_4.out 0).trans rfl; have hc_bx_1_4 : w_4.cell? ⟨g_bx, 1, none⟩ = some (.slice A_r1 l1.length c_r1) := (blk_cell K_bx_4.out 1).trans rfl; have hc_bx_2_4 : w_4.cell? ⟨g_bx, 2, none⟩ = some (.slice A_r2 l2.length c_r2) := (blk_cell K_bx_4.out 2).trans rfl; have hc_bx_3_4 : w_4.cell? ⟨g_bx, 3, none⟩ = some (.int .i64 a3) := (blk_cell K_bx_4.out 3).trans rfl; have hc_bx_4_4 : w_4.cell? ⟨g_bx, 4, none⟩ = some (.slice A_r4 l4.length c_r4) := (blk_cell K_bx_4.out 4).trans rfl; have hc_bx_5_4 : w_4.cell? ⟨g_bx, 5, none⟩ = some (.slice A_r5 l5.length c_r5) := (blk_cell K_bx_4.out 5).trans rfl; have B_4 := Aside0.mk (hb); have KK_4 := Aside0.mk (Kept.then_ KK_3.out hk (fun _ h_ => .inl h_.1)); clear ho hb hk F_r0_3 U_r0_3 F_r1_3 U_r1_3 F_r2_3 U_r2_3 F_r4_3 U_r4_3 F_r5_3 U_r5_3 K_bx_3 hc_bx_0_3 hc_bx_1_3 hc_bx_2_3 hc_bx_3_3 hc_bx_4_3 hc_bx_5_3 B_3 KK_3) | (go_at_call 90; refine (laws_markIntS.calls k (fun k_ => Q k_ ∧ col k_ = 3) (.slice A_r4 l4.length c_r4) l4 s2 s3 x4 w0 _ B_4.out F_r4_4.out Q3.out).mono ?_; rintro e w_5 ⟨rfl, ho, hb, hk⟩; have F_r0_5 := Aside0.mk (Kd.S_kept F_r0_4.out hk (fun k_ h_ h2_ => by have e1_ := h_.2; have e2_ := h2_.2; omega)); have U_r0_5 := Aside0.mk (Nat.le_trans U_r0_4.out hk.1); have F_r1_5 := Aside0.mk (Kd.S_kept F_r1_4.out hk (fun k_ h_ h2_ => by have e1_ := h_.2; have e2_ := h2_.2; omega)); have U_r1_5 := Aside0.mk (Nat.le_trans U_r1_4.out hk.1); have F_r2_5 := Aside0.mk (Kd.S_kept F_r2_4.out hk (fun k_ h_ h2_ => by have e1_ := h_.2; have e2_ := h2_.2; omega)); have U_r2_5 := Aside0.mk (Nat.le_trans U_r2_4.out hk.1); have F_r4_5 := Aside0.mk (Kd.R_mono (Kd.R_tight rfl ho) (fun k_ hk_ => F_r4_4.out.1 k_ hk_.symm)); have U_r4_5 := Aside0.mk (Nat.le_trans U_r4_4.out hk.1); have F_r5_5 := Aside0.mk (Kd.R_kept F_r5_4.out hk (fun k_ h_ h2_ => by have e1_ := h_.2; have e2_ := h2_.2; omega)); have U_r5_5 := Aside0.mk (Nat.le_trans U_r5_4.out hk.1); have K_bx_5 := Aside0.mk (blk_kept K_bx_4.out hk (fun h_ => by have e1_ := HQ.out _ h_.1; have e2_ := GB_bx.out; omega)); have hc_bx_0_5 : w_5.cell? ⟨g_bx, 0, none⟩ = some (.slice A_r0 l0.length c_r0) := (blk_cell K_bx_5.out 0).trans rfl; have hc_bx_1_5 : w_5.cell? ⟨g_bx, 1, none⟩ = some (.slice A_r1 l1.length c_r1) := (blk_cell K_bx_5.out 1).trans rfl; have hc_bx_2_5 : w_5.cell? ⟨g_bx, 2, none⟩ = some (.slice A_r2 l2.length c_r2) := (blk_cell K_bx_5.out 2).trans rfl; have hc_bx_3_5 : w_5.cell? ⟨g_bx, 3, none⟩ = some (.int .i64 a3) := (blk_cell K_bx_5.out 3).trans rfl; have hc_bx_4_5 : w_5.cell? ⟨g_bx, 4, none⟩ = some (.slice A_r4 l4.length c_r4) := (blk_cell K_bx_5.out 4).trans rfl; have hc_bx_5_5 : w_5.cell? ⟨g_bx, 5, none⟩ = some (.slice A_r5 l5.length c_r5) := (blk_cell K_bx_5.out 5).trans rfl; have B_5 := Aside0.mk (hb); have KK_5 := Aside0.mk (Kept.then_ KK_4.out hk (fun _ h_ => .inl h_.1)); clear ho hb hk F_r0_4 U_r0_4 F_r1_4 U_r1_4 F_r2_4 U_r2_4 F_r4_4 U_r4_4 F_r5_4 U_r5_4 K_bx_4 hc_bx_0_4 hc_bx_1_4 hc_bx_2_4 hc_bx_3_4 hc_bx_4_4 hc_bx_5_4 B_4 KK_4) | (go_at_call 91; refine (laws_markAnswerS.calls k (fun k_ => Q k_ ∧ col k_ = 4) (.slice A_r5 l5.length c_r5) l5 s3 s4 x5 w0 _ B_5.out F_r5_5.out Q4.out).mono ?_; rintro e w_6 ⟨rfl, ho, hb, hk⟩; have F_r0_6 := Aside0.mk (Kd.S_kept F_r0_5.out hk (fun k_ h_ h2_ => by have e1_ := h_.2; have e2_ := h2_.2; omega)); have U_r0_6 := Aside0.mk (Nat.le_trans U_r0_5.out hk.1); have F_r1_6 := Aside0.mk (Kd.S_kept F_r1_5.out hk (fun k_ h_ h2_ => by have e1_ := h_.2; have e2_ := h2_.2; omega)); have U_r1_6 := Aside0.mk (Nat.le_trans U_r1_5.out hk.1); have F_r2_6 := Aside0.mk (Kd.S_kept F_r2_5.out hk (fun k_ h_ h2_ => by have e1_ := h_.2; have e2_ := h2_.2; omega)); have U_r2_6 := Aside0.mk (Nat.le_trans U_r2_5.out hk.1); have F_r4_6 := Aside0.mk (Kd.R_kept F_r4_5.out hk (fun k_ h_ h2_ => by have e1_ := h_.2; have e2_ := h2_.2; omega)); have U_r4_6 := Aside0.mk (Nat.le_trans U_r4_5.out hk.1); have F_r5_6 := Aside0.mk (Kd.R_mono (Kd.R_tight rfl ho) (fun k_ hk_ => F_r5_5.out.1 k_ hk_.symm)); have U_r5_6 := Aside0.mk (Nat.le_trans U_r5_5.out hk.1); have K_bx_6 := Aside0.mk (blk_kept K_bx_5.out hk (fun h_ => by have e1_ := HQ.out _ h_.1; have e2_ := GB_bx.out; omega)); have hc_bx_0_6 : w_6.cell? ⟨g_bx, 0, none⟩ = some (.slice A_r0 l0.length c_r0) := (blk_cell K_bx_6.out 0).trans rfl; have hc_bx_1_6 : w_6.cell? ⟨g_bx, 1, none⟩ = some (.slice A_r1 l1.length c_r1) := (blk_cell K_bx_6.out 1).trans rfl; have hc_bx_2_6 : w_6.cell? ⟨g_bx, 2, none⟩ = some (.slice A_r2 l2.length c_r2) := (blk_cell K_bx_6.out 2).trans rfl; have hc_bx_3_6 : w_6.cell? ⟨g_bx, 3, none⟩ = some (.int .i64 a3) := (blk_cell K_bx_6.out 3).trans rfl; have hc_bx_4_6 : w_6.cell? ⟨g_bx, 4, none⟩ = some (.slice A_r4 l4.length c_r4) := (blk_cell K_bx_6.out 4).trans rfl; have hc_bx_5_6 : w_6.cell? ⟨g_bx, 5, none⟩ = some (.slice A_r5 l5.length c_r5) := (blk_cell K_bx_6.out 5).trans rfl; have B_6 := Aside0.mk (hb); have KK_6 := Aside0.mk (Kept.then_ KK_5.out hk (fun _ h_ => .inl h_.1)); clear ho hb hk F_r0_5 U_r0_5 F_r1_5 U_r1_5 F_r2_5 U_r2_5 F_r4_5 U_r4_5 F_r5_5 U_r5_5 K_bx_5 hc_bx_0_5 hc_bx_1_5 hc_bx_2_5 hc_bx_3_5 hc_bx_4_5 hc_bx_5_5 B_5 KK_5))
  go_ret
  exact ⟨rfl, F_r0_6.out, F_r1_6.out, F_r2_6.out, F_r4_6.out, F_r5_6.out, B_6.out, KK_6.out⟩
/-! ### laws_FnExactKeepNew: function 8 -/
def colK (W : World) (v : Value) (k : Nat) : Nat := match W.heap[k]? with
 | some (.cells _ q _) => if q = 26 ∨ q = 33 then 0 else if q = 38 ∨ q = 110 then 1 else if q = 115 then 2 else if q = 144 then 4 else if some k = v.ownBlock then 3 else 2
 | _ => 5
theorem colK_0 {W : World} {v : Value} {k : Nat} (h : ∃ q, q ∈ 26 :: k_Row.E ∧ ∃ cells, W.heap[k]? = some (.cells cells q (0, 0))) : colK W v k = 0 := by
 obtain ⟨q, hq, cs, hc⟩ := h
 rw [show 26 :: k_Row.E = [26, 33] from rfl] at hq
 simp only [List.mem_cons, List.not_mem_nil, or_false] at hq
 rcases hq with rfl | rfl <;> simp [colK, hc]
theorem colK_1 {W : World} {v : Value} {k : Nat} (h : ∃ q, q ∈ 38 :: k_Maker.E ∧ ∃ cells, W.heap[k]? = some (.cells cells q (0, 0))) : colK W v k = 1 := by
 obtain ⟨q, hq, cs, hc⟩ := h
 rw [show 38 :: k_Maker.E = [38, 110] from rfl] at hq
 simp only [List.mem_cons, List.not_mem_nil, or_false] at hq
 rcases hq with rfl | rfl <;> simp [colK, hc]
theorem colK_2 {W : World} {v : Value} {k : Nat} (hn : some k ≠ v.ownBlock) (h : ∃ q, q ∈ 115 :: k_Group.E ∧ ∃ cells, W.heap[k]? = some (.cells cells q (0, 0))) : colK W v k = 2 := by
 obtain ⟨q, hq, cs, hc⟩ := h
 rw [show 115 :: k_Group.E = [115, 3, 3, 3] from rfl] at hq
 simp only [List.mem_cons, List.not_mem_nil, or_false] at hq
 rcases hq with rfl | rfl | rfl | rfl <;> simp [colK, hc, hn]
theorem colK_3 {W : World} {v : Value} {k : Nat} (hn : some k = v.ownBlock) (h : ∃ q, q ∈ 3 :: (Kd.int .i64).E ∧ ∃ cells, W.heap[k]? = some (.cells cells q (0, 0))) : colK W v k = 3 := by
 obtain ⟨q, hq, cs, hc⟩ := h
 rw [show 3 :: (Kd.int .i64).E = [3] from rfl] at hq
 simp only [List.mem_cons, List.not_mem_nil, or_false] at hq
 subst hq
 simp [colK, hc, ← hn]
theorem colK_4 {W : World} {v : Value} {k : Nat} (h : ∃ q, q ∈ 144 :: k_Answer.E ∧ ∃ cells, W.heap[k]? = some (.cells cells q (0, 0))) : colK W v k = 4 := by
 obtain ⟨q, hq, cs, hc⟩ := h
 rw [show 144 :: k_Answer.E = [144] from rfl] at hq
 simp only [List.mem_cons, List.not_mem_nil, or_false] at hq
 subst hq
 simp [colK, hc]
def laws_FnExactKeepNew.f (k : Nat) (a0_0 : Int) (a0_1 : Int) (a0_2 : Int) (a0_3 : Int) : Option Bool :=
 (laws_toSetup.f a0_0 a0_1 a0_2 a0_3).bind fun s => (spec_KeepNew.f k s.1 s.2.1 s.2.2.1 s.2.2.2).bind fun y => (impl_KeepNew.f k s.1 s.2.1 s.2.2.1 s.2.2.2).bind fun z =>
 (laws_eqKeep.f k z.1 z.2.1 z.2.2.1 z.2.2.2.1 z.2.2.2.2.1 z.2.2.2.2.2 y.1 y.2.1 y.2.2.1 y.2.2.2.1 y.2.2.2.2.1 y.2.2.2.2.2).bind fun e => (laws_markKeep.f k z.1 z.2.1 z.2.2.1 z.2.2.2.2.1 z.2.2.2.2.2 1).bind fun m => (laws_heldKeep.f k m.2.1 m.2.2.1 m.2.2.2.1 z.2.2.2.1 m.2.2.2.2.1 m.2.2.2.2.2 1).bind fun q =>
 if e = true ∧ ¬ q < 0 ∧ q = m.1 then some true else none
theorem laws_FnExactKeepNew.mono : ∀ a0 a1 a2 a3 k, LeO (laws_FnExactKeepNew.f k a0 a1 a2 a3) (laws_FnExactKeepNew.f (k + 1) a0 a1 a2 a3) := by
 intro a0 a1 a2 a3 k
 unfold laws_FnExactKeepNew.f
 refine LeO.bind (LeO.refl _) (fun _ => ?_)
 refine LeO.bind (spec_KeepNew.mono _ _ _ _ _) (fun _ => ?_)
 refine LeO.bind (impl_KeepNew.mono _ _ _ _ _) (fun _ => ?_)
 refine LeO.bind (laws_eqKeep.mono _ _ _ _ _ _ _ _ _ _ _ _ _ ) (fun _ => ?_)
 refine LeO.bind (laws_markKeep.mono _ _ _ _ _ _ _) (fun _ => ?_)
 refine LeO.bind (laws_heldKeep.mono _ _ _ _ _ _ _ _) (fun _ => ?_)
 exact LeO.refl _
set_option maxHeartbeats 32000000 in
set_option maxRecDepth 100000 in
theorem laws_FnExactKeepNew.calls (k : Nat) (a0_0 : Int) (a0_1 : Int) (a0_2 : Int) (a0_3 : Int) (r : Bool) (w : World)  (h : laws_FnExactKeepNew.f k a0_0 a0_1 a0_2 a0_3 = some r) :
 Calls Try.prog 8 #[.agg #[.int .i64 a0_0, .int .i64 a0_1, .int .i64 a0_2, .int .i64 a0_3]] w fun e w' => e = .returned (.bool r) ∧ Below w.heap.size w w' := by
 have huS := Try.underlying74
 have huK := Try.underlying80
 have B_0 := Aside0.mk (Below.refl w.heap.size w)
 unfold laws_FnExactKeepNew.f at h
 obtain ⟨⟨s0, s1, s2, s3⟩, Q1, h1⟩ := Option.bind_eq_some_iff.mp h
 obtain ⟨⟨y0, y1, y2, y3, y4, y5⟩, Q2, h2⟩ := Option.bind_eq_some_iff.mp h1
 obtain ⟨⟨z0, z1, z2, z3, z4, z5⟩, Q3, h3⟩ := Option.bind_eq_some_iff.mp h2
 obtain ⟨e1, Q4, h4⟩ := Option.bind_eq_some_iff.mp h3
 obtain ⟨⟨mr, m0, m1, m2, m4, m5⟩, Q5, h5⟩ := Option.bind_eq_some_iff.mp h4
 obtain ⟨q, Q6, h6⟩ := Option.bind_eq_some_iff.mp h5
 clear h h1 h2 h3 h4 h5
 change (if e1 = true ∧ ¬ q < 0 ∧ q = mr then some true else none) = some r at h6
 by_cases cc : e1 = true ∧ ¬ q < 0 ∧ q = mr
 case neg =>
  rw [if_neg cc] at h6
  cases h6
 rw [if_pos cc] at h6
 obtain rfl := Option.some.inj h6
 obtain ⟨rfl, nq, rfl⟩ := cc
 have dq : decide (q < 0) = false := decide_eq_false nq
 clear h6 nq
 have q_ := Aside0.mk Q1
 clear Q1
 have Q1 := q_
 clear q_
 have q_ := Aside0.mk Q2
 clear Q2
 have Q2 := q_
 clear q_
 have q_ := Aside0.mk Q3
 clear Q3
 have Q3 := q_
 clear q_
 have q_ := Aside0.mk Q4
 clear Q4
 have Q4 := q_
 clear q_
 have q_ := Aside0.mk Q5
 clear Q5
 have Q5 := q_
 clear q_
 have q_ := Aside0.mk Q6
 clear Q6
 have Q6 := q_
 clear q_
 go_enter Try.func8, Try.ntmps8
 go_wp2_with (first | ((with_reducible refine gate_dst (N := 1) rfl ?_); refine box_event ?hg (N := 1) ?hd (cs := #[.int .i64 a0_0, .int .i64 a0_1, .int .i64 a0_2, .int .i64 a0_3]) (t := 74) ?hr ?_; (case hd => rfl); (case hg => rfl); (case hr => first | (go_simp; done) | (go_simp; rfl)); intro g_st hg w_1 hbox hb; have B_1 := Aside0.mk (below_step B_0.out hb); have K_st_1 := Aside0.mk hbox; have hc_st_0_1 : w_1.cell? ⟨g_st, 0, none⟩ = some (.int .i64 a0_0) := (blk_cell hbox 0).trans rfl; have hc_st_1_1 : w_1.cell? ⟨g_st, 1, none⟩ = some (.int .i64 a0_1) := (blk_cell hbox 1).trans rfl; have hc_st_2_1 : w_1.cell? ⟨g_st, 2, none⟩ = some (.int .i64 a0_2) := (blk_cell hbox 2).trans rfl; have hc_st_3_1 : w_1.cell? ⟨g_st, 3, none⟩ = some (.int .i64 a0_3) := (blk_cell hbox 3).trans rfl; clear hb hbox hg B_0) | (go_at_call 45; refine (laws_toSetup.calls a0_0 a0_1 a0_2 a0_3 s0 s1 s2 s3 _ Q1.out).mono ?_; rintro e w_2 ⟨rfl, hb⟩; have K_st_2 := Aside0.mk (blk_below K_st_1.out hb); have hc_st_0_2 : w_2.cell? ⟨g_st, 0, none⟩ = some (.int .i64 a0_0) := (blk_cell K_st_2.out 0).trans rfl; have hc_st_1_2 : w_2.cell? ⟨g_st, 1, none⟩ = some (.int .i64 a0_1) := (blk_cell K_st_2.out 1).trans rfl; have hc_st_2_2 : w_2.cell? ⟨g_st, 2, none⟩ = some (.int .i64 a0_2) := (blk_cell K_st_2.out 2).trans rfl; have hc_st_3_2 : w_2.cell? ⟨g_st, 3, none⟩ = some (.int .i64 a0_3) := (blk_cell K_st_2.out 3).trans rfl; have B_2 := Aside0.mk (below_step B_1.out hb); clear hb  K_st_1 hc_st_0_1 hc_st_1_1 hc_st_2_1 hc_st_3_1 B_1) | (go_at_call 44; refine (spec_KeepNew.calls k s0 s1 s2 s3 y0 y1 y2 y3 y4 y5 _ Q2.out).mono ?_; rintro e w_3 ⟨v_a0, v_a1, v_a2, v_a4, v_a5, rfl, ho_a0, ho_a1, ho_a2, ho_a4, ho_a5, hb⟩; have E_a0_st : Aside0 (g_st < w_2.heap.size) := ⟨blk_lt K_st_2.out⟩; have E_a1_st : Aside0 (g_st < w_2.heap.size) := ⟨blk_lt K_st_2.out⟩; have E_a2_st : Aside0 (g_st < w_2.heap.size) := ⟨blk_lt K_st_2.out⟩; have E_a4_st : Aside0 (g_st < w_2.heap.size) := ⟨blk_lt K_st_2.out⟩; have E_a5_st : Aside0 (g_st < w_2.heap.size) := ⟨blk_lt K_st_2.out⟩; have N_a0 := Aside0.mk (Kd.S_lower (Kd.S_mono (Kd.S_bound ho_a0) (fun k_ h_ => (show w_2.heap.size ≤ k_ ∧ k_ < w_3.heap.size from ⟨h_.2.1, h_.2.2.1⟩))) B_2.out.size); have N_a1 := Aside0.mk (Kd.S_lower (Kd.S_mono (Kd.S_bound ho_a1) (fun k_ h_ => (show w_2.heap.size ≤ k_ ∧ k_ < w_3.heap.size from ⟨h_.2.1, h_.2.2.1⟩))) B_2.out.size); have N_a2 := Aside0.mk (Kd.S_lower (Kd.S_mono (Kd.S_bound ho_a2) (fun k_ h_ => (show w_2.heap.size ≤ k_ ∧ k_ < w_3.heap.size from ⟨h_.2.1, h_.2.2.1⟩))) B_2.out.size); have N_a4 := Aside0.mk (Kd.R_lower (Kd.R_mono (Kd.R_bound ho_a4) (fun k_ h_ => (show w_2.heap.size ≤ k_ ∧ k_ < w_3.heap.size from ⟨h_.2.1, h_.2.2.1⟩))) B_2.out.size); have N_a5 := Aside0.mk (Kd.R_lower (Kd.R_mono (Kd.R_bound ho_a5) (fun k_ h_ => (show w_2.heap.size ≤ k_ ∧ k_ < w_3.heap.size from ⟨h_.2.1, h_.2.2.1⟩))) B_2.out.size); have K_st_3 := Aside0.mk (blk_below K_st_2.out hb); have hc_st_0_3 : w_3.cell? ⟨g_st, 0, none⟩ = some (.int .i64 a0_0) := (blk_cell K_st_3.out 0).trans rfl; have hc_st_1_3 : w_3.cell? ⟨g_st, 1, none⟩ = some (.int .i64 a0_1) := (blk_cell K_st_3.out 1).trans rfl; have hc_st_2_3 : w_3.cell? ⟨g_st, 2, none⟩ = some (.int .i64 a0_2) := (blk_cell K_st_3.out 2).trans rfl; have hc_st_3_3 : w_3.cell? ⟨g_st, 3, none⟩ = some (.int .i64 a0_3) := (blk_cell K_st_3.out 3).trans rfl; have B_3 := Aside0.mk (below_step B_2.out hb); obtain ⟨A_a0, c_a0, rfl⟩ := Kd.S_slice ho_a0; have F_a0_3 := N_a0; have U_a0_3 : Aside0 (w_3.heap.size ≤ w_3.heap.size) := ⟨Nat.le_refl _⟩; obtain ⟨A_a1, c_a1, rfl⟩ := Kd.S_slice ho_a1; have F_a1_3 := N_a1; have U_a1_3 : Aside0 (w_3.heap.size ≤ w_3.heap.size) := ⟨Nat.le_refl _⟩; obtain ⟨A_a2, c_a2, rfl⟩ := Kd.S_slice ho_a2; have F_a2_3 := N_a2; have U_a2_3 : Aside0 (w_3.heap.size ≤ w_3.heap.size) := ⟨Nat.le_refl _⟩; obtain ⟨A_a4, c_a4, rfl⟩ := Kd.R_slice ho_a4; have F_a4_3 := N_a4; have U_a4_3 : Aside0 (w_3.heap.size ≤ w_3.heap.size) := ⟨Nat.le_refl _⟩; obtain ⟨A_a5, c_a5, rfl⟩ := Kd.R_slice ho_a5; have F_a5_3 := N_a5; have U_a5_3 : Aside0 (w_3.heap.size ≤ w_3.heap.size) := ⟨Nat.le_refl _⟩; clear hb  K_st_2 hc_st_0_2 hc_st_1_2 hc_st_2_2 hc_st_3_2 B_2 N_a0 ho_a0 N_a1 ho_a1 N_a2 ho_a2 N_a4 ho_a4 N_a5 ho_a5) | ((with_reducible refine gate_dst (N := 3) rfl ?_); refine box_event ?hg (N := 3) ?hd (cs := #[.slice none 0 0, .slice none 0 0, .slice none 0 0, .int .i64 0, .slice none 0 0, .slice none 0 0]) (t := 80) ?hr ?_; (case hd => rfl); (case hg => rfl); (case hr => first | (go_simp; done) | (go_simp; rfl)); intro g_ab hg wa_3 hbox hb; have GA := Aside0.mk hg; have BA := Aside0.mk hb; have KA := Aside0.mk hbox; have hv_0 : wa_3.cell? ⟨g_ab, 0, none⟩ = some (.slice none 0 0) := (blk_cell hbox 0).trans rfl; have hz_0 := blk_frozen hbox 0; have hv_1 : wa_3.cell? ⟨g_ab, 1, none⟩ = some (.slice none 0 0) := (blk_cell hbox 1).trans rfl; have hz_1 := blk_frozen hbox 1; have hv_2 : wa_3.cell? ⟨g_ab, 2, none⟩ = some (.slice none 0 0) := (blk_cell hbox 2).trans rfl; have hz_2 := blk_frozen hbox 2; have hv_3 : wa_3.cell? ⟨g_ab, 3, none⟩ = some (.int .i64 0) := (blk_cell hbox 3).trans rfl; have hz_3 := blk_frozen hbox 3; have hv_4 : wa_3.cell? ⟨g_ab, 4, none⟩ = some (.slice none 0 0) := (blk_cell hbox 4).trans rfl; have hz_4 := blk_frozen hbox 4; have hv_5 : wa_3.cell? ⟨g_ab, 5, none⟩ = some (.slice none 0 0) := (blk_cell hbox 5).trans rfl; have hz_5 := blk_frozen hbox 5; clear hb hbox hg) | ((with_reducible refine gate_store (t := 80) (p := 3) rfl ?_); refine store_event (t := 80) (p := 3) (v := ?vo_3) (w1 := ((((((wa_3.setCell ⟨g_ab, 0, none⟩ (.slice A_a0 y0.length c_a0)).setCell ⟨g_ab, 1, none⟩ (.slice A_a1 y1.length c_a1)).setCell ⟨g_ab, 2, none⟩ (.slice A_a2 y2.length c_a2)).setCell ⟨g_ab, 3, none⟩ (.int .i64 y3)).setCell ⟨g_ab, 4, none⟩ (.slice A_a4 y4.length c_a4)).setCell ⟨g_ab, 5, none⟩ (.slice A_a5 y5.length c_a5))) ?hg ?ho ?hn ?hr ?_; (case ho => rfl); (case hg => rfl); (case hn => rfl); (case hr => first | (go_simp; done) | (go_simp; rfl)); intro w_4 hw; have hg := GA.out; have hb : Below w_3.heap.size w_3 w_4 := (qf4_); have hbox : w_4.heap[g_ab]? = some (.cells #[.slice A_a0 y0.length c_a0, .slice A_a1 y1.length c_a1, .slice A_a2 y2.length c_a2, .int .i64 y3, .slice A_a4 y4.length c_a4, .slice A_a5 y5.length c_a5] 80 (0, 0)) := (qf6_); have E_a0_ab : Aside0 (w_3.heap.size ≤ g_ab) := ⟨by rw [hg]; exact U_a0_3.out⟩; have E_a1_ab : Aside0 (w_3.heap.size ≤ g_ab) := ⟨by rw [hg]; exact U_a1_3.out⟩; have E_a2_ab : Aside0 (w_3.heap.size ≤ g_ab) := ⟨by rw [hg]; exact U_a2_3.out⟩; have E_a4_ab : Aside0 (w_3.heap.size ≤ g_ab) := ⟨by rw [hg]; exact U_a4_3.out⟩; have E_a5_ab : Aside0 (w_3.heap.size ≤ g_ab) := ⟨by rw [hg]; exact U_a5_3.out⟩; have F_a0_4 := Aside0.mk (Kd.S_below F_a0_3.out hb); have U_a0_4 := Aside0.mk (Nat.le_trans U_a0_3.out (Below.size hb)); have F_a1_4 := Aside0.mk (Kd.S_below F_a1_3.out hb); have U_a1_4 := Aside0.mk (Nat.le_trans U_a1_3.out (Below.size hb)); have F_a2_4 := Aside0.mk (Kd.S_below F_a2_3.out hb); have U_a2_4 := Aside0.mk (Nat.le_trans U_a2_3.out (Below.size hb)); have F_a4_4 := Aside0.mk (Kd.R_below F_a4_3.out hb); have U_a4_4 := Aside0.mk (Nat.le_trans U_a4_3.out (Below.size hb)); have F_a5_4 := Aside0.mk (Kd.R_below F_a5_3.out hb); have U_a5_4 := Aside0.mk (Nat.le_trans U_a5_3.out (Below.size hb)); have K_st_4 := Aside0.mk (blk_below K_st_3.out hb); have hc_st_0_4 : w_4.cell? ⟨g_st, 0, none⟩ = some (.int .i64 a0_0) := (blk_cell K_st_4.out 0).trans rfl; have hc_st_1_4 : w_4.cell? ⟨g_st, 1, none⟩ = some (.int .i64 a0_1) := (blk_cell K_st_4.out 1).trans rfl; have hc_st_2_4 : w_4.cell? ⟨g_st, 2, none⟩ = some (.int .i64 a0_2) := (blk_cell K_st_4.out 2).trans rfl; have hc_st_3_4 : w_4.cell? ⟨g_st, 3, none⟩ = some (.int .i64 a0_3) := (blk_cell K_st_4.out 3).trans rfl; have B_4 := Aside0.mk (below_step B_3.out hb); have K_ab_4 := Aside0.mk hbox; have hc_ab_0_4 : w_4.cell? ⟨g_ab, 0, none⟩ = some (.slice A_a0 y0.length c_a0) := (blk_cell hbox 0).trans rfl; have hc_ab_1_4 : w_4.cell? ⟨g_ab, 1, none⟩ = some (.slice A_a1 y1.length c_a1) := (blk_cell hbox 1).trans rfl; have hc_ab_2_4 : w_4.cell? ⟨g_ab, 2, none⟩ = some (.slice A_a2 y2.length c_a2) := (blk_cell hbox 2).trans rfl; have hc_ab_3_4 : w_4.cell? ⟨g_ab, 3, none⟩ = some (.int .i64 y3) := (blk_cell hbox 3).trans rfl; have hc_ab_4_4 : w_4.cell? ⟨g_ab, 4, none⟩ = some (.slice A_a4 y4.length c_a4) := (blk_cell hbox 4).trans rfl; have hc_ab_5_4 : w_4.cell? ⟨g_ab, 5, none⟩ = some (.slice A_a5 y5.length c_a5) := (blk_cell hbox 5).trans rfl; clear hw hg hb hbox GA BA KA hv_0 hz_0 hv_1 hz_1 hv_2 hz_2 hv_3 hz_3 hv_4 hz_4 hv_5 hz_5 F_a0_3 U_a0_3 F_a1_3 U_a1_3 F_a2_3 U_a2_3 F_a4_3 U_a4_3 F_a5_3 U_a5_3 K_st_3 hc_st_0_3 hc_st_1_3 hc_st_2_3 hc_st_3_3 B_3) | (go_at_call 45; refine (laws_toSetup.calls a0_0 a0_1 a0_2 a0_3 s0 s1 s2 s3 _ Q1.out).mono ?_; rintro e w_5 ⟨rfl, hb⟩; have F_a0_5 := Aside0.mk (Kd.S_below F_a0_4.out hb); have U_a0_5 := Aside0.mk (Nat.le_trans U_a0_4.out (Below.size hb)); have F_a1_5 := Aside0.mk (Kd.S_below F_a1_4.out hb); have U_a1_5 := Aside0.mk (Nat.le_trans U_a1_4.out (Below.size hb)); have F_a2_5 := Aside0.mk (Kd.S_below F_a2_4.out hb); have U_a2_5 := Aside0.mk (Nat.le_trans U_a2_4.out (Below.size hb)); have F_a4_5 := Aside0.mk (Kd.R_below F_a4_4.out hb); have U_a4_5 := Aside0.mk (Nat.le_trans U_a4_4.out (Below.size hb)); have F_a5_5 := Aside0.mk (Kd.R_below F_a5_4.out hb); have U_a5_5 := Aside0.mk (Nat.le_trans U_a5_4.out (Below.size hb)); have K_st_5 := Aside0.mk (blk_below K_st_4.out hb); have hc_st_0_5 : w_5.cell? ⟨g_st, 0, none⟩ = some (.int .i64 a0_0) := (blk_cell K_st_5.out 0).trans rfl; have hc_st_1_5 : w_5.cell? ⟨g_st, 1, none⟩ = some (.int .i64 a0_1) := (blk_cell K_st_5.out 1).trans rfl; have hc_st_2_5 : w_5.cell? ⟨g_st, 2, none⟩ = some (.int .i64 a0_2) := (blk_cell K_st_5.out 2).trans rfl; have hc_st_3_5 : w_5.cell? ⟨g_st, 3, none⟩ = some (.int .i64 a0_3) := (blk_cell K_st_5.out 3).trans rfl; have K_ab_5 := Aside0.mk (blk_below K_ab_4.out hb); have hc_ab_0_5 : w_5.cell? ⟨g_ab, 0, none⟩ = some (.slice A_a0 y0.length c_a0) := (blk_cell K_ab_5.out 0).trans rfl; have hc_ab_1_5 : w_5.cell? ⟨g_ab, 1, none⟩ = some (.slice A_a1 y1.length c_a1) := (blk_cell K_ab_5.out 1).trans rfl; have hc_ab_2_5 : w_5.cell? ⟨g_ab, 2, none⟩ = some (.slice A_a2 y2.length c_a2) := (blk_cell K_ab_5.out 2).trans rfl; have hc_ab_3_5 : w_5.cell? ⟨g_ab, 3, none⟩ = some (.int .i64 y3) := (blk_cell K_ab_5.out 3).trans rfl; have hc_ab_4_5 : w_5.cell? ⟨g_ab, 4, none⟩ = some (.slice A_a4 y4.length c_a4) := (blk_cell K_ab_5.out 4).trans rfl; have hc_ab_5_5 : w_5.cell? ⟨g_ab, 5, none⟩ = some (.slice A_a5 y5.length c_a5) := (blk_cell K_ab_5.out 5).trans rfl; have B_5 := Aside0.mk (below_step B_4.out hb); clear hb  F_a0_4 U_a0_4 F_a1_4 U_a1_4 F_a2_4 U_a2_4 F_a4_4 U_a4_4 F_a5_4 U_a5_4 K_st_4 hc_st_0_4 hc_st_1_4 hc_st_2_4 hc_st_3_4 K_ab_4 hc_ab_0_4 hc_ab_1_4 hc_ab_2_4 hc_ab_3_4 hc_ab_4_4 hc_ab_5_4 B_4) | (go_at_call 46; refine (impl_KeepNew.calls k s0 s1 s2 s3 z0 z1 z2 z3 z4 z5 _ Q3.out).mono ?_; rintro e w_6 ⟨v_g0, v_g1, v_g2, v_g4, v_g5, rfl, ho_g0, ho_g1, ho_g2, ho_g4, ho_g5, hb⟩; have D_a0_g0 : Aside0 (w_3.heap.size ≤ w_5.heap.size) := ⟨U_a0_5.out⟩; have D_a1_g0 : Aside0 (w_3.heap.size ≤ w_5.heap.size) := ⟨U_a1_5.out⟩; have D_a2_g0 : Aside0 (w_3.heap.size ≤ w_5.heap.size) := ⟨U_a2_5.out⟩; have D_a4_g0 : Aside0 (w_3.heap.size ≤ w_5.heap.size) := ⟨U_a4_5.out⟩; have D_a5_g0 : Aside0 (w_3.heap.size ≤ w_5.heap.size) := ⟨U_a5_5.out⟩; have E_g0_st : Aside0 (g_st < w_5.heap.size) := ⟨blk_lt K_st_5.out⟩; have E_g0_ab : Aside0 (g_ab < w_5.heap.size) := ⟨blk_lt K_ab_5.out⟩; have D_a0_g1 : Aside0 (w_3.heap.size ≤ w_5.heap.size) := ⟨U_a0_5.out⟩; have D_a1_g1 : Aside0 (w_3.heap.size ≤ w_5.heap.size) := ⟨U_a1_5.out⟩; have D_a2_g1 : Aside0 (w_3.heap.size ≤ w_5.heap.size) := ⟨U_a2_5.out⟩; have D_a4_g1 : Aside0 (w_3.heap.size ≤ w_5.heap.size) := ⟨U_a4_5.out⟩; have D_a5_g1 : Aside0 (w_3.heap.size ≤ w_5.heap.size) := ⟨U_a5_5.out⟩; have E_g1_st : Aside0 (g_st < w_5.heap.size) := ⟨blk_lt K_st_5.out⟩; have E_g1_ab : Aside0 (g_ab < w_5.heap.size) := ⟨blk_lt K_ab_5.out⟩; have D_a0_g2 : Aside0 (w_3.heap.size ≤ w_5.heap.size) := ⟨U_a0_5.out⟩; have D_a1_g2 : Aside0 (w_3.heap.size ≤ w_5.heap.size) := ⟨U_a1_5.out⟩; have D_a2_g2 : Aside0 (w_3.heap.size ≤ w_5.heap.size) := ⟨U_a2_5.out⟩; have D_a4_g2 : Aside0 (w_3.heap.size ≤ w_5.heap.size) := ⟨U_a4_5.out⟩; have D_a5_g2 : Aside0 (w_3.heap.size ≤ w_5.heap.size) := ⟨U_a5_5.out⟩; have E_g2_st : Aside0 (g_st < w_5.heap.size) := ⟨blk_lt K_st_5.out⟩; have E_g2_ab : Aside0 (g_ab < w_5.heap.size) := ⟨blk_lt K_ab_5.out⟩; have D_a0_g4 : Aside0 (w_3.heap.size ≤ w_5.heap.size) := ⟨U_a0_5.out⟩; have D_a1_g4 : Aside0 (w_3.heap.size ≤ w_5.heap.size) := ⟨U_a1_5.out⟩; have D_a2_g4 : Aside0 (w_3.heap.size ≤ w_5.heap.size) := ⟨U_a2_5.out⟩; have D_a4_g4 : Aside0 (w_3.heap.size ≤ w_5.heap.size) := ⟨U_a4_5.out⟩; have D_a5_g4 : Aside0 (w_3.heap.size ≤ w_5.heap.size) := ⟨U_a5_5.out⟩; have E_g4_st : Aside0 (g_st < w_5.heap.size) := ⟨blk_lt K_st_5.out⟩; have E_g4_ab : Aside0 (g_ab < w_5.heap.size) := ⟨blk_lt K_ab_5.out⟩; have D_a0_g5 : Aside0 (w_3.heap.size ≤ w_5.heap.size) := ⟨U_a0_5.out⟩; have D_a1_g5 : Aside0 (w_3.heap.size ≤ w_5.heap.size) := ⟨U_a1_5.out⟩; have D_a2_g5 : Aside0 (w_3.heap.size ≤ w_5.heap.size) := ⟨U_a2_5.out⟩; have D_a4_g5 : Aside0 (w_3.heap.size ≤ w_5.heap.size) := ⟨U_a4_5.out⟩; have D_a5_g5 : Aside0 (w_3.heap.size ≤ w_5.heap.size) := ⟨U_a5_5.out⟩; have E_g5_st : Aside0 (g_st < w_5.heap.size) := ⟨blk_lt K_st_5.out⟩; have E_g5_ab : Aside0 (g_ab < w_5.heap.size) := ⟨blk_lt K_ab_5.out⟩; have N_g0 := Aside0.mk (Kd.S_lower (Kd.S_mono (Kd.S_bound ho_g0) (fun k_ h_ => (show (w_5.heap.size ≤ k_ ∧ k_ < w_6.heap.size) ∧ colK w_6 v_g4 k_ = 0 from ⟨⟨h_.2.1, h_.2.2.1⟩, colK_0 h_.2.2.2⟩))) B_5.out.size); have N_g1 := Aside0.mk (Kd.S_lower (Kd.S_mono (Kd.S_bound ho_g1) (fun k_ h_ => (show (w_5.heap.size ≤ k_ ∧ k_ < w_6.heap.size) ∧ colK w_6 v_g4 k_ = 1 from ⟨⟨h_.2.1, h_.2.2.1⟩, colK_1 h_.2.2.2⟩))) B_5.out.size); have N_g2 := Aside0.mk (Kd.S_lower (Kd.S_mono (Kd.S_bound ho_g2) (fun k_ h_ => (show (w_5.heap.size ≤ k_ ∧ k_ < w_6.heap.size) ∧ colK w_6 v_g4 k_ = 2 from ⟨⟨h_.2.1, h_.2.2.1⟩, colK_2 h_.1 h_.2.2.2⟩))) B_5.out.size); have N_g4 := Aside0.mk (Kd.R_lower (Kd.R_mono (Kd.R_bound (Kd.R_tight rfl ho_g4)) (fun k_ h_ => (show (w_5.heap.size ≤ k_ ∧ k_ < w_6.heap.size) ∧ colK w_6 v_g4 k_ = 3 from ⟨⟨h_.2.1, h_.2.2.1⟩, colK_3 h_.1 h_.2.2.2⟩))) B_5.out.size); have N_g5 := Aside0.mk (Kd.R_lower (Kd.R_mono (Kd.R_bound ho_g5) (fun k_ h_ => (show (w_5.heap.size ≤ k_ ∧ k_ < w_6.heap.size) ∧ colK w_6 v_g4 k_ = 4 from ⟨⟨h_.2.1, h_.2.2.1⟩, colK_4 h_.2.2.2⟩))) B_5.out.size); have F_a0_6 := Aside0.mk (Kd.S_below F_a0_5.out hb); have U_a0_6 := Aside0.mk (Nat.le_trans U_a0_5.out (Below.size hb)); have F_a1_6 := Aside0.mk (Kd.S_below F_a1_5.out hb); have U_a1_6 := Aside0.mk (Nat.le_trans U_a1_5.out (Below.size hb)); have F_a2_6 := Aside0.mk (Kd.S_below F_a2_5.out hb); have U_a2_6 := Aside0.mk (Nat.le_trans U_a2_5.out (Below.size hb)); have F_a4_6 := Aside0.mk (Kd.R_below F_a4_5.out hb); have U_a4_6 := Aside0.mk (Nat.le_trans U_a4_5.out (Below.size hb)); have F_a5_6 := Aside0.mk (Kd.R_below F_a5_5.out hb); have U_a5_6 := Aside0.mk (Nat.le_trans U_a5_5.out (Below.size hb)); have K_st_6 := Aside0.mk (blk_below K_st_5.out hb); have hc_st_0_6 : w_6.cell? ⟨g_st, 0, none⟩ = some (.int .i64 a0_0) := (blk_cell K_st_6.out 0).trans rfl; have hc_st_1_6 : w_6.cell? ⟨g_st, 1, none⟩ = some (.int .i64 a0_1) := (blk_cell K_st_6.out 1).trans rfl; have hc_st_2_6 : w_6.cell? ⟨g_st, 2, none⟩ = some (.int .i64 a0_2) := (blk_cell K_st_6.out 2).trans rfl; have hc_st_3_6 : w_6.cell? ⟨g_st, 3, none⟩ = some (.int .i64 a0_3) := (blk_cell K_st_6.out 3).trans rfl; have K_ab_6 := Aside0.mk (blk_below K_ab_5.out hb); have hc_ab_0_6 : w_6.cell? ⟨g_ab, 0, none⟩ = some (.slice A_a0 y0.length c_a0) := (blk_cell K_ab_6.out 0).trans rfl; have hc_ab_1_6 : w_6.cell? ⟨g_ab, 1, none⟩ = some (.slice A_a1 y1.length c_a1) := (blk_cell K_ab_6.out 1).trans rfl; have hc_ab_2_6 : w_6.cell? ⟨g_ab, 2, none⟩ = some (.slice A_a2 y2.length c_a2) := (blk_cell K_ab_6.out 2).trans rfl; have hc_ab_3_6 : w_6.cell? ⟨g_ab, 3, none⟩ = some (.int .i64 y3) := (blk_cell K_ab_6.out 3).trans rfl; have hc_ab_4_6 : w_6.cell? ⟨g_ab, 4, none⟩ = some (.slice A_a4 y4.length c_a4) := (blk_cell K_ab_6.out 4).trans rfl; have hc_ab_5_6 : w_6.cell? ⟨g_ab, 5, none⟩ = some (.slice A_a5 y5.length c_a5) := (blk_cell K_ab_6.out 5).trans rfl; have B_6 := Aside0.mk (below_step B_5.out hb); obtain ⟨A_g0, c_g0, rfl⟩ := Kd.S_slice ho_g0; have F_g0_6 := N_g0; have U_g0_6 : Aside0 (w_6.heap.size ≤ w_6.heap.size) := ⟨Nat.le_refl _⟩; obtain ⟨A_g1, c_g1, rfl⟩ := Kd.S_slice ho_g1; have F_g1_6 := N_g1; have U_g1_6 : Aside0 (w_6.heap.size ≤ w_6.heap.size) := ⟨Nat.le_refl _⟩; obtain ⟨A_g2, c_g2, rfl⟩ := Kd.S_slice ho_g2; have F_g2_6 := N_g2; have U_g2_6 : Aside0 (w_6.heap.size ≤ w_6.heap.size) := ⟨Nat.le_refl _⟩; obtain ⟨A_g4, c_g4, rfl⟩ := Kd.R_slice ho_g4; have F_g4_6 := N_g4; have U_g4_6 : Aside0 (w_6.heap.size ≤ w_6.heap.size) := ⟨Nat.le_refl _⟩; obtain ⟨A_g5, c_g5, rfl⟩ := Kd.R_slice ho_g5; have F_g5_6 := N_g5; have U_g5_6 : Aside0 (w_6.heap.size ≤ w_6.heap.size) := ⟨Nat.le_refl _⟩; clear hb  F_a0_5 U_a0_5 F_a1_5 U_a1_5 F_a2_5 U_a2_5 F_a4_5 U_a4_5 F_a5_5 U_a5_5 K_st_5 hc_st_0_5 hc_st_1_5 hc_st_2_5 hc_st_3_5 K_ab_5 hc_ab_0_5 hc_ab_1_5 hc_ab_2_5 hc_ab_3_5 hc_ab_4_5 hc_ab_5_5 B_5 N_g0 ho_g0 N_g1 ho_g1 N_g2 ho_g2 N_g4 ho_g4 N_g5 ho_g5) | ((with_reducible refine gate_dst (N := 4) rfl ?_); refine box_event ?hg (N := 4) ?hd (cs := #[.slice none 0 0, .slice none 0 0, .slice none 0 0, .int .i64 0, .slice none 0 0, .slice none 0 0]) (t := 80) ?hr ?_; (case hd => rfl); (case hg => rfl); (case hr => first | (go_simp; done) | (go_simp; rfl)); intro g_gb hg wa_6 hbox hb; have GA := Aside0.mk hg; have BA := Aside0.mk hb; have KA := Aside0.mk hbox; have hv_0 : wa_6.cell? ⟨g_gb, 0, none⟩ = some (.slice none 0 0) := (blk_cell hbox 0).trans rfl; have hz_0 := blk_frozen hbox 0; have hv_1 : wa_6.cell? ⟨g_gb, 1, none⟩ = some (.slice none 0 0) := (blk_cell hbox 1).trans rfl; have hz_1 := blk_frozen hbox 1; have hv_2 : wa_6.cell? ⟨g_gb, 2, none⟩ = some (.slice none 0 0) := (blk_cell hbox 2).trans rfl; have hz_2 := blk_frozen hbox 2; have hv_3 : wa_6.cell? ⟨g_gb, 3, none⟩ = some (.int .i64 0) := (blk_cell hbox 3).trans rfl; have hz_3 := blk_frozen hbox 3; have hv_4 : wa_6.cell? ⟨g_gb, 4, none⟩ = some (.slice none 0 0) := (blk_cell hbox 4).trans rfl; have hz_4 := blk_frozen hbox 4; have hv_5 : wa_6.cell? ⟨g_gb, 5, none⟩ = some (.slice none 0 0) := (blk_cell hbox 5).trans rfl; have hz_5 := blk_frozen hbox 5; clear hb hbox hg) | ((with_reducible refine gate_store (t := 80) (p := 4) rfl ?_); refine store_event (t := 80) (p := 4) (v := ?vo_6) (w1 := ((((((wa_6.setCell ⟨g_gb, 0, none⟩ (.slice A_g0 z0.length c_g0)).setCell ⟨g_gb, 1, none⟩ (.slice A_g1 z1.length c_g1)).setCell ⟨g_gb, 2, none⟩ (.slice A_g2 z2.length c_g2)).setCell ⟨g_gb, 3, none⟩ (.int .i64 z3)).setCell ⟨g_gb, 4, none⟩ (.slice A_g4 z4.length c_g4)).setCell ⟨g_gb, 5, none⟩ (.slice A_g5 z5.length c_g5))) ?hg ?ho ?hn ?hr ?_; (case ho => rfl); (case hg => rfl); (case hn => rfl); (case hr => first | (go_simp; done) | (go_simp; rfl)); intro w_7 hw; have hg := GA.out; have hb : Below w_6.heap.size w_6 w_7 := (qf4_); have hbox : w_7.heap[g_gb]? = some (.cells #[.slice A_g0 z0.length c_g0, .slice A_g1 z1.length c_g1, .slice A_g2 z2.length c_g2, .int .i64 z3, .slice A_g4 z4.length c_g4, .slice A_g5 z5.length c_g5] 80 (0, 0)) := (qf6_); have E_a0_gb : Aside0 (w_3.heap.size ≤ g_gb) := ⟨by rw [hg]; exact U_a0_6.out⟩; have E_a1_gb : Aside0 (w_3.heap.size ≤ g_gb) := ⟨by rw [hg]; exact U_a1_6.out⟩; have E_a2_gb : Aside0 (w_3.heap.size ≤ g_gb) := ⟨by rw [hg]; exact U_a2_6.out⟩; have E_a4_gb : Aside0 (w_3.heap.size ≤ g_gb) := ⟨by rw [hg]; exact U_a4_6.out⟩; have E_a5_gb : Aside0 (w_3.heap.size ≤ g_gb) := ⟨by rw [hg]; exact U_a5_6.out⟩; have E_g0_gb : Aside0 (w_6.heap.size ≤ g_gb) := ⟨by rw [hg]; exact U_g0_6.out⟩; have E_g1_gb : Aside0 (w_6.heap.size ≤ g_gb) := ⟨by rw [hg]; exact U_g1_6.out⟩; have E_g2_gb : Aside0 (w_6.heap.size ≤ g_gb) := ⟨by rw [hg]; exact U_g2_6.out⟩; have E_g4_gb : Aside0 (w_6.heap.size ≤ g_gb) := ⟨by rw [hg]; exact U_g4_6.out⟩; have E_g5_gb : Aside0 (w_6.heap.size ≤ g_gb) := ⟨by rw [hg]; exact U_g5_6.out⟩; have F_a0_7 := Aside0.mk (Kd.S_below F_a0_6.out hb); have U_a0_7 := Aside0.mk (Nat.le_trans U_a0_6.out (Below.size hb)); have F_a1_7 := Aside0.mk (Kd.S_below F_a1_6.out hb); have U_a1_7 := Aside0.mk (Nat.le_trans U_a1_6.out (Below.size hb)); have F_a2_7 := Aside0.mk (Kd.S_below F_a2_6.out hb); have U_a2_7 := Aside0.mk (Nat.le_trans U_a2_6.out (Below.size hb)); have F_a4_7 := Aside0.mk (Kd.R_below F_a4_6.out hb); have U_a4_7 := Aside0.mk (Nat.le_trans U_a4_6.out (Below.size hb)); have F_a5_7 := Aside0.mk (Kd.R_below F_a5_6.out hb); have U_a5_7 := Aside0.mk (Nat.le_trans U_a5_6.out (Below.size hb)); have F_g0_7 := Aside0.mk (Kd.S_below F_g0_6.out hb); have U_g0_7 := Aside0.mk (Nat.le_trans U_g0_6.out (Below.size hb)); have F_g1_7 := Aside0.mk (Kd.S_below F_g1_6.out hb); have U_g1_7 := Aside0.mk (Nat.le_trans U_g1_6.out (Below.size hb)); have F_g2_7 := Aside0.mk (Kd.S_below F_g2_6.out hb); have U_g2_7 := Aside0.mk (Nat.le_trans U_g2_6.out (Below.size hb)); have F_g4_7 := Aside0.mk (Kd.R_below F_g4_6.out hb); have U_g4_7 := Aside0.mk (Nat.le_trans U_g4_6.out (Below.size hb)); have F_g5_7 := Aside0.mk (Kd.R_below F_g5_6.out hb); have U_g5_7 := Aside0.mk (Nat.le_trans U_g5_6.out (Below.size hb)); have K_st_7 := Aside0.mk (blk_below K_st_6.out hb); have hc_st_0_7 : w_7.cell? ⟨g_st, 0, none⟩ = some (.int .i64 a0_0) := (blk_cell K_st_7.out 0).trans rfl; have hc_st_1_7 : w_7.cell? ⟨g_st, 1, none⟩ = some (.int .i64 a0_1) := (blk_cell K_st_7.out 1).trans rfl; have hc_st_2_7 : w_7.cell? ⟨g_st, 2, none⟩ = some (.int .i64 a0_2) := (blk_cell K_st_7.out 2).trans rfl; have hc_st_3_7 : w_7.cell? ⟨g_st, 3, none⟩ = some (.int .i64 a0_3) := (blk_cell K_st_7.out 3).trans rfl; have K_ab_7 := Aside0.mk (blk_below K_ab_6.out hb); have hc_ab_0_7 : w_7.cell? ⟨g_ab, 0, none⟩ = some (.slice A_a0 y0.length c_a0) := (blk_cell K_ab_7.out 0).trans rfl; have hc_ab_1_7 : w_7.cell? ⟨g_ab, 1, none⟩ = some (.slice A_a1 y1.length c_a1) := (blk_cell K_ab_7.out 1).trans rfl; have hc_ab_2_7 : w_7.cell? ⟨g_ab, 2, none⟩ = some (.slice A_a2 y2.length c_a2) := (blk_cell K_ab_7.out 2).trans rfl; have hc_ab_3_7 : w_7.cell? ⟨g_ab, 3, none⟩ = some (.int .i64 y3) := (blk_cell K_ab_7.out 3).trans rfl; have hc_ab_4_7 : w_7.cell? ⟨g_ab, 4, none⟩ = some (.slice A_a4 y4.length c_a4) := (blk_cell K_ab_7.out 4).trans rfl; have hc_ab_5_7 : w_7.cell? ⟨g_ab, 5, none⟩ = some (.slice A_a5 y5.length c_a5) := (blk_cell K_ab_7.out 5).trans rfl; have B_7 := Aside0.mk (below_step B_6.out hb); have K_gb_7 := Aside0.mk hbox; have hc_gb_0_7 : w_7.cell? ⟨g_gb, 0, none⟩ = some (.slice A_g0 z0.length c_g0) := (blk_cell hbox 0).trans rfl; have hc_gb_1_7 : w_7.cell? ⟨g_gb, 1, none⟩ = some (.slice A_g1 z1.length c_g1) := (blk_cell hbox 1).trans rfl; have hc_gb_2_7 : w_7.cell? ⟨g_gb, 2, none⟩ = some (.slice A_g2 z2.length c_g2) := (blk_cell hbox 2).trans rfl; have hc_gb_3_7 : w_7.cell? ⟨g_gb, 3, none⟩ = some (.int .i64 z3) := (blk_cell hbox 3).trans rfl; have hc_gb_4_7 : w_7.cell? ⟨g_gb, 4, none⟩ = some (.slice A_g4 z4.length c_g4) := (blk_cell hbox 4).trans rfl; have hc_gb_5_7 : w_7.cell? ⟨g_gb, 5, none⟩ = some (.slice A_g5 z5.length c_g5) := (blk_cell hbox 5).trans rfl; clear hw hg hb hbox GA BA KA hv_0 hz_0 hv_1 hz_1 hv_2 hz_2 hv_3 hz_3 hv_4 hz_4 hv_5 hz_5 F_a0_6 U_a0_6 F_a1_6 U_a1_6 F_a2_6 U_a2_6 F_a4_6 U_a4_6 F_a5_6 U_a5_6 F_g0_6 U_g0_6 F_g1_6 U_g1_6 F_g2_6 U_g2_6 F_g4_6 U_g4_6 F_g5_6 U_g5_6 K_st_6 hc_st_0_6 hc_st_1_6 hc_st_2_6 hc_st_3_6 K_ab_6 hc_ab_0_6 hc_ab_1_6 hc_ab_2_6 hc_ab_3_6 hc_ab_4_6 hc_ab_5_6 B_6) | (go_at_call 47; refine (laws_eqKeep.calls k A_g0 c_g0 z0 A_g1 c_g1 z1 A_g2 c_g2 z2 z3 A_g4 c_g4 z4 A_g5 c_g5 z5 A_a0 c_a0 y0 A_a1 c_a1 y1 A_a2 c_a2 y2 y3 A_a4 c_a4 y4 A_a5 c_a5 y5 true _ (Kd.S_reads' F_g0_7.out).2.2 (by have q_ := Kd.S_reads' F_g0_7.out; omega) (Kd.S_reads' F_g1_7.out).2.2 (by have q_ := Kd.S_reads' F_g1_7.out; omega) (Kd.S_reads' F_g2_7.out).2.2 (by have q_ := Kd.S_reads' F_g2_7.out; omega) (Kd.R_reads' F_g4_7.out).2.2 (by have q_ := Kd.R_reads' F_g4_7.out; omega) (Kd.R_reads' F_g5_7.out).2.2 (by have q_ := Kd.R_reads' F_g5_7.out; omega) (Kd.S_reads' F_a0_7.out).2.2 (by have q_ := Kd.S_reads' F_a0_7.out; omega) (Kd.S_reads' F_a1_7.out).2.2 (by have q_ := Kd.S_reads' F_a1_7.out; omega) (Kd.S_reads' F_a2_7.out).2.2 (by have q_ := Kd.S_reads' F_a2_7.out; omega) (Kd.R_reads' F_a4_7.out).2.2 (by have q_ := Kd.R_reads' F_a4_7.out; omega) (Kd.R_reads' F_a5_7.out).2.2 (by have q_ := Kd.R_reads' F_a5_7.out; omega) Q4.out).mono ?_; rintro e w_8 ⟨rfl, hb⟩; have F_a0_8 := Aside0.mk (Kd.S_below F_a0_7.out hb); have U_a0_8 := Aside0.mk (Nat.le_trans U_a0_7.out (Below.size hb)); have F_a1_8 := Aside0.mk (Kd.S_below F_a1_7.out hb); have U_a1_8 := Aside0.mk (Nat.le_trans U_a1_7.out (Below.size hb)); have F_a2_8 := Aside0.mk (Kd.S_below F_a2_7.out hb); have U_a2_8 := Aside0.mk (Nat.le_trans U_a2_7.out (Below.size hb)); have F_a4_8 := Aside0.mk (Kd.R_below F_a4_7.out hb); have U_a4_8 := Aside0.mk (Nat.le_trans U_a4_7.out (Below.size hb)); have F_a5_8 := Aside0.mk (Kd.R_below F_a5_7.out hb); have U_a5_8 := Aside0.mk (Nat.le_trans U_a5_7.out (Below.size hb)); have F_g0_8 := Aside0.mk (Kd.S_below F_g0_7.out hb); have U_g0_8 := Aside0.mk (Nat.le_trans U_g0_7.out (Below.size hb)); have F_g1_8 := Aside0.mk (Kd.S_below F_g1_7.out hb); have U_g1_8 := Aside0.mk (Nat.le_trans U_g1_7.out (Below.size hb)); have F_g2_8 := Aside0.mk (Kd.S_below F_g2_7.out hb); have U_g2_8 := Aside0.mk (Nat.le_trans U_g2_7.out (Below.size hb)); have F_g4_8 := Aside0.mk (Kd.R_below F_g4_7.out hb); have U_g4_8 := Aside0.mk (Nat.le_trans U_g4_7.out (Below.size hb)); have F_g5_8 := Aside0.mk (Kd.R_below F_g5_7.out hb); have U_g5_8 := Aside0.mk (Nat.le_trans U_g5_7.out (Below.size hb)); have K_st_8 := Aside0.mk (blk_below K_st_7.out hb); have hc_st_0_8 : w_8.cell? ⟨g_st, 0, none⟩ = some (.int .i64 a0_0) := (blk_cell K_st_8.out 0).trans rfl; have hc_st_1_8 : w_8.cell? ⟨g_st, 1, none⟩ = some (.int .i64 a0_1) := (blk_cell K_st_8.out 1).trans rfl; have hc_st_2_8 : w_8.cell? ⟨g_st, 2, none⟩ = some (.int .i64 a0_2) := (blk_cell K_st_8.out 2).trans rfl; have hc_st_3_8 : w_8.cell? ⟨g_st, 3, none⟩ = some (.int .i64 a0_3) := (blk_cell K_st_8.out 3).trans rfl; have K_ab_8 := Aside0.mk (blk_below K_ab_7.out hb); have hc_ab_0_8 : w_8.cell? ⟨g_ab, 0, none⟩ = some (.slice A_a0 y0.length c_a0) := (blk_cell K_ab_8.out 0).trans rfl; have hc_ab_1_8 : w_8.cell? ⟨g_ab, 1, none⟩ = some (.slice A_a1 y1.length c_a1) := (blk_cell K_ab_8.out 1).trans rfl; have hc_ab_2_8 : w_8.cell? ⟨g_ab, 2, none⟩ = some (.slice A_a2 y2.length c_a2) := (blk_cell K_ab_8.out 2).trans rfl; have hc_ab_3_8 : w_8.cell? ⟨g_ab, 3, none⟩ = some (.int .i64 y3) := (blk_cell K_ab_8.out 3).trans rfl; have hc_ab_4_8 : w_8.cell? ⟨g_ab, 4, none⟩ = some (.slice A_a4 y4.length c_a4) := (blk_cell K_ab_8.out 4).trans rfl; have hc_ab_5_8 : w_8.cell? ⟨g_ab, 5, none⟩ = some (.slice A_a5 y5.length c_a5) := (blk_cell K_ab_8.out 5).trans rfl; have K_gb_8 := Aside0.mk (blk_below K_gb_7.out hb); have hc_gb_0_8 : w_8.cell? ⟨g_gb, 0, none⟩ = some (.slice A_g0 z0.length c_g0) := (blk_cell K_gb_8.out 0).trans rfl; have hc_gb_1_8 : w_8.cell? ⟨g_gb, 1, none⟩ = some (.slice A_g1 z1.length c_g1) := (blk_cell K_gb_8.out 1).trans rfl; have hc_gb_2_8 : w_8.cell? ⟨g_gb, 2, none⟩ = some (.slice A_g2 z2.length c_g2) := (blk_cell K_gb_8.out 2).trans rfl; have hc_gb_3_8 : w_8.cell? ⟨g_gb, 3, none⟩ = some (.int .i64 z3) := (blk_cell K_gb_8.out 3).trans rfl; have hc_gb_4_8 : w_8.cell? ⟨g_gb, 4, none⟩ = some (.slice A_g4 z4.length c_g4) := (blk_cell K_gb_8.out 4).trans rfl; have hc_gb_5_8 : w_8.cell? ⟨g_gb, 5, none⟩ = some (.slice A_g5 z5.length c_g5) := (blk_cell K_gb_8.out 5).trans rfl; have B_8 := Aside0.mk (below_step B_7.out hb); clear hb  F_a0_7 U_a0_7 F_a1_7 U_a1_7 F_a2_7 U_a2_7 F_a4_7 U_a4_7 F_a5_7 U_a5_7 F_g0_7 U_g0_7 F_g1_7 U_g1_7 F_g2_7 U_g2_7 F_g4_7 U_g4_7 F_g5_7 U_g5_7 K_st_7 hc_st_0_7 hc_st_1_7 hc_st_2_7 hc_st_3_7 K_ab_7 hc_ab_0_7 hc_ab_1_7 hc_ab_2_7 hc_ab_3_7 hc_ab_4_7 hc_ab_5_7 K_gb_7 hc_gb_0_7 hc_gb_1_7 hc_gb_2_7 hc_gb_3_7 hc_gb_4_7 hc_gb_5_7 B_7) | (go_at_call 48; refine (laws_markKeep.calls k (fun k_ => w_5.heap.size ≤ k_ ∧ k_ < w_6.heap.size) (colK w_6 (.slice A_g4 z4.length c_g4)) (.slice A_g0 z0.length c_g0) z0 (.slice A_g1 z1.length c_g1) z1 (.slice A_g2 z2.length c_g2) z2 (.slice A_g4 z4.length c_g4) z4 (.slice A_g5 z5.length c_g5) z5 z3 1 q m0 m1 m2 m4 m5 w _ B_8.out (fun k_ h_ => Nat.lt_of_lt_of_le h_.2 U_g0_8.out) F_g0_8.out F_g1_8.out F_g2_8.out F_g4_8.out F_g5_8.out Q5.out).mono ?_; rintro e w_9 ⟨rfl, ho_0, ho_1, ho_2, ho_4, ho_5, hb, hk⟩; have F_a0_9 := Aside0.mk (Kd.S_kept F_a0_8.out hk (fun k_ h_ h2_ => by have := D_a0_g0.out; omega)); have U_a0_9 := Aside0.mk (Nat.le_trans U_a0_8.out hk.1); have F_a1_9 := Aside0.mk (Kd.S_kept F_a1_8.out hk (fun k_ h_ h2_ => by have := D_a1_g0.out; omega)); have U_a1_9 := Aside0.mk (Nat.le_trans U_a1_8.out hk.1); have F_a2_9 := Aside0.mk (Kd.S_kept F_a2_8.out hk (fun k_ h_ h2_ => by have := D_a2_g0.out; omega)); have U_a2_9 := Aside0.mk (Nat.le_trans U_a2_8.out hk.1); have F_a4_9 := Aside0.mk (Kd.R_kept F_a4_8.out hk (fun k_ h_ h2_ => by have := D_a4_g0.out; omega)); have U_a4_9 := Aside0.mk (Nat.le_trans U_a4_8.out hk.1); have F_a5_9 := Aside0.mk (Kd.R_kept F_a5_8.out hk (fun k_ h_ h2_ => by have := D_a5_g0.out; omega)); have U_a5_9 := Aside0.mk (Nat.le_trans U_a5_8.out hk.1); have F_g0_9 := Aside0.mk (ho_0); have U_g0_9 := Aside0.mk (Nat.le_trans U_g0_8.out hk.1); have F_g1_9 := Aside0.mk (ho_1); have U_g1_9 := Aside0.mk (Nat.le_trans U_g1_8.out hk.1); have F_g2_9 := Aside0.mk (ho_2); have U_g2_9 := Aside0.mk (Nat.le_trans U_g2_8.out hk.1); have F_g4_9 := Aside0.mk (ho_4); have U_g4_9 := Aside0.mk (Nat.le_trans U_g4_8.out hk.1); have F_g5_9 := Aside0.mk (ho_5); have U_g5_9 := Aside0.mk (Nat.le_trans U_g5_8.out hk.1); have K_st_9 := Aside0.mk (blk_kept K_st_8.out hk (fun h_ => by have := E_g0_st.out; omega)); have hc_st_0_9 : w_9.cell? ⟨g_st, 0, none⟩ = some (.int .i64 a0_0) := (blk_cell K_st_9.out 0).trans rfl; have hc_st_1_9 : w_9.cell? ⟨g_st, 1, none⟩ = some (.int .i64 a0_1) := (blk_cell K_st_9.out 1).trans rfl; have hc_st_2_9 : w_9.cell? ⟨g_st, 2, none⟩ = some (.int .i64 a0_2) := (blk_cell K_st_9.out 2).trans rfl; have hc_st_3_9 : w_9.cell? ⟨g_st, 3, none⟩ = some (.int .i64 a0_3) := (blk_cell K_st_9.out 3).trans rfl; have K_ab_9 := Aside0.mk (blk_kept K_ab_8.out hk (fun h_ => by have := E_g0_ab.out; omega)); have hc_ab_0_9 : w_9.cell? ⟨g_ab, 0, none⟩ = some (.slice A_a0 y0.length c_a0) := (blk_cell K_ab_9.out 0).trans rfl; have hc_ab_1_9 : w_9.cell? ⟨g_ab, 1, none⟩ = some (.slice A_a1 y1.length c_a1) := (blk_cell K_ab_9.out 1).trans rfl; have hc_ab_2_9 : w_9.cell? ⟨g_ab, 2, none⟩ = some (.slice A_a2 y2.length c_a2) := (blk_cell K_ab_9.out 2).trans rfl; have hc_ab_3_9 : w_9.cell? ⟨g_ab, 3, none⟩ = some (.int .i64 y3) := (blk_cell K_ab_9.out 3).trans rfl; have hc_ab_4_9 : w_9.cell? ⟨g_ab, 4, none⟩ = some (.slice A_a4 y4.length c_a4) := (blk_cell K_ab_9.out 4).trans rfl; have hc_ab_5_9 : w_9.cell? ⟨g_ab, 5, none⟩ = some (.slice A_a5 y5.length c_a5) := (blk_cell K_ab_9.out 5).trans rfl; have K_gb_9 := Aside0.mk (blk_kept K_gb_8.out hk (fun h_ => by have := E_g0_gb.out; omega)); have hc_gb_0_9 : w_9.cell? ⟨g_gb, 0, none⟩ = some (.slice A_g0 z0.length c_g0) := (blk_cell K_gb_9.out 0).trans rfl; have hc_gb_1_9 : w_9.cell? ⟨g_gb, 1, none⟩ = some (.slice A_g1 z1.length c_g1) := (blk_cell K_gb_9.out 1).trans rfl; have hc_gb_2_9 : w_9.cell? ⟨g_gb, 2, none⟩ = some (.slice A_g2 z2.length c_g2) := (blk_cell K_gb_9.out 2).trans rfl; have hc_gb_3_9 : w_9.cell? ⟨g_gb, 3, none⟩ = some (.int .i64 z3) := (blk_cell K_gb_9.out 3).trans rfl; have hc_gb_4_9 : w_9.cell? ⟨g_gb, 4, none⟩ = some (.slice A_g4 z4.length c_g4) := (blk_cell K_gb_9.out 4).trans rfl; have hc_gb_5_9 : w_9.cell? ⟨g_gb, 5, none⟩ = some (.slice A_g5 z5.length c_g5) := (blk_cell K_gb_9.out 5).trans rfl; have B_9 := Aside0.mk (hb); clear hb hk ho_0 ho_1 ho_2 ho_4 ho_5 F_a0_8 U_a0_8 F_a1_8 U_a1_8 F_a2_8 U_a2_8 F_a4_8 U_a4_8 F_a5_8 U_a5_8 F_g0_8 U_g0_8 F_g1_8 U_g1_8 F_g2_8 U_g2_8 F_g4_8 U_g4_8 F_g5_8 U_g5_8 K_st_8 hc_st_0_8 hc_st_1_8 hc_st_2_8 hc_st_3_8 K_ab_8 hc_ab_0_8 hc_ab_1_8 hc_ab_2_8 hc_ab_3_8 hc_ab_4_8 hc_ab_5_8 K_gb_8 hc_gb_0_8 hc_gb_1_8 hc_gb_2_8 hc_gb_3_8 hc_gb_4_8 hc_gb_5_8 B_8) | (go_at_call 49; refine (calls_of_args (args' := #[.agg #[.slice A_g0 m0.length c_g0, .slice A_g1 m1.length c_g1, .slice A_g2 m2.length c_g2, .int .i64 z3, .slice A_g4 m4.length c_g4, .slice A_g5 m5.length c_g5], .int .i64 1]) (by rw [show z0.length = m0.length from (Kd.S_reads' F_g0_9.out).1]; rw [show z1.length = m1.length from (Kd.S_reads' F_g1_9.out).1]; rw [show z2.length = m2.length from (Kd.S_reads' F_g2_9.out).1]; rw [show z4.length = m4.length from (Kd.R_reads' F_g4_9.out).1]; rw [show z5.length = m5.length from (Kd.R_reads' F_g5_9.out).1]) (laws_heldKeep.calls k A_g0 c_g0 m0 A_g1 c_g1 m1 A_g2 c_g2 m2 z3 A_g4 c_g4 m4 A_g5 c_g5 m5 1 q _ ((Kd.S_reads' F_g0_9.out).1 ▸ (Kd.S_reads' F_g0_9.out).2.2) (by have q_ := Kd.S_reads' F_g0_9.out; omega) ((Kd.S_reads' F_g1_9.out).1 ▸ (Kd.S_reads' F_g1_9.out).2.2) (by have q_ := Kd.S_reads' F_g1_9.out; omega) ((Kd.S_reads' F_g2_9.out).1 ▸ (Kd.S_reads' F_g2_9.out).2.2) (by have q_ := Kd.S_reads' F_g2_9.out; omega) ((Kd.R_reads' F_g4_9.out).1 ▸ (Kd.R_reads' F_g4_9.out).2.2) (by have q_ := Kd.R_reads' F_g4_9.out; omega) ((Kd.R_reads' F_g5_9.out).1 ▸ (Kd.R_reads' F_g5_9.out).2.2) (by have q_ := Kd.R_reads' F_g5_9.out; omega) Q6.out)).mono ?_; rintro e w_10 ⟨rfl, hb⟩; have F_a0_10 := Aside0.mk (Kd.S_below F_a0_9.out hb); have U_a0_10 := Aside0.mk (Nat.le_trans U_a0_9.out (Below.size hb)); have F_a1_10 := Aside0.mk (Kd.S_below F_a1_9.out hb); have U_a1_10 := Aside0.mk (Nat.le_trans U_a1_9.out (Below.size hb)); have F_a2_10 := Aside0.mk (Kd.S_below F_a2_9.out hb); have U_a2_10 := Aside0.mk (Nat.le_trans U_a2_9.out (Below.size hb)); have F_a4_10 := Aside0.mk (Kd.R_below F_a4_9.out hb); have U_a4_10 := Aside0.mk (Nat.le_trans U_a4_9.out (Below.size hb)); have F_a5_10 := Aside0.mk (Kd.R_below F_a5_9.out hb); have U_a5_10 := Aside0.mk (Nat.le_trans U_a5_9.out (Below.size hb)); have F_g0_10 := Aside0.mk (Kd.S_below F_g0_9.out hb); have U_g0_10 := Aside0.mk (Nat.le_trans U_g0_9.out (Below.size hb)); have F_g1_10 := Aside0.mk (Kd.S_below F_g1_9.out hb); have U_g1_10 := Aside0.mk (Nat.le_trans U_g1_9.out (Below.size hb)); have F_g2_10 := Aside0.mk (Kd.S_below F_g2_9.out hb); have U_g2_10 := Aside0.mk (Nat.le_trans U_g2_9.out (Below.size hb)); have F_g4_10 := Aside0.mk (Kd.R_below F_g4_9.out hb); have U_g4_10 := Aside0.mk (Nat.le_trans U_g4_9.out (Below.size hb)); have F_g5_10 := Aside0.mk (Kd.R_below F_g5_9.out hb); have U_g5_10 := Aside0.mk (Nat.le_trans U_g5_9.out (Below.size hb)); have K_st_10 := Aside0.mk (blk_below K_st_9.out hb); have hc_st_0_10 : w_10.cell? ⟨g_st, 0, none⟩ = some (.int .i64 a0_0) := (blk_cell K_st_10.out 0).trans rfl; have hc_st_1_10 : w_10.cell? ⟨g_st, 1, none⟩ = some (.int .i64 a0_1) := (blk_cell K_st_10.out 1).trans rfl; have hc_st_2_10 : w_10.cell? ⟨g_st, 2, none⟩ = some (.int .i64 a0_2) := (blk_cell K_st_10.out 2).trans rfl; have hc_st_3_10 : w_10.cell? ⟨g_st, 3, none⟩ = some (.int .i64 a0_3) := (blk_cell K_st_10.out 3).trans rfl; have K_ab_10 := Aside0.mk (blk_below K_ab_9.out hb); have hc_ab_0_10 : w_10.cell? ⟨g_ab, 0, none⟩ = some (.slice A_a0 y0.length c_a0) := (blk_cell K_ab_10.out 0).trans rfl; have hc_ab_1_10 : w_10.cell? ⟨g_ab, 1, none⟩ = some (.slice A_a1 y1.length c_a1) := (blk_cell K_ab_10.out 1).trans rfl; have hc_ab_2_10 : w_10.cell? ⟨g_ab, 2, none⟩ = some (.slice A_a2 y2.length c_a2) := (blk_cell K_ab_10.out 2).trans rfl; have hc_ab_3_10 : w_10.cell? ⟨g_ab, 3, none⟩ = some (.int .i64 y3) := (blk_cell K_ab_10.out 3).trans rfl; have hc_ab_4_10 : w_10.cell? ⟨g_ab, 4, none⟩ = some (.slice A_a4 y4.length c_a4) := (blk_cell K_ab_10.out 4).trans rfl; have hc_ab_5_10 : w_10.cell? ⟨g_ab, 5, none⟩ = some (.slice A_a5 y5.length c_a5) := (blk_cell K_ab_10.out 5).trans rfl; have K_gb_10 := Aside0.mk (blk_below K_gb_9.out hb); have hc_gb_0_10 : w_10.cell? ⟨g_gb, 0, none⟩ = some (.slice A_g0 z0.length c_g0) := (blk_cell K_gb_10.out 0).trans rfl; have hc_gb_1_10 : w_10.cell? ⟨g_gb, 1, none⟩ = some (.slice A_g1 z1.length c_g1) := (blk_cell K_gb_10.out 1).trans rfl; have hc_gb_2_10 : w_10.cell? ⟨g_gb, 2, none⟩ = some (.slice A_g2 z2.length c_g2) := (blk_cell K_gb_10.out 2).trans rfl; have hc_gb_3_10 : w_10.cell? ⟨g_gb, 3, none⟩ = some (.int .i64 z3) := (blk_cell K_gb_10.out 3).trans rfl; have hc_gb_4_10 : w_10.cell? ⟨g_gb, 4, none⟩ = some (.slice A_g4 z4.length c_g4) := (blk_cell K_gb_10.out 4).trans rfl; have hc_gb_5_10 : w_10.cell? ⟨g_gb, 5, none⟩ = some (.slice A_g5 z5.length c_g5) := (blk_cell K_gb_10.out 5).trans rfl; have B_10 := Aside0.mk (below_step B_9.out hb); clear hb  F_a0_9 U_a0_9 F_a1_9 U_a1_9 F_a2_9 U_a2_9 F_a4_9 U_a4_9 F_a5_9 U_a5_9 F_g0_9 U_g0_9 F_g1_9 U_g1_9 F_g2_9 U_g2_9 F_g4_9 U_g4_9 F_g5_9 U_g5_9 K_st_9 hc_st_0_9 hc_st_1_9 hc_st_2_9 hc_st_3_9 K_ab_9 hc_ab_0_9 hc_ab_1_9 hc_ab_2_9 hc_ab_3_9 hc_ab_4_9 hc_ab_5_9 K_gb_9 hc_gb_0_9 hc_gb_1_9 hc_gb_2_9 hc_gb_3_9 hc_gb_4_9 hc_gb_5_9 B_9) | (go_at_call 45; refine (laws_toSetup.calls a0_0 a0_1 a0_2 a0_3 s0 s1 s2 s3 _ Q1.out).mono ?_; rintro e w_11 ⟨rfl, hb⟩; have F_a0_11 := Aside0.mk (Kd.S_below F_a0_10.out hb); have U_a0_11 := Aside0.mk (Nat.le_trans U_a0_10.out (Below.size hb)); have F_a1_11 := Aside0.mk (Kd.S_below F_a1_10.out hb); have U_a1_11 := Aside0.mk (Nat.le_trans U_a1_10.out (Below.size hb)); have F_a2_11 := Aside0.mk (Kd.S_below F_a2_10.out hb); have U_a2_11 := Aside0.mk (Nat.le_trans U_a2_10.out (Below.size hb)); have F_a4_11 := Aside0.mk (Kd.R_below F_a4_10.out hb); have U_a4_11 := Aside0.mk (Nat.le_trans U_a4_10.out (Below.size hb)); have F_a5_11 := Aside0.mk (Kd.R_below F_a5_10.out hb); have U_a5_11 := Aside0.mk (Nat.le_trans U_a5_10.out (Below.size hb)); have F_g0_11 := Aside0.mk (Kd.S_below F_g0_10.out hb); have U_g0_11 := Aside0.mk (Nat.le_trans U_g0_10.out (Below.size hb)); have F_g1_11 := Aside0.mk (Kd.S_below F_g1_10.out hb); have U_g1_11 := Aside0.mk (Nat.le_trans U_g1_10.out (Below.size hb)); have F_g2_11 := Aside0.mk (Kd.S_below F_g2_10.out hb); have U_g2_11 := Aside0.mk (Nat.le_trans U_g2_10.out (Below.size hb)); have F_g4_11 := Aside0.mk (Kd.R_below F_g4_10.out hb); have U_g4_11 := Aside0.mk (Nat.le_trans U_g4_10.out (Below.size hb)); have F_g5_11 := Aside0.mk (Kd.R_below F_g5_10.out hb); have U_g5_11 := Aside0.mk (Nat.le_trans U_g5_10.out (Below.size hb)); have K_st_11 := Aside0.mk (blk_below K_st_10.out hb); have hc_st_0_11 : w_11.cell? ⟨g_st, 0, none⟩ = some (.int .i64 a0_0) := (blk_cell K_st_11.out 0).trans rfl; have hc_st_1_11 : w_11.cell? ⟨g_st, 1, none⟩ = some (.int .i64 a0_1) := (blk_cell K_st_11.out 1).trans rfl; have hc_st_2_11 : w_11.cell? ⟨g_st, 2, none⟩ = some (.int .i64 a0_2) := (blk_cell K_st_11.out 2).trans rfl; have hc_st_3_11 : w_11.cell? ⟨g_st, 3, none⟩ = some (.int .i64 a0_3) := (blk_cell K_st_11.out 3).trans rfl; have K_ab_11 := Aside0.mk (blk_below K_ab_10.out hb); have hc_ab_0_11 : w_11.cell? ⟨g_ab, 0, none⟩ = some (.slice A_a0 y0.length c_a0) := (blk_cell K_ab_11.out 0).trans rfl; have hc_ab_1_11 : w_11.cell? ⟨g_ab, 1, none⟩ = some (.slice A_a1 y1.length c_a1) := (blk_cell K_ab_11.out 1).trans rfl; have hc_ab_2_11 : w_11.cell? ⟨g_ab, 2, none⟩ = some (.slice A_a2 y2.length c_a2) := (blk_cell K_ab_11.out 2).trans rfl; have hc_ab_3_11 : w_11.cell? ⟨g_ab, 3, none⟩ = some (.int .i64 y3) := (blk_cell K_ab_11.out 3).trans rfl; have hc_ab_4_11 : w_11.cell? ⟨g_ab, 4, none⟩ = some (.slice A_a4 y4.length c_a4) := (blk_cell K_ab_11.out 4).trans rfl; have hc_ab_5_11 : w_11.cell? ⟨g_ab, 5, none⟩ = some (.slice A_a5 y5.length c_a5) := (blk_cell K_ab_11.out 5).trans rfl; have K_gb_11 := Aside0.mk (blk_below K_gb_10.out hb); have hc_gb_0_11 : w_11.cell? ⟨g_gb, 0, none⟩ = some (.slice A_g0 z0.length c_g0) := (blk_cell K_gb_11.out 0).trans rfl; have hc_gb_1_11 : w_11.cell? ⟨g_gb, 1, none⟩ = some (.slice A_g1 z1.length c_g1) := (blk_cell K_gb_11.out 1).trans rfl; have hc_gb_2_11 : w_11.cell? ⟨g_gb, 2, none⟩ = some (.slice A_g2 z2.length c_g2) := (blk_cell K_gb_11.out 2).trans rfl; have hc_gb_3_11 : w_11.cell? ⟨g_gb, 3, none⟩ = some (.int .i64 z3) := (blk_cell K_gb_11.out 3).trans rfl; have hc_gb_4_11 : w_11.cell? ⟨g_gb, 4, none⟩ = some (.slice A_g4 z4.length c_g4) := (blk_cell K_gb_11.out 4).trans rfl; have hc_gb_5_11 : w_11.cell? ⟨g_gb, 5, none⟩ = some (.slice A_g5 z5.length c_g5) := (blk_cell K_gb_11.out 5).trans rfl; have B_11 := Aside0.mk (below_step B_10.out hb); clear hb  F_a0_10 U_a0_10 F_a1_10 U_a1_10 F_a2_10 U_a2_10 F_a4_10 U_a4_10 F_a5_10 U_a5_10 F_g0_10 U_g0_10 F_g1_10 U_g1_10 F_g2_10 U_g2_10 F_g4_10 U_g4_10 F_g5_10 U_g5_10 K_st_10 hc_st_0_10 hc_st_1_10 hc_st_2_10 hc_st_3_10 K_ab_10 hc_ab_0_10 hc_ab_1_10 hc_ab_2_10 hc_ab_3_10 hc_ab_4_10 hc_ab_5_10 K_gb_10 hc_gb_0_10 hc_gb_1_10 hc_gb_2_10 hc_gb_3_10 hc_gb_4_10 hc_gb_5_10 B_10) | (go_at_call 46; refine (impl_KeepNew.calls k s0 s1 s2 s3 z0 z1 z2 z3 z4 z5 _ Q3.out).mono ?_; rintro e w_12 ⟨v_h0, v_h1, v_h2, v_h4, v_h5, rfl, ho_h0, ho_h1, ho_h2, ho_h4, ho_h5, hb⟩; have D_a0_h0 : Aside0 (w_3.heap.size ≤ w_11.heap.size) := ⟨U_a0_11.out⟩; have D_a1_h0 : Aside0 (w_3.heap.size ≤ w_11.heap.size) := ⟨U_a1_11.out⟩; have D_a2_h0 : Aside0 (w_3.heap.size ≤ w_11.heap.size) := ⟨U_a2_11.out⟩; have D_a4_h0 : Aside0 (w_3.heap.size ≤ w_11.heap.size) := ⟨U_a4_11.out⟩; have D_a5_h0 : Aside0 (w_3.heap.size ≤ w_11.heap.size) := ⟨U_a5_11.out⟩; have D_g0_h0 : Aside0 (w_6.heap.size ≤ w_11.heap.size) := ⟨U_g0_11.out⟩; have D_g1_h0 : Aside0 (w_6.heap.size ≤ w_11.heap.size) := ⟨U_g1_11.out⟩; have D_g2_h0 : Aside0 (w_6.heap.size ≤ w_11.heap.size) := ⟨U_g2_11.out⟩; have D_g4_h0 : Aside0 (w_6.heap.size ≤ w_11.heap.size) := ⟨U_g4_11.out⟩; have D_g5_h0 : Aside0 (w_6.heap.size ≤ w_11.heap.size) := ⟨U_g5_11.out⟩; have E_h0_st : Aside0 (g_st < w_11.heap.size) := ⟨blk_lt K_st_11.out⟩; have E_h0_ab : Aside0 (g_ab < w_11.heap.size) := ⟨blk_lt K_ab_11.out⟩; have E_h0_gb : Aside0 (g_gb < w_11.heap.size) := ⟨blk_lt K_gb_11.out⟩; have D_a0_h1 : Aside0 (w_3.heap.size ≤ w_11.heap.size) := ⟨U_a0_11.out⟩; have D_a1_h1 : Aside0 (w_3.heap.size ≤ w_11.heap.size) := ⟨U_a1_11.out⟩; have D_a2_h1 : Aside0 (w_3.heap.size ≤ w_11.heap.size) := ⟨U_a2_11.out⟩; have D_a4_h1 : Aside0 (w_3.heap.size ≤ w_11.heap.size) := ⟨U_a4_11.out⟩; have D_a5_h1 : Aside0 (w_3.heap.size ≤ w_11.heap.size) := ⟨U_a5_11.out⟩; have D_g0_h1 : Aside0 (w_6.heap.size ≤ w_11.heap.size) := ⟨U_g0_11.out⟩; have D_g1_h1 : Aside0 (w_6.heap.size ≤ w_11.heap.size) := ⟨U_g1_11.out⟩; have D_g2_h1 : Aside0 (w_6.heap.size ≤ w_11.heap.size) := ⟨U_g2_11.out⟩; have D_g4_h1 : Aside0 (w_6.heap.size ≤ w_11.heap.size) := ⟨U_g4_11.out⟩; have D_g5_h1 : Aside0 (w_6.heap.size ≤ w_11.heap.size) := ⟨U_g5_11.out⟩; have E_h1_st : Aside0 (g_st < w_11.heap.size) := ⟨blk_lt K_st_11.out⟩; have E_h1_ab : Aside0 (g_ab < w_11.heap.size) := ⟨blk_lt K_ab_11.out⟩; have E_h1_gb : Aside0 (g_gb < w_11.heap.size) := ⟨blk_lt K_gb_11.out⟩; have D_a0_h2 : Aside0 (w_3.heap.size ≤ w_11.heap.size) := ⟨U_a0_11.out⟩; have D_a1_h2 : Aside0 (w_3.heap.size ≤ w_11.heap.size) := ⟨U_a1_11.out⟩; have D_a2_h2 : Aside0 (w_3.heap.size ≤ w_11.heap.size) := ⟨U_a2_11.out⟩; have D_a4_h2 : Aside0 (w_3.heap.size ≤ w_11.heap.size) := ⟨U_a4_11.out⟩; have D_a5_h2 : Aside0 (w_3.heap.size ≤ w_11.heap.size) := ⟨U_a5_11.out⟩; have D_g0_h2 : Aside0 (w_6.heap.size ≤ w_11.heap.size) := ⟨U_g0_11.out⟩; have D_g1_h2 : Aside0 (w_6.heap.size ≤ w_11.heap.size) := ⟨U_g1_11.out⟩; have D_g2_h2 : Aside0 (w_6.heap.size ≤ w_11.heap.size) := ⟨U_g2_11.out⟩; have D_g4_h2 : Aside0 (w_6.heap.size ≤ w_11.heap.size) := ⟨U_g4_11.out⟩; have D_g5_h2 : Aside0 (w_6.heap.size ≤ w_11.heap.size) := ⟨U_g5_11.out⟩; have E_h2_st : Aside0 (g_st < w_11.heap.size) := ⟨blk_lt K_st_11.out⟩; have E_h2_ab : Aside0 (g_ab < w_11.heap.size) := ⟨blk_lt K_ab_11.out⟩; have E_h2_gb : Aside0 (g_gb < w_11.heap.size) := ⟨blk_lt K_gb_11.out⟩; have D_a0_h4 : Aside0 (w_3.heap.size ≤ w_11.heap.size) := ⟨U_a0_11.out⟩; have D_a1_h4 : Aside0 (w_3.heap.size ≤ w_11.heap.size) := ⟨U_a1_11.out⟩; have D_a2_h4 : Aside0 (w_3.heap.size ≤ w_11.heap.size) := ⟨U_a2_11.out⟩; have D_a4_h4 : Aside0 (w_3.heap.size ≤ w_11.heap.size) := ⟨U_a4_11.out⟩; have D_a5_h4 : Aside0 (w_3.heap.size ≤ w_11.heap.size) := ⟨U_a5_11.out⟩; have D_g0_h4 : Aside0 (w_6.heap.size ≤ w_11.heap.size) := ⟨U_g0_11.out⟩; have D_g1_h4 : Aside0 (w_6.heap.size ≤ w_11.heap.size) := ⟨U_g1_11.out⟩; have D_g2_h4 : Aside0 (w_6.heap.size ≤ w_11.heap.size) := ⟨U_g2_11.out⟩; have D_g4_h4 : Aside0 (w_6.heap.size ≤ w_11.heap.size) := ⟨U_g4_11.out⟩; have D_g5_h4 : Aside0 (w_6.heap.size ≤ w_11.heap.size) := ⟨U_g5_11.out⟩; have E_h4_st : Aside0 (g_st < w_11.heap.size) := ⟨blk_lt K_st_11.out⟩; have E_h4_ab : Aside0 (g_ab < w_11.heap.size) := ⟨blk_lt K_ab_11.out⟩; have E_h4_gb : Aside0 (g_gb < w_11.heap.size) := ⟨blk_lt K_gb_11.out⟩; have D_a0_h5 : Aside0 (w_3.heap.size ≤ w_11.heap.size) := ⟨U_a0_11.out⟩; have D_a1_h5 : Aside0 (w_3.heap.size ≤ w_11.heap.size) := ⟨U_a1_11.out⟩; have D_a2_h5 : Aside0 (w_3.heap.size ≤ w_11.heap.size) := ⟨U_a2_11.out⟩; have D_a4_h5 : Aside0 (w_3.heap.size ≤ w_11.heap.size) := ⟨U_a4_11.out⟩; have D_a5_h5 : Aside0 (w_3.heap.size ≤ w_11.heap.size) := ⟨U_a5_11.out⟩; have D_g0_h5 : Aside0 (w_6.heap.size ≤ w_11.heap.size) := ⟨U_g0_11.out⟩; have D_g1_h5 : Aside0 (w_6.heap.size ≤ w_11.heap.size) := ⟨U_g1_11.out⟩; have D_g2_h5 : Aside0 (w_6.heap.size ≤ w_11.heap.size) := ⟨U_g2_11.out⟩; have D_g4_h5 : Aside0 (w_6.heap.size ≤ w_11.heap.size) := ⟨U_g4_11.out⟩; have D_g5_h5 : Aside0 (w_6.heap.size ≤ w_11.heap.size) := ⟨U_g5_11.out⟩; have E_h5_st : Aside0 (g_st < w_11.heap.size) := ⟨blk_lt K_st_11.out⟩; have E_h5_ab : Aside0 (g_ab < w_11.heap.size) := ⟨blk_lt K_ab_11.out⟩; have E_h5_gb : Aside0 (g_gb < w_11.heap.size) := ⟨blk_lt K_gb_11.out⟩; have N_h0 := Aside0.mk (Kd.S_lower (Kd.S_mono (Kd.S_bound ho_h0) (fun k_ h_ => (show w_11.heap.size ≤ k_ ∧ k_ < w_12.heap.size from ⟨h_.2.1, h_.2.2.1⟩))) B_11.out.size); have N_h1 := Aside0.mk (Kd.S_lower (Kd.S_mono (Kd.S_bound ho_h1) (fun k_ h_ => (show w_11.heap.size ≤ k_ ∧ k_ < w_12.heap.size from ⟨h_.2.1, h_.2.2.1⟩))) B_11.out.size); have N_h2 := Aside0.mk (Kd.S_lower (Kd.S_mono (Kd.S_bound ho_h2) (fun k_ h_ => (show w_11.heap.size ≤ k_ ∧ k_ < w_12.heap.size from ⟨h_.2.1, h_.2.2.1⟩))) B_11.out.size); have N_h4 := Aside0.mk (Kd.R_lower (Kd.R_mono (Kd.R_bound ho_h4) (fun k_ h_ => (show w_11.heap.size ≤ k_ ∧ k_ < w_12.heap.size from ⟨h_.2.1, h_.2.2.1⟩))) B_11.out.size); have N_h5 := Aside0.mk (Kd.R_lower (Kd.R_mono (Kd.R_bound ho_h5) (fun k_ h_ => (show w_11.heap.size ≤ k_ ∧ k_ < w_12.heap.size from ⟨h_.2.1, h_.2.2.1⟩))) B_11.out.size); have F_a0_12 := Aside0.mk (Kd.S_below F_a0_11.out hb); have U_a0_12 := Aside0.mk (Nat.le_trans U_a0_11.out (Below.size hb)); have F_a1_12 := Aside0.mk (Kd.S_below F_a1_11.out hb); have U_a1_12 := Aside0.mk (Nat.le_trans U_a1_11.out (Below.size hb)); have F_a2_12 := Aside0.mk (Kd.S_below F_a2_11.out hb); have U_a2_12 := Aside0.mk (Nat.le_trans U_a2_11.out (Below.size hb)); have F_a4_12 := Aside0.mk (Kd.R_below F_a4_11.out hb); have U_a4_12 := Aside0.mk (Nat.le_trans U_a4_11.out (Below.size hb)); have F_a5_12 := Aside0.mk (Kd.R_below F_a5_11.out hb); have U_a5_12 := Aside0.mk (Nat.le_trans U_a5_11.out (Below.size hb)); have F_g0_12 := Aside0.mk (Kd.S_below F_g0_11.out hb); have U_g0_12 := Aside0.mk (Nat.le_trans U_g0_11.out (Below.size hb)); have F_g1_12 := Aside0.mk (Kd.S_below F_g1_11.out hb); have U_g1_12 := Aside0.mk (Nat.le_trans U_g1_11.out (Below.size hb)); have F_g2_12 := Aside0.mk (Kd.S_below F_g2_11.out hb); have U_g2_12 := Aside0.mk (Nat.le_trans U_g2_11.out (Below.size hb)); have F_g4_12 := Aside0.mk (Kd.R_below F_g4_11.out hb); have U_g4_12 := Aside0.mk (Nat.le_trans U_g4_11.out (Below.size hb)); have F_g5_12 := Aside0.mk (Kd.R_below F_g5_11.out hb); have U_g5_12 := Aside0.mk (Nat.le_trans U_g5_11.out (Below.size hb)); have K_st_12 := Aside0.mk (blk_below K_st_11.out hb); have hc_st_0_12 : w_12.cell? ⟨g_st, 0, none⟩ = some (.int .i64 a0_0) := (blk_cell K_st_12.out 0).trans rfl; have hc_st_1_12 : w_12.cell? ⟨g_st, 1, none⟩ = some (.int .i64 a0_1) := (blk_cell K_st_12.out 1).trans rfl; have hc_st_2_12 : w_12.cell? ⟨g_st, 2, none⟩ = some (.int .i64 a0_2) := (blk_cell K_st_12.out 2).trans rfl; have hc_st_3_12 : w_12.cell? ⟨g_st, 3, none⟩ = some (.int .i64 a0_3) := (blk_cell K_st_12.out 3).trans rfl; have K_ab_12 := Aside0.mk (blk_below K_ab_11.out hb); have hc_ab_0_12 : w_12.cell? ⟨g_ab, 0, none⟩ = some (.slice A_a0 y0.length c_a0) := (blk_cell K_ab_12.out 0).trans rfl; have hc_ab_1_12 : w_12.cell? ⟨g_ab, 1, none⟩ = some (.slice A_a1 y1.length c_a1) := (blk_cell K_ab_12.out 1).trans rfl; have hc_ab_2_12 : w_12.cell? ⟨g_ab, 2, none⟩ = some (.slice A_a2 y2.length c_a2) := (blk_cell K_ab_12.out 2).trans rfl; have hc_ab_3_12 : w_12.cell? ⟨g_ab, 3, none⟩ = some (.int .i64 y3) := (blk_cell K_ab_12.out 3).trans rfl; have hc_ab_4_12 : w_12.cell? ⟨g_ab, 4, none⟩ = some (.slice A_a4 y4.length c_a4) := (blk_cell K_ab_12.out 4).trans rfl; have hc_ab_5_12 : w_12.cell? ⟨g_ab, 5, none⟩ = some (.slice A_a5 y5.length c_a5) := (blk_cell K_ab_12.out 5).trans rfl; have K_gb_12 := Aside0.mk (blk_below K_gb_11.out hb); have hc_gb_0_12 : w_12.cell? ⟨g_gb, 0, none⟩ = some (.slice A_g0 z0.length c_g0) := (blk_cell K_gb_12.out 0).trans rfl; have hc_gb_1_12 : w_12.cell? ⟨g_gb, 1, none⟩ = some (.slice A_g1 z1.length c_g1) := (blk_cell K_gb_12.out 1).trans rfl; have hc_gb_2_12 : w_12.cell? ⟨g_gb, 2, none⟩ = some (.slice A_g2 z2.length c_g2) := (blk_cell K_gb_12.out 2).trans rfl; have hc_gb_3_12 : w_12.cell? ⟨g_gb, 3, none⟩ = some (.int .i64 z3) := (blk_cell K_gb_12.out 3).trans rfl; have hc_gb_4_12 : w_12.cell? ⟨g_gb, 4, none⟩ = some (.slice A_g4 z4.length c_g4) := (blk_cell K_gb_12.out 4).trans rfl; have hc_gb_5_12 : w_12.cell? ⟨g_gb, 5, none⟩ = some (.slice A_g5 z5.length c_g5) := (blk_cell K_gb_12.out 5).trans rfl; have B_12 := Aside0.mk (below_step B_11.out hb); obtain ⟨A_h0, c_h0, rfl⟩ := Kd.S_slice ho_h0; have F_h0_12 := N_h0; have U_h0_12 : Aside0 (w_12.heap.size ≤ w_12.heap.size) := ⟨Nat.le_refl _⟩; obtain ⟨A_h1, c_h1, rfl⟩ := Kd.S_slice ho_h1; have F_h1_12 := N_h1; have U_h1_12 : Aside0 (w_12.heap.size ≤ w_12.heap.size) := ⟨Nat.le_refl _⟩; obtain ⟨A_h2, c_h2, rfl⟩ := Kd.S_slice ho_h2; have F_h2_12 := N_h2; have U_h2_12 : Aside0 (w_12.heap.size ≤ w_12.heap.size) := ⟨Nat.le_refl _⟩; obtain ⟨A_h4, c_h4, rfl⟩ := Kd.R_slice ho_h4; have F_h4_12 := N_h4; have U_h4_12 : Aside0 (w_12.heap.size ≤ w_12.heap.size) := ⟨Nat.le_refl _⟩; obtain ⟨A_h5, c_h5, rfl⟩ := Kd.R_slice ho_h5; have F_h5_12 := N_h5; have U_h5_12 : Aside0 (w_12.heap.size ≤ w_12.heap.size) := ⟨Nat.le_refl _⟩; clear hb  F_a0_11 U_a0_11 F_a1_11 U_a1_11 F_a2_11 U_a2_11 F_a4_11 U_a4_11 F_a5_11 U_a5_11 F_g0_11 U_g0_11 F_g1_11 U_g1_11 F_g2_11 U_g2_11 F_g4_11 U_g4_11 F_g5_11 U_g5_11 K_st_11 hc_st_0_11 hc_st_1_11 hc_st_2_11 hc_st_3_11 K_ab_11 hc_ab_0_11 hc_ab_1_11 hc_ab_2_11 hc_ab_3_11 hc_ab_4_11 hc_ab_5_11 K_gb_11 hc_gb_0_11 hc_gb_1_11 hc_gb_2_11 hc_gb_3_11 hc_gb_4_11 hc_gb_5_11 B_11 N_h0 ho_h0 N_h1 ho_h1 N_h2 ho_h2 N_h4 ho_h4 N_h5 ho_h5) | ((with_reducible refine gate_dst (N := 7) rfl ?_); refine box_event ?hg (N := 7) ?hd (cs := #[.slice none 0 0, .slice none 0 0, .slice none 0 0, .int .i64 0, .slice none 0 0, .slice none 0 0]) (t := 80) ?hr ?_; (case hd => rfl); (case hg => rfl); (case hr => first | (go_simp; done) | (go_simp; rfl)); intro g_hb hg wa_12 hbox hb; have GA := Aside0.mk hg; have BA := Aside0.mk hb; have KA := Aside0.mk hbox; have hv_0 : wa_12.cell? ⟨g_hb, 0, none⟩ = some (.slice none 0 0) := (blk_cell hbox 0).trans rfl; have hz_0 := blk_frozen hbox 0; have hv_1 : wa_12.cell? ⟨g_hb, 1, none⟩ = some (.slice none 0 0) := (blk_cell hbox 1).trans rfl; have hz_1 := blk_frozen hbox 1; have hv_2 : wa_12.cell? ⟨g_hb, 2, none⟩ = some (.slice none 0 0) := (blk_cell hbox 2).trans rfl; have hz_2 := blk_frozen hbox 2; have hv_3 : wa_12.cell? ⟨g_hb, 3, none⟩ = some (.int .i64 0) := (blk_cell hbox 3).trans rfl; have hz_3 := blk_frozen hbox 3; have hv_4 : wa_12.cell? ⟨g_hb, 4, none⟩ = some (.slice none 0 0) := (blk_cell hbox 4).trans rfl; have hz_4 := blk_frozen hbox 4; have hv_5 : wa_12.cell? ⟨g_hb, 5, none⟩ = some (.slice none 0 0) := (blk_cell hbox 5).trans rfl; have hz_5 := blk_frozen hbox 5; clear hb hbox hg) | ((with_reducible refine gate_store (t := 80) (p := 7) rfl ?_); refine store_event (t := 80) (p := 7) (v := ?vo_12) (w1 := ((((((wa_12.setCell ⟨g_hb, 0, none⟩ (.slice A_h0 z0.length c_h0)).setCell ⟨g_hb, 1, none⟩ (.slice A_h1 z1.length c_h1)).setCell ⟨g_hb, 2, none⟩ (.slice A_h2 z2.length c_h2)).setCell ⟨g_hb, 3, none⟩ (.int .i64 z3)).setCell ⟨g_hb, 4, none⟩ (.slice A_h4 z4.length c_h4)).setCell ⟨g_hb, 5, none⟩ (.slice A_h5 z5.length c_h5))) ?hg ?ho ?hn ?hr ?_; (case ho => rfl); (case hg => rfl); (case hn => rfl); (case hr => first | (go_simp; done) | (go_simp; rfl)); intro w_13 hw; have hg := GA.out; have hb : Below w_12.heap.size w_12 w_13 := (qf4_); have hbox : w_13.heap[g_hb]? = some (.cells #[.slice A_h0 z0.length c_h0, .slice A_h1 z1.length c_h1, .slice A_h2 z2.length c_h2, .int .i64 z3, .slice A_h4 z4.length c_h4, .slice A_h5 z5.length c_h5] 80 (0, 0)) := (qf6_); have E_a0_hb : Aside0 (w_3.heap.size ≤ g_hb) := ⟨by rw [hg]; exact U_a0_12.out⟩; have E_a1_hb : Aside0 (w_3.heap.size ≤ g_hb) := ⟨by rw [hg]; exact U_a1_12.out⟩; have E_a2_hb : Aside0 (w_3.heap.size ≤ g_hb) := ⟨by rw [hg]; exact U_a2_12.out⟩; have E_a4_hb : Aside0 (w_3.heap.size ≤ g_hb) := ⟨by rw [hg]; exact U_a4_12.out⟩; have E_a5_hb : Aside0 (w_3.heap.size ≤ g_hb) := ⟨by rw [hg]; exact U_a5_12.out⟩; have E_g0_hb : Aside0 (w_6.heap.size ≤ g_hb) := ⟨by rw [hg]; exact U_g0_12.out⟩; have E_g1_hb : Aside0 (w_6.heap.size ≤ g_hb) := ⟨by rw [hg]; exact U_g1_12.out⟩; have E_g2_hb : Aside0 (w_6.heap.size ≤ g_hb) := ⟨by rw [hg]; exact U_g2_12.out⟩; have E_g4_hb : Aside0 (w_6.heap.size ≤ g_hb) := ⟨by rw [hg]; exact U_g4_12.out⟩; have E_g5_hb : Aside0 (w_6.heap.size ≤ g_hb) := ⟨by rw [hg]; exact U_g5_12.out⟩; have E_h0_hb : Aside0 (w_12.heap.size ≤ g_hb) := ⟨by rw [hg]; exact U_h0_12.out⟩; have E_h1_hb : Aside0 (w_12.heap.size ≤ g_hb) := ⟨by rw [hg]; exact U_h1_12.out⟩; have E_h2_hb : Aside0 (w_12.heap.size ≤ g_hb) := ⟨by rw [hg]; exact U_h2_12.out⟩; have E_h4_hb : Aside0 (w_12.heap.size ≤ g_hb) := ⟨by rw [hg]; exact U_h4_12.out⟩; have E_h5_hb : Aside0 (w_12.heap.size ≤ g_hb) := ⟨by rw [hg]; exact U_h5_12.out⟩; have F_a0_13 := Aside0.mk (Kd.S_below F_a0_12.out hb); have U_a0_13 := Aside0.mk (Nat.le_trans U_a0_12.out (Below.size hb)); have F_a1_13 := Aside0.mk (Kd.S_below F_a1_12.out hb); have U_a1_13 := Aside0.mk (Nat.le_trans U_a1_12.out (Below.size hb)); have F_a2_13 := Aside0.mk (Kd.S_below F_a2_12.out hb); have U_a2_13 := Aside0.mk (Nat.le_trans U_a2_12.out (Below.size hb)); have F_a4_13 := Aside0.mk (Kd.R_below F_a4_12.out hb); have U_a4_13 := Aside0.mk (Nat.le_trans U_a4_12.out (Below.size hb)); have F_a5_13 := Aside0.mk (Kd.R_below F_a5_12.out hb); have U_a5_13 := Aside0.mk (Nat.le_trans U_a5_12.out (Below.size hb)); have F_g0_13 := Aside0.mk (Kd.S_below F_g0_12.out hb); have U_g0_13 := Aside0.mk (Nat.le_trans U_g0_12.out (Below.size hb)); have F_g1_13 := Aside0.mk (Kd.S_below F_g1_12.out hb); have U_g1_13 := Aside0.mk (Nat.le_trans U_g1_12.out (Below.size hb)); have F_g2_13 := Aside0.mk (Kd.S_below F_g2_12.out hb); have U_g2_13 := Aside0.mk (Nat.le_trans U_g2_12.out (Below.size hb)); have F_g4_13 := Aside0.mk (Kd.R_below F_g4_12.out hb); have U_g4_13 := Aside0.mk (Nat.le_trans U_g4_12.out (Below.size hb)); have F_g5_13 := Aside0.mk (Kd.R_below F_g5_12.out hb); have U_g5_13 := Aside0.mk (Nat.le_trans U_g5_12.out (Below.size hb)); have F_h0_13 := Aside0.mk (Kd.S_below F_h0_12.out hb); have U_h0_13 := Aside0.mk (Nat.le_trans U_h0_12.out (Below.size hb)); have F_h1_13 := Aside0.mk (Kd.S_below F_h1_12.out hb); have U_h1_13 := Aside0.mk (Nat.le_trans U_h1_12.out (Below.size hb)); have F_h2_13 := Aside0.mk (Kd.S_below F_h2_12.out hb); have U_h2_13 := Aside0.mk (Nat.le_trans U_h2_12.out (Below.size hb)); have F_h4_13 := Aside0.mk (Kd.R_below F_h4_12.out hb); have U_h4_13 := Aside0.mk (Nat.le_trans U_h4_12.out (Below.size hb)); have F_h5_13 := Aside0.mk (Kd.R_below F_h5_12.out hb); have U_h5_13 := Aside0.mk (Nat.le_trans U_h5_12.out (Below.size hb)); have K_st_13 := Aside0.mk (blk_below K_st_12.out hb); have hc_st_0_13 : w_13.cell? ⟨g_st, 0, none⟩ = some (.int .i64 a0_0) := (blk_cell K_st_13.out 0).trans rfl; have hc_st_1_13 : w_13.cell? ⟨g_st, 1, none⟩ = some (.int .i64 a0_1) := (blk_cell K_st_13.out 1).trans rfl; have hc_st_2_13 : w_13.cell? ⟨g_st, 2, none⟩ = some (.int .i64 a0_2) := (blk_cell K_st_13.out 2).trans rfl; have hc_st_3_13 : w_13.cell? ⟨g_st, 3, none⟩ = some (.int .i64 a0_3) := (blk_cell K_st_13.out 3).trans rfl; have K_ab_13 := Aside0.mk (blk_below K_ab_12.out hb); have hc_ab_0_13 : w_13.cell? ⟨g_ab, 0, none⟩ = some (.slice A_a0 y0.length c_a0) := (blk_cell K_ab_13.out 0).trans rfl; have hc_ab_1_13 : w_13.cell? ⟨g_ab, 1, none⟩ = some (.slice A_a1 y1.length c_a1) := (blk_cell K_ab_13.out 1).trans rfl; have hc_ab_2_13 : w_13.cell? ⟨g_ab, 2, none⟩ = some (.slice A_a2 y2.length c_a2) := (blk_cell K_ab_13.out 2).trans rfl; have hc_ab_3_13 : w_13.cell? ⟨g_ab, 3, none⟩ = some (.int .i64 y3) := (blk_cell K_ab_13.out 3).trans rfl; have hc_ab_4_13 : w_13.cell? ⟨g_ab, 4, none⟩ = some (.slice A_a4 y4.length c_a4) := (blk_cell K_ab_13.out 4).trans rfl; have hc_ab_5_13 : w_13.cell? ⟨g_ab, 5, none⟩ = some (.slice A_a5 y5.length c_a5) := (blk_cell K_ab_13.out 5).trans rfl; have K_gb_13 := Aside0.mk (blk_below K_gb_12.out hb); have hc_gb_0_13 : w_13.cell? ⟨g_gb, 0, none⟩ = some (.slice A_g0 z0.length c_g0) := (blk_cell K_gb_13.out 0).trans rfl; have hc_gb_1_13 : w_13.cell? ⟨g_gb, 1, none⟩ = some (.slice A_g1 z1.length c_g1) := (blk_cell K_gb_13.out 1).trans rfl; have hc_gb_2_13 : w_13.cell? ⟨g_gb, 2, none⟩ = some (.slice A_g2 z2.length c_g2) := (blk_cell K_gb_13.out 2).trans rfl; have hc_gb_3_13 : w_13.cell? ⟨g_gb, 3, none⟩ = some (.int .i64 z3) := (blk_cell K_gb_13.out 3).trans rfl; have hc_gb_4_13 : w_13.cell? ⟨g_gb, 4, none⟩ = some (.slice A_g4 z4.length c_g4) := (blk_cell K_gb_13.out 4).trans rfl; have hc_gb_5_13 : w_13.cell? ⟨g_gb, 5, none⟩ = some (.slice A_g5 z5.length c_g5) := (blk_cell K_gb_13.out 5).trans rfl; have B_13 := Aside0.mk (below_step B_12.out hb); have K_hb_13 := Aside0.mk hbox; have hc_hb_0_13 : w_13.cell? ⟨g_hb, 0, none⟩ = some (.slice A_h0 z0.length c_h0) := (blk_cell hbox 0).trans rfl; have hc_hb_1_13 : w_13.cell? ⟨g_hb, 1, none⟩ = some (.slice A_h1 z1.length c_h1) := (blk_cell hbox 1).trans rfl; have hc_hb_2_13 : w_13.cell? ⟨g_hb, 2, none⟩ = some (.slice A_h2 z2.length c_h2) := (blk_cell hbox 2).trans rfl; have hc_hb_3_13 : w_13.cell? ⟨g_hb, 3, none⟩ = some (.int .i64 z3) := (blk_cell hbox 3).trans rfl; have hc_hb_4_13 : w_13.cell? ⟨g_hb, 4, none⟩ = some (.slice A_h4 z4.length c_h4) := (blk_cell hbox 4).trans rfl; have hc_hb_5_13 : w_13.cell? ⟨g_hb, 5, none⟩ = some (.slice A_h5 z5.length c_h5) := (blk_cell hbox 5).trans rfl; clear hw hg hb hbox GA BA KA hv_0 hz_0 hv_1 hz_1 hv_2 hz_2 hv_3 hz_3 hv_4 hz_4 hv_5 hz_5 F_a0_12 U_a0_12 F_a1_12 U_a1_12 F_a2_12 U_a2_12 F_a4_12 U_a4_12 F_a5_12 U_a5_12 F_g0_12 U_g0_12 F_g1_12 U_g1_12 F_g2_12 U_g2_12 F_g4_12 U_g4_12 F_g5_12 U_g5_12 F_h0_12 U_h0_12 F_h1_12 U_h1_12 F_h2_12 U_h2_12 F_h4_12 U_h4_12 F_h5_12 U_h5_12 K_st_12 hc_st_0_12 hc_st_1_12 hc_st_2_12 hc_st_3_12 K_ab_12 hc_ab_0_12 hc_ab_1_12 hc_ab_2_12 hc_ab_3_12 hc_ab_4_12 hc_ab_5_12 K_gb_12 hc_gb_0_12 hc_gb_1_12 hc_gb_2_12 hc_gb_3_12 hc_gb_4_12 hc_gb_5_12 B_12) | (go_at_call 47; refine (laws_eqKeep.calls k A_h0 c_h0 z0 A_h1 c_h1 z1 A_h2 c_h2 z2 z3 A_h4 c_h4 z4 A_h5 c_h5 z5 A_a0 c_a0 y0 A_a1 c_a1 y1 A_a2 c_a2 y2 y3 A_a4 c_a4 y4 A_a5 c_a5 y5 true _ (Kd.S_reads' F_h0_13.out).2.2 (by have q_ := Kd.S_reads' F_h0_13.out; omega) (Kd.S_reads' F_h1_13.out).2.2 (by have q_ := Kd.S_reads' F_h1_13.out; omega) (Kd.S_reads' F_h2_13.out).2.2 (by have q_ := Kd.S_reads' F_h2_13.out; omega) (Kd.R_reads' F_h4_13.out).2.2 (by have q_ := Kd.R_reads' F_h4_13.out; omega) (Kd.R_reads' F_h5_13.out).2.2 (by have q_ := Kd.R_reads' F_h5_13.out; omega) (Kd.S_reads' F_a0_13.out).2.2 (by have q_ := Kd.S_reads' F_a0_13.out; omega) (Kd.S_reads' F_a1_13.out).2.2 (by have q_ := Kd.S_reads' F_a1_13.out; omega) (Kd.S_reads' F_a2_13.out).2.2 (by have q_ := Kd.S_reads' F_a2_13.out; omega) (Kd.R_reads' F_a4_13.out).2.2 (by have q_ := Kd.R_reads' F_a4_13.out; omega) (Kd.R_reads' F_a5_13.out).2.2 (by have q_ := Kd.R_reads' F_a5_13.out; omega) Q4.out).mono ?_; rintro e w_14 ⟨rfl, hb⟩; have F_a0_14 := Aside0.mk (Kd.S_below F_a0_13.out hb); have U_a0_14 := Aside0.mk (Nat.le_trans U_a0_13.out (Below.size hb)); have F_a1_14 := Aside0.mk (Kd.S_below F_a1_13.out hb); have U_a1_14 := Aside0.mk (Nat.le_trans U_a1_13.out (Below.size hb)); have F_a2_14 := Aside0.mk (Kd.S_below F_a2_13.out hb); have U_a2_14 := Aside0.mk (Nat.le_trans U_a2_13.out (Below.size hb)); have F_a4_14 := Aside0.mk (Kd.R_below F_a4_13.out hb); have U_a4_14 := Aside0.mk (Nat.le_trans U_a4_13.out (Below.size hb)); have F_a5_14 := Aside0.mk (Kd.R_below F_a5_13.out hb); have U_a5_14 := Aside0.mk (Nat.le_trans U_a5_13.out (Below.size hb)); have F_g0_14 := Aside0.mk (Kd.S_below F_g0_13.out hb); have U_g0_14 := Aside0.mk (Nat.le_trans U_g0_13.out (Below.size hb)); have F_g1_14 := Aside0.mk (Kd.S_below F_g1_13.out hb); have U_g1_14 := Aside0.mk (Nat.le_trans U_g1_13.out (Below.size hb)); have F_g2_14 := Aside0.mk (Kd.S_below F_g2_13.out hb); have U_g2_14 := Aside0.mk (Nat.le_trans U_g2_13.out (Below.size hb)); have F_g4_14 := Aside0.mk (Kd.R_below F_g4_13.out hb); have U_g4_14 := Aside0.mk (Nat.le_trans U_g4_13.out (Below.size hb)); have F_g5_14 := Aside0.mk (Kd.R_below F_g5_13.out hb); have U_g5_14 := Aside0.mk (Nat.le_trans U_g5_13.out (Below.size hb)); have F_h0_14 := Aside0.mk (Kd.S_below F_h0_13.out hb); have U_h0_14 := Aside0.mk (Nat.le_trans U_h0_13.out (Below.size hb)); have F_h1_14 := Aside0.mk (Kd.S_below F_h1_13.out hb); have U_h1_14 := Aside0.mk (Nat.le_trans U_h1_13.out (Below.size hb)); have F_h2_14 := Aside0.mk (Kd.S_below F_h2_13.out hb); have U_h2_14 := Aside0.mk (Nat.le_trans U_h2_13.out (Below.size hb)); have F_h4_14 := Aside0.mk (Kd.R_below F_h4_13.out hb); have U_h4_14 := Aside0.mk (Nat.le_trans U_h4_13.out (Below.size hb)); have F_h5_14 := Aside0.mk (Kd.R_below F_h5_13.out hb); have U_h5_14 := Aside0.mk (Nat.le_trans U_h5_13.out (Below.size hb)); have K_st_14 := Aside0.mk (blk_below K_st_13.out hb); have hc_st_0_14 : w_14.cell? ⟨g_st, 0, none⟩ = some (.int .i64 a0_0) := (blk_cell K_st_14.out 0).trans rfl; have hc_st_1_14 : w_14.cell? ⟨g_st, 1, none⟩ = some (.int .i64 a0_1) := (blk_cell K_st_14.out 1).trans rfl; have hc_st_2_14 : w_14.cell? ⟨g_st, 2, none⟩ = some (.int .i64 a0_2) := (blk_cell K_st_14.out 2).trans rfl; have hc_st_3_14 : w_14.cell? ⟨g_st, 3, none⟩ = some (.int .i64 a0_3) := (blk_cell K_st_14.out 3).trans rfl; have K_ab_14 := Aside0.mk (blk_below K_ab_13.out hb); have hc_ab_0_14 : w_14.cell? ⟨g_ab, 0, none⟩ = some (.slice A_a0 y0.length c_a0) := (blk_cell K_ab_14.out 0).trans rfl; have hc_ab_1_14 : w_14.cell? ⟨g_ab, 1, none⟩ = some (.slice A_a1 y1.length c_a1) := (blk_cell K_ab_14.out 1).trans rfl; have hc_ab_2_14 : w_14.cell? ⟨g_ab, 2, none⟩ = some (.slice A_a2 y2.length c_a2) := (blk_cell K_ab_14.out 2).trans rfl; have hc_ab_3_14 : w_14.cell? ⟨g_ab, 3, none⟩ = some (.int .i64 y3) := (blk_cell K_ab_14.out 3).trans rfl; have hc_ab_4_14 : w_14.cell? ⟨g_ab, 4, none⟩ = some (.slice A_a4 y4.length c_a4) := (blk_cell K_ab_14.out 4).trans rfl; have hc_ab_5_14 : w_14.cell? ⟨g_ab, 5, none⟩ = some (.slice A_a5 y5.length c_a5) := (blk_cell K_ab_14.out 5).trans rfl; have K_gb_14 := Aside0.mk (blk_below K_gb_13.out hb); have hc_gb_0_14 : w_14.cell? ⟨g_gb, 0, none⟩ = some (.slice A_g0 z0.length c_g0) := (blk_cell K_gb_14.out 0).trans rfl; have hc_gb_1_14 : w_14.cell? ⟨g_gb, 1, none⟩ = some (.slice A_g1 z1.length c_g1) := (blk_cell K_gb_14.out 1).trans rfl; have hc_gb_2_14 : w_14.cell? ⟨g_gb, 2, none⟩ = some (.slice A_g2 z2.length c_g2) := (blk_cell K_gb_14.out 2).trans rfl; have hc_gb_3_14 : w_14.cell? ⟨g_gb, 3, none⟩ = some (.int .i64 z3) := (blk_cell K_gb_14.out 3).trans rfl; have hc_gb_4_14 : w_14.cell? ⟨g_gb, 4, none⟩ = some (.slice A_g4 z4.length c_g4) := (blk_cell K_gb_14.out 4).trans rfl; have hc_gb_5_14 : w_14.cell? ⟨g_gb, 5, none⟩ = some (.slice A_g5 z5.length c_g5) := (blk_cell K_gb_14.out 5).trans rfl; have K_hb_14 := Aside0.mk (blk_below K_hb_13.out hb); have hc_hb_0_14 : w_14.cell? ⟨g_hb, 0, none⟩ = some (.slice A_h0 z0.length c_h0) := (blk_cell K_hb_14.out 0).trans rfl; have hc_hb_1_14 : w_14.cell? ⟨g_hb, 1, none⟩ = some (.slice A_h1 z1.length c_h1) := (blk_cell K_hb_14.out 1).trans rfl; have hc_hb_2_14 : w_14.cell? ⟨g_hb, 2, none⟩ = some (.slice A_h2 z2.length c_h2) := (blk_cell K_hb_14.out 2).trans rfl; have hc_hb_3_14 : w_14.cell? ⟨g_hb, 3, none⟩ = some (.int .i64 z3) := (blk_cell K_hb_14.out 3).trans rfl; have hc_hb_4_14 : w_14.cell? ⟨g_hb, 4, none⟩ = some (.slice A_h4 z4.length c_h4) := (blk_cell K_hb_14.out 4).trans rfl; have hc_hb_5_14 : w_14.cell? ⟨g_hb, 5, none⟩ = some (.slice A_h5 z5.length c_h5) := (blk_cell K_hb_14.out 5).trans rfl; have B_14 := Aside0.mk (below_step B_13.out hb); clear hb  F_a0_13 U_a0_13 F_a1_13 U_a1_13 F_a2_13 U_a2_13 F_a4_13 U_a4_13 F_a5_13 U_a5_13 F_g0_13 U_g0_13 F_g1_13 U_g1_13 F_g2_13 U_g2_13 F_g4_13 U_g4_13 F_g5_13 U_g5_13 F_h0_13 U_h0_13 F_h1_13 U_h1_13 F_h2_13 U_h2_13 F_h4_13 U_h4_13 F_h5_13 U_h5_13 K_st_13 hc_st_0_13 hc_st_1_13 hc_st_2_13 hc_st_3_13 K_ab_13 hc_ab_0_13 hc_ab_1_13 hc_ab_2_13 hc_ab_3_13 hc_ab_4_13 hc_ab_5_13 K_gb_13 hc_gb_0_13 hc_gb_1_13 hc_gb_2_13 hc_gb_3_13 hc_gb_4_13 hc_gb_5_13 K_hb_13 hc_hb_0_13 hc_hb_1_13 hc_hb_2_13 hc_hb_3_13 hc_hb_4_13 hc_hb_5_13 B_13) | (go_at_call 49; refine (calls_of_args (args' := #[.agg #[.slice A_g0 m0.length c_g0, .slice A_g1 m1.length c_g1, .slice A_g2 m2.length c_g2, .int .i64 z3, .slice A_g4 m4.length c_g4, .slice A_g5 m5.length c_g5], .int .i64 1]) (by rw [show z0.length = m0.length from (Kd.S_reads' F_g0_14.out).1]; rw [show z1.length = m1.length from (Kd.S_reads' F_g1_14.out).1]; rw [show z2.length = m2.length from (Kd.S_reads' F_g2_14.out).1]; rw [show z4.length = m4.length from (Kd.R_reads' F_g4_14.out).1]; rw [show z5.length = m5.length from (Kd.R_reads' F_g5_14.out).1]) (laws_heldKeep.calls k A_g0 c_g0 m0 A_g1 c_g1 m1 A_g2 c_g2 m2 z3 A_g4 c_g4 m4 A_g5 c_g5 m5 1 q _ ((Kd.S_reads' F_g0_14.out).1 ▸ (Kd.S_reads' F_g0_14.out).2.2) (by have q_ := Kd.S_reads' F_g0_14.out; omega) ((Kd.S_reads' F_g1_14.out).1 ▸ (Kd.S_reads' F_g1_14.out).2.2) (by have q_ := Kd.S_reads' F_g1_14.out; omega) ((Kd.S_reads' F_g2_14.out).1 ▸ (Kd.S_reads' F_g2_14.out).2.2) (by have q_ := Kd.S_reads' F_g2_14.out; omega) ((Kd.R_reads' F_g4_14.out).1 ▸ (Kd.R_reads' F_g4_14.out).2.2) (by have q_ := Kd.R_reads' F_g4_14.out; omega) ((Kd.R_reads' F_g5_14.out).1 ▸ (Kd.R_reads' F_g5_14.out).2.2) (by have q_ := Kd.R_reads' F_g5_14.out; omega) Q6.out)).mono ?_; rintro e w_15 ⟨rfl, hb⟩; have F_a0_15 := Aside0.mk (Kd.S_below F_a0_14.out hb); have U_a0_15 := Aside0.mk (Nat.le_trans U_a0_14.out (Below.size hb)); have F_a1_15 := Aside0.mk (Kd.S_below F_a1_14.out hb); have U_a1_15 := Aside0.mk (Nat.le_trans U_a1_14.out (Below.size hb)); have F_a2_15 := Aside0.mk (Kd.S_below F_a2_14.out hb); have U_a2_15 := Aside0.mk (Nat.le_trans U_a2_14.out (Below.size hb)); have F_a4_15 := Aside0.mk (Kd.R_below F_a4_14.out hb); have U_a4_15 := Aside0.mk (Nat.le_trans U_a4_14.out (Below.size hb)); have F_a5_15 := Aside0.mk (Kd.R_below F_a5_14.out hb); have U_a5_15 := Aside0.mk (Nat.le_trans U_a5_14.out (Below.size hb)); have F_g0_15 := Aside0.mk (Kd.S_below F_g0_14.out hb); have U_g0_15 := Aside0.mk (Nat.le_trans U_g0_14.out (Below.size hb)); have F_g1_15 := Aside0.mk (Kd.S_below F_g1_14.out hb); have U_g1_15 := Aside0.mk (Nat.le_trans U_g1_14.out (Below.size hb)); have F_g2_15 := Aside0.mk (Kd.S_below F_g2_14.out hb); have U_g2_15 := Aside0.mk (Nat.le_trans U_g2_14.out (Below.size hb)); have F_g4_15 := Aside0.mk (Kd.R_below F_g4_14.out hb); have U_g4_15 := Aside0.mk (Nat.le_trans U_g4_14.out (Below.size hb)); have F_g5_15 := Aside0.mk (Kd.R_below F_g5_14.out hb); have U_g5_15 := Aside0.mk (Nat.le_trans U_g5_14.out (Below.size hb)); have F_h0_15 := Aside0.mk (Kd.S_below F_h0_14.out hb); have U_h0_15 := Aside0.mk (Nat.le_trans U_h0_14.out (Below.size hb)); have F_h1_15 := Aside0.mk (Kd.S_below F_h1_14.out hb); have U_h1_15 := Aside0.mk (Nat.le_trans U_h1_14.out (Below.size hb)); have F_h2_15 := Aside0.mk (Kd.S_below F_h2_14.out hb); have U_h2_15 := Aside0.mk (Nat.le_trans U_h2_14.out (Below.size hb)); have F_h4_15 := Aside0.mk (Kd.R_below F_h4_14.out hb); have U_h4_15 := Aside0.mk (Nat.le_trans U_h4_14.out (Below.size hb)); have F_h5_15 := Aside0.mk (Kd.R_below F_h5_14.out hb); have U_h5_15 := Aside0.mk (Nat.le_trans U_h5_14.out (Below.size hb)); have K_st_15 := Aside0.mk (blk_below K_st_14.out hb); have hc_st_0_15 : w_15.cell? ⟨g_st, 0, none⟩ = some (.int .i64 a0_0) := (blk_cell K_st_15.out 0).trans rfl; have hc_st_1_15 : w_15.cell? ⟨g_st, 1, none⟩ = some (.int .i64 a0_1) := (blk_cell K_st_15.out 1).trans rfl; have hc_st_2_15 : w_15.cell? ⟨g_st, 2, none⟩ = some (.int .i64 a0_2) := (blk_cell K_st_15.out 2).trans rfl; have hc_st_3_15 : w_15.cell? ⟨g_st, 3, none⟩ = some (.int .i64 a0_3) := (blk_cell K_st_15.out 3).trans rfl; have K_ab_15 := Aside0.mk (blk_below K_ab_14.out hb); have hc_ab_0_15 : w_15.cell? ⟨g_ab, 0, none⟩ = some (.slice A_a0 y0.length c_a0) := (blk_cell K_ab_15.out 0).trans rfl; have hc_ab_1_15 : w_15.cell? ⟨g_ab, 1, none⟩ = some (.slice A_a1 y1.length c_a1) := (blk_cell K_ab_15.out 1).trans rfl; have hc_ab_2_15 : w_15.cell? ⟨g_ab, 2, none⟩ = some (.slice A_a2 y2.length c_a2) := (blk_cell K_ab_15.out 2).trans rfl; have hc_ab_3_15 : w_15.cell? ⟨g_ab, 3, none⟩ = some (.int .i64 y3) := (blk_cell K_ab_15.out 3).trans rfl; have hc_ab_4_15 : w_15.cell? ⟨g_ab, 4, none⟩ = some (.slice A_a4 y4.length c_a4) := (blk_cell K_ab_15.out 4).trans rfl; have hc_ab_5_15 : w_15.cell? ⟨g_ab, 5, none⟩ = some (.slice A_a5 y5.length c_a5) := (blk_cell K_ab_15.out 5).trans rfl; have K_gb_15 := Aside0.mk (blk_below K_gb_14.out hb); have hc_gb_0_15 : w_15.cell? ⟨g_gb, 0, none⟩ = some (.slice A_g0 z0.length c_g0) := (blk_cell K_gb_15.out 0).trans rfl; have hc_gb_1_15 : w_15.cell? ⟨g_gb, 1, none⟩ = some (.slice A_g1 z1.length c_g1) := (blk_cell K_gb_15.out 1).trans rfl; have hc_gb_2_15 : w_15.cell? ⟨g_gb, 2, none⟩ = some (.slice A_g2 z2.length c_g2) := (blk_cell K_gb_15.out 2).trans rfl; have hc_gb_3_15 : w_15.cell? ⟨g_gb, 3, none⟩ = some (.int .i64 z3) := (blk_cell K_gb_15.out 3).trans rfl; have hc_gb_4_15 : w_15.cell? ⟨g_gb, 4, none⟩ = some (.slice A_g4 z4.length c_g4) := (blk_cell K_gb_15.out 4).trans rfl; have hc_gb_5_15 : w_15.cell? ⟨g_gb, 5, none⟩ = some (.slice A_g5 z5.length c_g5) := (blk_cell K_gb_15.out 5).trans rfl; have K_hb_15 := Aside0.mk (blk_below K_hb_14.out hb); have hc_hb_0_15 : w_15.cell? ⟨g_hb, 0, none⟩ = some (.slice A_h0 z0.length c_h0) := (blk_cell K_hb_15.out 0).trans rfl; have hc_hb_1_15 : w_15.cell? ⟨g_hb, 1, none⟩ = some (.slice A_h1 z1.length c_h1) := (blk_cell K_hb_15.out 1).trans rfl; have hc_hb_2_15 : w_15.cell? ⟨g_hb, 2, none⟩ = some (.slice A_h2 z2.length c_h2) := (blk_cell K_hb_15.out 2).trans rfl; have hc_hb_3_15 : w_15.cell? ⟨g_hb, 3, none⟩ = some (.int .i64 z3) := (blk_cell K_hb_15.out 3).trans rfl; have hc_hb_4_15 : w_15.cell? ⟨g_hb, 4, none⟩ = some (.slice A_h4 z4.length c_h4) := (blk_cell K_hb_15.out 4).trans rfl; have hc_hb_5_15 : w_15.cell? ⟨g_hb, 5, none⟩ = some (.slice A_h5 z5.length c_h5) := (blk_cell K_hb_15.out 5).trans rfl; have B_15 := Aside0.mk (below_step B_14.out hb); clear hb  F_a0_14 U_a0_14 F_a1_14 U_a1_14 F_a2_14 U_a2_14 F_a4_14 U_a4_14 F_a5_14 U_a5_14 F_g0_14 U_g0_14 F_g1_14 U_g1_14 F_g2_14 U_g2_14 F_g4_14 U_g4_14 F_g5_14 U_g5_14 F_h0_14 U_h0_14 F_h1_14 U_h1_14 F_h2_14 U_h2_14 F_h4_14 U_h4_14 F_h5_14 U_h5_14 K_st_14 hc_st_0_14 hc_st_1_14 hc_st_2_14 hc_st_3_14 K_ab_14 hc_ab_0_14 hc_ab_1_14 hc_ab_2_14 hc_ab_3_14 hc_ab_4_14 hc_ab_5_14 K_gb_14 hc_gb_0_14 hc_gb_1_14 hc_gb_2_14 hc_gb_3_14 hc_gb_4_14 hc_gb_5_14 K_hb_14 hc_hb_0_14 hc_hb_1_14 hc_hb_2_14 hc_hb_3_14 hc_hb_4_14 hc_hb_5_14 B_14))
 go_ret
 exact ⟨rfl, B_15.out⟩
end Go.Proofs.Ythmjhhkheohgfaa.Q
