/- Made by a program of ours out of the print of the loaded functions: for each of some functions a plain function, and the walk that shows that a call comes to what it says. No condition but those of each theorem. -/
import Derived.Test.YtgkeapbeogmfjaaZFnFenced0
import Derived.Test.YtgkeapbeogmfjaaZFnFenceda
namespace Go.Proofs.Ytgkeapbeogmfjaa.Q
open Go.RowKit Go.Proofs.YtgkeapbeogmfjaaW.PrintWords Go.Proofs.YtgkeapbeogmfjaaW.PrintLast Go.Proofs.YtgkeapbeogmfjaaW.PrintMore
attribute [local go_sem] max2_int min2_int max_two min_two max_three min_three max_four min_four   -- for this text's walks alone
set_option linter.unusedVariables false
set_option linter.unusedSimpArgs false

/-! ### laws_eqMarkS: function 88 -/
def laws_eqMarkS.l0 : Nat → List (S_Mark) → List (S_Mark) → Int → Option (Bool)
  | 0, _, _, _ => none
  | k + 1, x0, x1, x5 => if x5 < (x0.length : Int) then (if 0 ≤ x5 then (if x5 < (x1.length : Int) then ((laws_eqMark.f ((rd_Mark x0 x5).f0) ((rd_Mark x0 x5).f1) ((rd_Mark x1 x5).f0) ((rd_Mark x1 x5).f1)).bind fun t942 => (if t942 = true then (laws_eqMarkS.l0 k x0 x1 (wrap64 (x5 + 1))) else (some false))) else (none)) else (none)) else (some true)
def laws_eqMarkS.f (k : Nat) (l0 : List (S_Mark)) (l1 : List (S_Mark)) : Option (Bool) := if (l0.length : Int) = (l1.length : Int) then (laws_eqMarkS.l0 k l0 l1 0) else (some false)
theorem laws_eqMarkS.mono_l : ∀ k, (∀ y0 y1 y2, LeO (laws_eqMarkS.l0 k y0 y1 y2) (laws_eqMarkS.l0 (k + 1) y0 y1 y2))
  | 0 => fun _ _ _ r h => by simp [laws_eqMarkS.l0] at h
  | k + 1 => by
    have ih0 := laws_eqMarkS.mono_l k
    · intro y0 y1 y2
      unfold laws_eqMarkS.l0
      repeat' first
      | (with_reducible exact ih0 _ _ _)
      | (with_reducible exact LeO.refl _)
      | (with_reducible exact LeO.none _)
      | (with_reducible refine LeO.ite ?_ ?_)
      | (with_reducible refine LeO.bind ?_ (fun _ => ?_))
      | exact ih0 _ _ _
      | exact LeO.none _
      | refine LeO.ite ?_ ?_
      | refine LeO.bind ?_ (fun _ => ?_)
theorem laws_eqMarkS.mono : ∀ a0 a1 k, LeO (laws_eqMarkS.f k a0 a1) (laws_eqMarkS.f (k + 1) a0 a1) := by
  intro a0 a1 k
  have ih0 := laws_eqMarkS.mono_l k
  unfold laws_eqMarkS.f
  repeat' first
      | (with_reducible exact ih0 _ _ _)
      | (with_reducible exact LeO.refl _)
      | (with_reducible exact LeO.none _)
      | (with_reducible refine LeO.ite ?_ ?_)
      | (with_reducible refine LeO.bind ?_ (fun _ => ?_))
      | exact ih0 _ _ _
      | exact LeO.none _
      | refine LeO.ite ?_ ?_
      | refine LeO.bind ?_ (fun _ => ?_)
def laws_eqMarkS.T6 : Bool × List (List Nat × List Nat) := (true, [([], []), ([], []), ([0, 1], [0, 1]), ([2], [2]), ([], []), ([], []), ([4, 5], [4, 5]), ([6], [6]), ([3, 7], [3, 7]), ([8], [8])])
def laws_eqMarkS.B6 : List Nat := [0, 0, 3, 7, 0, 0, 48, 112, 255, 511]
theorem laws_eqMarkS.tab6 : rtab .any (opsOf Try.f88 6) = laws_eqMarkS.T6 := by kernel_rfl
theorem laws_eqMarkS.bits6 : waitsOk laws_eqMarkS.T6.2 laws_eqMarkS.B6 = true := by kernel_rfl
set_option maxHeartbeats 8000000 in
set_option maxRecDepth 100000 in
theorem laws_eqMarkS.calls (k : Nat) (A0 : Option Addr) (c0 : Nat) (l0 : List (S_Mark)) (A1 : Option Addr) (c1 : Nat) (l1 : List (S_Mark)) (r : Bool) (w : World) (hr0 : Kd.C k_Mark w A0 l0.length l0) (hc0 : l0.length ≤ c0) (hr1 : Kd.C k_Mark w A1 l1.length l1) (hc1 : l1.length ≤ c1) (h : laws_eqMarkS.f k l0 l1 = some r) :
    Calls Try.prog 88 #[.slice A0 l0.length c0, .slice A1 l1.length c1] w fun e w' => e = .returned (.bool r) ∧ Below w.heap.size w w' := by
  have hu118 := Try.underlying118
  have HR0 := Aside0.mk hr0
  have HC0 := Aside0.mk hc0
  clear hr0 hc0
  have HR1 := Aside0.mk hr1
  have HC1 := Aside0.mk hc1
  clear hr1 hc1
  have HB := Aside0.mk (Below.refl w.heap.size w)
  have H : (if (l0.length : Int) = (l1.length : Int) then (laws_eqMarkS.l0 k l0 l1 0) else (some false)) = some r := h
  clear h
  by_cases c3 : (l0.length : Int) = (l1.length : Int)
  · rw [if_pos c3] at H
    have c3b0 : ((l0.length : Int) == (l1.length : Int)) = true := beq_iff_eq.mpr c3
    have c3b1 : ((l0.length : Int) != (l1.length : Int)) = false := bne_eq_false_iff_eq.mpr c3
    have c3b2 : (l0.length == l1.length) = true := by first | simpa using c3 | (simp at c3 ⊢; omega)
    clear c3
    have H' := Aside0.mk H
    clear H
    go_enter Try.func88, Try.ntmps88
    go_wp2
    go_loopg [5] k (fun kq v5 w' => ∃ (x5_1 : Int), v5 = .int .i64 x5_1 ∧ Aside0 (laws_eqMarkS.l0 kq l0 l1 x5_1 = some r) ∧ Aside0 (kq ≤ k) ∧ Aside0 (Below w.heap.size w w'))
    case atStart => exact ⟨(0), (by first | rfl | (simp; done) | (simp [*]; done)), H', ⟨Nat.le_refl _⟩, ⟨by repeat (first | (with_reducible first | exact HB.out | apply below_alloc | apply pw_below_drewN | apply below_drew1) | exact HB.out)⟩⟩
    case round =>
      clear H'
      try clear c1
      try clear p2
      try clear c3
      try clear c3b0
      try clear c3b1
      try clear c3b2
      obtain ⟨x5_1, rfl, HA, HK1, HB⟩ := hrel
      cases gk with
      | zero => exact absurd HA.out (by simp [laws_eqMarkS.l0])
      | succ k1 =>
        have H := HA.out
        clear HA
        simp only [laws_eqMarkS.l0] at H
        by_cases c4 : x5_1 < (l0.length : Int)
        · rw [if_pos c4] at H
          have c4b0 : decide (x5_1 < (l0.length : Int)) = true := decide_eq_true c4
          clear c4
          by_cases c5 : 0 ≤ x5_1
          · rw [if_pos c5] at H
            have c5b0 : decide (0 ≤ x5_1) = true := decide_eq_true c5
            clear c5
            by_cases c6 : x5_1 < (l1.length : Int)
            · rw [if_pos c6] at H
              have c6b0 : decide (x5_1 < (l1.length : Int)) = true := decide_eq_true c6
              clear c6
              replace H := Option.bind_eq_some_iff.mp H
              obtain ⟨t942, A70, H⟩ := H
              replace H : (if t942 = true then (laws_eqMarkS.l0 k1 l0 l1 (wrap64 (x5_1 + 1))) else (some false)) = some r := H
              have A7 := Aside0.mk A70
              clear A70
              by_cases c8 : t942 = true
              · subst c8
                have H1 : (laws_eqMarkS.l0 k1 l0 l1 (wrap64 (x5_1 + 1))) = some r := by rw [if_pos rfl] at H; exact H
                clear H
                have H := H1
                clear H1
                have H' := Aside0.mk H
                clear H
                try go_wp2
                have n0_ := Aside0.mk (below_drew1 HB.out)
                clear HB
                have HB := n0_
                clear n0_
                have p940 : 0 ≤ (x5_1 : Int) := of_decide_eq_true (by first | (with_reducible assumption) | assumption)
                have q940 : x5_1 < (l0.length : Int) := of_decide_eq_true (by first | (with_reducible assumption) | assumption)
                obtain ⟨ad940, e940, hx940_0, hx940_1⟩ := at_Mark HR0.out x5_1 p940 q940
                have hw940_1 := hx940_1
                have hw940_0 := hx940_0
                cases e940
                replace hx940_0 := (HB.out.cell (World.block_lt_of_cell? w _ hx940_0)).trans hx940_0
                replace hx940_1 := (HB.out.cell (World.block_lt_of_cell? w _ hx940_1)).trans hx940_1
                replace p940 := eq_true p940
                replace q940 := eq_true q940
                have p941 : 0 ≤ (x5_1 : Int) := of_decide_eq_true (by first | (with_reducible assumption) | assumption)
                have q941 : x5_1 < (l1.length : Int) := of_decide_eq_true (by first | (with_reducible assumption) | assumption)
                obtain ⟨ad941, e941, hx941_0, hx941_1⟩ := at_Mark HR1.out x5_1 p941 q941
                have hw941_1 := hx941_1
                have hw941_0 := hx941_0
                cases e941
                replace hx941_0 := (HB.out.cell (World.block_lt_of_cell? w _ hx941_0)).trans hx941_0
                replace hx941_1 := (HB.out.cell (World.block_lt_of_cell? w _ hx941_1)).trans hx941_1
                replace p941 := eq_true p941
                replace q941 := eq_true q941
                refine start_ (n := 10) (S := fun w' => w'.cell? (ad940.add ((x5_1).toNat * 2)) = some (.int .i64 ((rd_Mark l0 x5_1).f0)) ∧ w'.cell? ⟨(ad940.add ((x5_1).toNat * 2)).block, (ad940.add ((x5_1).toNat * 2)).off + 1, none⟩ = some (.int .i64 ((rd_Mark l0 x5_1).f1)) ∧ w'.cell? (ad941.add ((x5_1).toNat * 2)) = some (.int .i64 ((rd_Mark l1 x5_1).f0)) ∧ w'.cell? ⟨(ad941.add ((x5_1).toNat * 2)).block, (ad941.add ((x5_1).toNat * 2)).off + 1, none⟩ = some (.int .i64 ((rd_Mark l1 x5_1).f1))) (ds := []) #[false, false, false, false, false, false, false, false, false, false] (by kernel_rfl) rfl rfl ⟨((HB.out.cell (World.block_lt_of_cell? w _ hw940_0)).trans hw940_0), ((HB.out.cell (World.block_lt_of_cell? w _ hw940_1)).trans hw940_1), ((HB.out.cell (World.block_lt_of_cell? w _ hw941_0)).trans hw941_0), ((HB.out.cell (World.block_lt_of_cell? w _ hw941_1)).trans hw941_1)⟩ (fun hHeld => ?_); refine with_tabW laws_eqMarkS.tab6 laws_eqMarkS.bits6 (fun HT_ HW_ => ?_)
                generalize wr.drew = w9 at HB hx940_0 hx940_1 hx941_0 hx941_1 hHeld ⊢
                refine pure_ (i := 0) (N := some 17) (v := ?_) (a' := ?_) #[true, false, false, false, false, false, false, false, false, false] rfl rfl (any_of HT_.out (by kernel_rfl)) (fun _ _ _ h => h) (Or.inl ⟨by rfl, ?_⟩) ?_ ?_
                rotate_left
                · intro w'
                  go_simp
                  with_reducible rfl
                rotate_left
                · simp only [Act.put, List.setIfInBounds_toArray, List.set_cons_zero, List.set_cons_succ, i64_w, i32_w]
                  rfl
                refine pure_ (i := 1) (N := some 18) (v := ?_) (a' := ?_) #[true, true, false, false, false, false, false, false, false, false] rfl rfl (any_of HT_.out (by kernel_rfl)) (fun _ _ _ h => h) (Or.inl ⟨by rfl, ?_⟩) ?_ ?_
                rotate_left
                · intro w'
                  go_simp
                  with_reducible rfl
                rotate_left
                · simp only [Act.put, List.setIfInBounds_toArray, List.set_cons_zero, List.set_cons_succ, i64_w, i32_w]
                  rfl
                refine pure_ (i := 2) (N := some 19) (v := ?_) (a' := ?_) #[true, true, true, false, false, false, false, false, false, false] rfl rfl (any_of HT_.out (by kernel_rfl)) (fun _ _ _ h => h) (Or.inl ⟨by rfl, ?_⟩) ?_ ?_
                rotate_left
                · intro w'
                  go_simp
                  with_reducible rfl
                rotate_left
                · simp only [Act.put, List.setIfInBounds_toArray, List.set_cons_zero, List.set_cons_succ, i64_w, i32_w]
                  rfl
                refine pure_ (i := 4) (N := some 21) (v := ?_) (a' := ?_) #[true, true, true, false, true, false, false, false, false, false] rfl rfl (any_of HT_.out (by kernel_rfl)) (fun _ _ _ h => h) (Or.inl ⟨by rfl, ?_⟩) ?_ ?_
                rotate_left
                · intro w'
                  go_simp
                  with_reducible rfl
                rotate_left
                · simp only [Act.put, List.setIfInBounds_toArray, List.set_cons_zero, List.set_cons_succ, i64_w, i32_w]
                  rfl
                refine pure_ (i := 5) (N := some 22) (v := ?_) (a' := ?_) #[true, true, true, false, true, true, false, false, false, false] rfl rfl (any_of HT_.out (by kernel_rfl)) (fun _ _ _ h => h) (Or.inl ⟨by rfl, ?_⟩) ?_ ?_
                rotate_left
                · intro w'
                  go_simp
                  with_reducible rfl
                rotate_left
                · simp only [Act.put, List.setIfInBounds_toArray, List.set_cons_zero, List.set_cons_succ, i64_w, i32_w]
                  rfl
                refine pure_ (i := 6) (N := some 23) (v := ?_) (a' := ?_) #[true, true, true, false, true, true, true, false, false, false] rfl rfl (any_of HT_.out (by kernel_rfl)) (fun _ _ _ h => h) (Or.inl ⟨by rfl, ?_⟩) ?_ ?_
                rotate_left
                · intro w'
                  go_simp
                  with_reducible rfl
                rotate_left
                · simp only [Act.put, List.setIfInBounds_toArray, List.set_cons_zero, List.set_cons_succ, i64_w, i32_w]
                  rfl
                refine take_ (i := 3) (N := some 20) (v := ?_) (a' := ?_) #[true, true, true, true, true, true, true, false, false, false] rfl rfl (take_ofW HT_.out HW_.out (by kernel_rfl)) (fun _ _ _ h => h) (Or.inl ⟨by rfl, ?_⟩) hHeld ?_ ?_
                rotate_left
                · rintro w' ⟨s0, s1, s2, s3⟩
                  go_simp
                  with_reducible rfl
                rotate_left
                · simp only [Act.put, List.setIfInBounds_toArray, List.set_cons_zero, List.set_cons_succ, i64_w, i32_w]
                  rfl
                refine take_ (i := 7) (N := some 24) (v := ?_) (a' := ?_) #[true, true, true, true, true, true, true, true, false, false] rfl rfl (take_ofW HT_.out HW_.out (by kernel_rfl)) (fun _ _ _ h => h) (Or.inl ⟨by rfl, ?_⟩) hHeld ?_ ?_
                rotate_left
                · rintro w' ⟨s0, s1, s2, s3⟩
                  go_simp
                  with_reducible rfl
                rotate_left
                · simp only [Act.put, List.setIfInBounds_toArray, List.set_cons_zero, List.set_cons_succ, i64_w, i32_w]
                  rfl
                refine one_ (i := 8) (N := some 25) #[true, true, true, true, true, true, true, true, true, false] rfl rfl (one_of HT_.out (by kernel_rfl)) (by decide) (fun K hK => ?_)
                refine goes_ Try.func121 (by kernel_rfl) rfl #[.agg #[.int .i64 ((rd_Mark l0 x5_1).f0), .int .i64 ((rd_Mark l0 x5_1).f1)], .agg #[.int .i64 ((rd_Mark l1 x5_1).f0), .int .i64 ((rd_Mark l1 x5_1).f1)]] (by rfl) rfl rfl (by (try simp only [List.map_toArray, List.map_cons, List.map_nil]); first | done | rfl | (simp only [List.length_drop, List.length_take]; rfl)) ?_
                with_reducible refine (laws_eqMark.calls ((rd_Mark l0 x5_1).f0) ((rd_Mark l0 x5_1).f1) ((rd_Mark l1 x5_1).f0) ((rd_Mark l1 x5_1).f1) true _ A7.out).mono ?_
                rintro e w10 ⟨rfl, hb⟩
                refine ⟨_, rfl, ?_⟩
                have n0_ := Aside0.mk (below_step (by repeat (first | (with_reducible first | exact HB.out | apply below_alloc | apply pw_below_drewN | apply below_drew1) | exact HB.out)) hb)
                clear HB
                have HB := n0_
                clear n0_
                (try clear hb)
                (try clear hb2)
                (try clear hk)
                (try clear hi)
                refine hK.out _ _ ⟨((HB.out.cell (World.block_lt_of_cell? w _ hw940_0)).trans hw940_0), ((HB.out.cell (World.block_lt_of_cell? w _ hw940_1)).trans hw940_1), ((HB.out.cell (World.block_lt_of_cell? w _ hw941_0)).trans hw941_0), ((HB.out.cell (World.block_lt_of_cell? w _ hw941_1)).trans hw941_1)⟩ (fun hHeld => ?_)
                clear hK K
                refine norm_ (a' := ?_) ?_ ?_
                rotate_left
                · show Act.put _ (some 25) _ = _
                  simp only [Act.put, List.setIfInBounds_toArray, List.set_cons_zero, List.set_cons_succ, i64_w, i32_w]
                  rfl
                refine pure_ (i := 9) (N := some 26) (v := ?_) (a' := ?_) #[true, true, true, true, true, true, true, true, true, true] rfl rfl (any_of HT_.out (by kernel_rfl)) (fun _ _ _ h => h) (Or.inl ⟨by rfl, ?_⟩) ?_ ?_
                rotate_left
                · intro w'
                  go_simp
                  with_reducible rfl
                rotate_left
                · simp only [Act.put, List.setIfInBounds_toArray, List.set_cons_zero, List.set_cons_succ, i64_w, i32_w]
                  rfl
                refine done_ (done_of HT_.out (by kernel_rfl)) ?_
                try go_wp2
                go_roundg k1
                case measure => have := HK1.out; omega
                case rel => exact ⟨(wrap64 (x5_1 + 1)), (by first | rfl | (simp; done) | (simp [*]; done)), H', ⟨by have := HK1.out; omega⟩, ⟨by repeat (first | (with_reducible first | exact HB.out | apply below_alloc | apply pw_below_drewN | apply below_drew1) | exact HB.out)⟩⟩
              · replace c8 := Bool.eq_false_iff.mpr c8
                subst c8
                have H1 : (some false) = some r := by rw [if_neg (show ¬ (false = true) by decide)] at H; exact H
                clear H
                have H := H1
                clear H1
                obtain rfl := Option.some.inj H
                try go_wp2
                have n0_ := Aside0.mk (below_drew1 HB.out)
                clear HB
                have HB := n0_
                clear n0_
                have p940 : 0 ≤ (x5_1 : Int) := of_decide_eq_true (by first | (with_reducible assumption) | assumption)
                have q940 : x5_1 < (l0.length : Int) := of_decide_eq_true (by first | (with_reducible assumption) | assumption)
                obtain ⟨ad940, e940, hx940_0, hx940_1⟩ := at_Mark HR0.out x5_1 p940 q940
                have hw940_1 := hx940_1
                have hw940_0 := hx940_0
                cases e940
                replace hx940_0 := (HB.out.cell (World.block_lt_of_cell? w _ hx940_0)).trans hx940_0
                replace hx940_1 := (HB.out.cell (World.block_lt_of_cell? w _ hx940_1)).trans hx940_1
                replace p940 := eq_true p940
                replace q940 := eq_true q940
                have p941 : 0 ≤ (x5_1 : Int) := of_decide_eq_true (by first | (with_reducible assumption) | assumption)
                have q941 : x5_1 < (l1.length : Int) := of_decide_eq_true (by first | (with_reducible assumption) | assumption)
                obtain ⟨ad941, e941, hx941_0, hx941_1⟩ := at_Mark HR1.out x5_1 p941 q941
                have hw941_1 := hx941_1
                have hw941_0 := hx941_0
                cases e941
                replace hx941_0 := (HB.out.cell (World.block_lt_of_cell? w _ hx941_0)).trans hx941_0
                replace hx941_1 := (HB.out.cell (World.block_lt_of_cell? w _ hx941_1)).trans hx941_1
                replace p941 := eq_true p941
                replace q941 := eq_true q941
                refine start_ (n := 10) (S := fun w' => w'.cell? (ad940.add ((x5_1).toNat * 2)) = some (.int .i64 ((rd_Mark l0 x5_1).f0)) ∧ w'.cell? ⟨(ad940.add ((x5_1).toNat * 2)).block, (ad940.add ((x5_1).toNat * 2)).off + 1, none⟩ = some (.int .i64 ((rd_Mark l0 x5_1).f1)) ∧ w'.cell? (ad941.add ((x5_1).toNat * 2)) = some (.int .i64 ((rd_Mark l1 x5_1).f0)) ∧ w'.cell? ⟨(ad941.add ((x5_1).toNat * 2)).block, (ad941.add ((x5_1).toNat * 2)).off + 1, none⟩ = some (.int .i64 ((rd_Mark l1 x5_1).f1))) (ds := []) #[false, false, false, false, false, false, false, false, false, false] (by kernel_rfl) rfl rfl ⟨((HB.out.cell (World.block_lt_of_cell? w _ hw940_0)).trans hw940_0), ((HB.out.cell (World.block_lt_of_cell? w _ hw940_1)).trans hw940_1), ((HB.out.cell (World.block_lt_of_cell? w _ hw941_0)).trans hw941_0), ((HB.out.cell (World.block_lt_of_cell? w _ hw941_1)).trans hw941_1)⟩ (fun hHeld => ?_); refine with_tabW laws_eqMarkS.tab6 laws_eqMarkS.bits6 (fun HT_ HW_ => ?_)
                generalize wr.drew = w11 at HB hx940_0 hx940_1 hx941_0 hx941_1 hHeld ⊢
                refine pure_ (i := 0) (N := some 17) (v := ?_) (a' := ?_) #[true, false, false, false, false, false, false, false, false, false] rfl rfl (any_of HT_.out (by kernel_rfl)) (fun _ _ _ h => h) (Or.inl ⟨by rfl, ?_⟩) ?_ ?_
                rotate_left
                · intro w'
                  go_simp
                  with_reducible rfl
                rotate_left
                · simp only [Act.put, List.setIfInBounds_toArray, List.set_cons_zero, List.set_cons_succ, i64_w, i32_w]
                  rfl
                refine pure_ (i := 1) (N := some 18) (v := ?_) (a' := ?_) #[true, true, false, false, false, false, false, false, false, false] rfl rfl (any_of HT_.out (by kernel_rfl)) (fun _ _ _ h => h) (Or.inl ⟨by rfl, ?_⟩) ?_ ?_
                rotate_left
                · intro w'
                  go_simp
                  with_reducible rfl
                rotate_left
                · simp only [Act.put, List.setIfInBounds_toArray, List.set_cons_zero, List.set_cons_succ, i64_w, i32_w]
                  rfl
                refine pure_ (i := 2) (N := some 19) (v := ?_) (a' := ?_) #[true, true, true, false, false, false, false, false, false, false] rfl rfl (any_of HT_.out (by kernel_rfl)) (fun _ _ _ h => h) (Or.inl ⟨by rfl, ?_⟩) ?_ ?_
                rotate_left
                · intro w'
                  go_simp
                  with_reducible rfl
                rotate_left
                · simp only [Act.put, List.setIfInBounds_toArray, List.set_cons_zero, List.set_cons_succ, i64_w, i32_w]
                  rfl
                refine pure_ (i := 4) (N := some 21) (v := ?_) (a' := ?_) #[true, true, true, false, true, false, false, false, false, false] rfl rfl (any_of HT_.out (by kernel_rfl)) (fun _ _ _ h => h) (Or.inl ⟨by rfl, ?_⟩) ?_ ?_
                rotate_left
                · intro w'
                  go_simp
                  with_reducible rfl
                rotate_left
                · simp only [Act.put, List.setIfInBounds_toArray, List.set_cons_zero, List.set_cons_succ, i64_w, i32_w]
                  rfl
                refine pure_ (i := 5) (N := some 22) (v := ?_) (a' := ?_) #[true, true, true, false, true, true, false, false, false, false] rfl rfl (any_of HT_.out (by kernel_rfl)) (fun _ _ _ h => h) (Or.inl ⟨by rfl, ?_⟩) ?_ ?_
                rotate_left
                · intro w'
                  go_simp
                  with_reducible rfl
                rotate_left
                · simp only [Act.put, List.setIfInBounds_toArray, List.set_cons_zero, List.set_cons_succ, i64_w, i32_w]
                  rfl
                refine pure_ (i := 6) (N := some 23) (v := ?_) (a' := ?_) #[true, true, true, false, true, true, true, false, false, false] rfl rfl (any_of HT_.out (by kernel_rfl)) (fun _ _ _ h => h) (Or.inl ⟨by rfl, ?_⟩) ?_ ?_
                rotate_left
                · intro w'
                  go_simp
                  with_reducible rfl
                rotate_left
                · simp only [Act.put, List.setIfInBounds_toArray, List.set_cons_zero, List.set_cons_succ, i64_w, i32_w]
                  rfl
                refine take_ (i := 3) (N := some 20) (v := ?_) (a' := ?_) #[true, true, true, true, true, true, true, false, false, false] rfl rfl (take_ofW HT_.out HW_.out (by kernel_rfl)) (fun _ _ _ h => h) (Or.inl ⟨by rfl, ?_⟩) hHeld ?_ ?_
                rotate_left
                · rintro w' ⟨s0, s1, s2, s3⟩
                  go_simp
                  with_reducible rfl
                rotate_left
                · simp only [Act.put, List.setIfInBounds_toArray, List.set_cons_zero, List.set_cons_succ, i64_w, i32_w]
                  rfl
                refine take_ (i := 7) (N := some 24) (v := ?_) (a' := ?_) #[true, true, true, true, true, true, true, true, false, false] rfl rfl (take_ofW HT_.out HW_.out (by kernel_rfl)) (fun _ _ _ h => h) (Or.inl ⟨by rfl, ?_⟩) hHeld ?_ ?_
                rotate_left
                · rintro w' ⟨s0, s1, s2, s3⟩
                  go_simp
                  with_reducible rfl
                rotate_left
                · simp only [Act.put, List.setIfInBounds_toArray, List.set_cons_zero, List.set_cons_succ, i64_w, i32_w]
                  rfl
                refine one_ (i := 8) (N := some 25) #[true, true, true, true, true, true, true, true, true, false] rfl rfl (one_of HT_.out (by kernel_rfl)) (by decide) (fun K hK => ?_)
                refine goes_ Try.func121 (by kernel_rfl) rfl #[.agg #[.int .i64 ((rd_Mark l0 x5_1).f0), .int .i64 ((rd_Mark l0 x5_1).f1)], .agg #[.int .i64 ((rd_Mark l1 x5_1).f0), .int .i64 ((rd_Mark l1 x5_1).f1)]] (by rfl) rfl rfl (by (try simp only [List.map_toArray, List.map_cons, List.map_nil]); first | done | rfl | (simp only [List.length_drop, List.length_take]; rfl)) ?_
                with_reducible refine (laws_eqMark.calls ((rd_Mark l0 x5_1).f0) ((rd_Mark l0 x5_1).f1) ((rd_Mark l1 x5_1).f0) ((rd_Mark l1 x5_1).f1) false _ A7.out).mono ?_
                rintro e w12 ⟨rfl, hb⟩
                refine ⟨_, rfl, ?_⟩
                have n0_ := Aside0.mk (below_step (by repeat (first | (with_reducible first | exact HB.out | apply below_alloc | apply pw_below_drewN | apply below_drew1) | exact HB.out)) hb)
                clear HB
                have HB := n0_
                clear n0_
                (try clear hb)
                (try clear hb2)
                (try clear hk)
                (try clear hi)
                refine hK.out _ _ ⟨((HB.out.cell (World.block_lt_of_cell? w _ hw940_0)).trans hw940_0), ((HB.out.cell (World.block_lt_of_cell? w _ hw940_1)).trans hw940_1), ((HB.out.cell (World.block_lt_of_cell? w _ hw941_0)).trans hw941_0), ((HB.out.cell (World.block_lt_of_cell? w _ hw941_1)).trans hw941_1)⟩ (fun hHeld => ?_)
                clear hK K
                refine norm_ (a' := ?_) ?_ ?_
                rotate_left
                · show Act.put _ (some 25) _ = _
                  simp only [Act.put, List.setIfInBounds_toArray, List.set_cons_zero, List.set_cons_succ, i64_w, i32_w]
                  rfl
                refine pure_ (i := 9) (N := some 26) (v := ?_) (a' := ?_) #[true, true, true, true, true, true, true, true, true, true] rfl rfl (any_of HT_.out (by kernel_rfl)) (fun _ _ _ h => h) (Or.inl ⟨by rfl, ?_⟩) ?_ ?_
                rotate_left
                · intro w'
                  go_simp
                  with_reducible rfl
                rotate_left
                · simp only [Act.put, List.setIfInBounds_toArray, List.set_cons_zero, List.set_cons_succ, i64_w, i32_w]
                  rfl
                refine done_ (done_of HT_.out (by kernel_rfl)) ?_
                try go_wp2
                go_ret
                exact ⟨by first | rfl | (simp [errW_none, errW_some] <;> rfl) | (simp [*, errW_none, errW_some] <;> rfl), by repeat (first | (with_reducible first | exact HB.out | apply below_alloc | apply pw_below_drewN | apply below_drew1) | exact HB.out)⟩
            · rw [if_neg c6] at H
              exact absurd H (by simp)
          · rw [if_neg c5] at H
            exact absurd H (by simp)
        · rw [if_neg c4] at H
          have c4b0 : decide (x5_1 < (l0.length : Int)) = false := decide_eq_false c4
          clear c4
          obtain rfl := Option.some.inj H
          go_wp2
          go_ret
          exact ⟨by first | rfl | (simp [errW_none, errW_some] <;> rfl) | (simp [*, errW_none, errW_some] <;> rfl), by repeat (first | (with_reducible first | exact HB.out | apply below_alloc | apply pw_below_drewN | apply below_drew1) | exact HB.out)⟩
  · rw [if_neg c3] at H
    have c3b0 : ((l0.length : Int) == (l1.length : Int)) = false := beq_eq_false_iff_ne.mpr c3
    have c3b1 : ((l0.length : Int) != (l1.length : Int)) = true := bne_iff_ne.mpr c3
    have c3b2 : (l0.length == l1.length) = false := by first | simpa using c3 | (simp at c3 ⊢; omega)
    obtain rfl := Option.some.inj H
    go_enter Try.func88, Try.ntmps88
    go_wp2
    go_ret
    exact ⟨by first | rfl | (simp [errW_none, errW_some] <;> rfl) | (simp [*, errW_none, errW_some] <;> rfl), by repeat (first | (with_reducible first | exact HB.out | apply below_alloc | apply pw_below_drewN | apply below_drew1) | exact HB.out)⟩
/-! ### laws_eqMaker: function 30 -/
def laws_eqMaker.f (k : Nat) (a0_0 : Int) (a0_1 : Int) (a0_2 : Int) (a0_3 : Int) (l0_4 : List (S_Mark)) (a1_0 : Int) (a1_1 : Int) (a1_2 : Int) (a1_3 : Int) (l1_4 : List (S_Mark)) : Option (Bool) := if a0_0 = a1_0 then (if a0_1 = a1_1 then (if a0_2 = a1_2 then (if a0_3 = a1_3 then ((laws_eqMarkS.f k l0_4 l1_4).bind fun t945 => (if t945 = true then (some true) else (some false))) else (some false)) else (some false)) else (some false)) else (some false)
theorem laws_eqMaker.mono : ∀ a0 a1 a2 a3 a4 a5 a6 a7 a8 a9 k, LeO (laws_eqMaker.f k a0 a1 a2 a3 a4 a5 a6 a7 a8 a9) (laws_eqMaker.f (k + 1) a0 a1 a2 a3 a4 a5 a6 a7 a8 a9) := by
  intro a0 a1 a2 a3 a4 a5 a6 a7 a8 a9 k
  unfold laws_eqMaker.f
  repeat' first
      | (with_reducible exact laws_eqMarkS.mono _ _ _)
      | (with_reducible exact LeO.refl _)
      | (with_reducible exact LeO.none _)
      | (with_reducible refine LeO.ite ?_ ?_)
      | (with_reducible refine LeO.bind ?_ (fun _ => ?_))
      | exact laws_eqMarkS.mono _ _ _
      | exact LeO.none _
      | refine LeO.ite ?_ ?_
      | refine LeO.bind ?_ (fun _ => ?_)
set_option maxHeartbeats 8000000 in
set_option maxRecDepth 100000 in
theorem laws_eqMaker.calls (k : Nat) (a0_0 : Int) (a0_1 : Int) (a0_2 : Int) (a0_3 : Int) (A0_4 : Option Addr) (c0_4 : Nat) (l0_4 : List (S_Mark)) (a1_0 : Int) (a1_1 : Int) (a1_2 : Int) (a1_3 : Int) (A1_4 : Option Addr) (c1_4 : Nat) (l1_4 : List (S_Mark)) (r : Bool) (w : World) (hr0_4 : Kd.C k_Mark w A0_4 l0_4.length l0_4) (hc0_4 : l0_4.length ≤ c0_4) (hr1_4 : Kd.C k_Mark w A1_4 l1_4.length l1_4) (hc1_4 : l1_4.length ≤ c1_4) (h : laws_eqMaker.f k a0_0 a0_1 a0_2 a0_3 l0_4 a1_0 a1_1 a1_2 a1_3 l1_4 = some r) :
    Calls Try.prog 30 #[.agg #[.int .i64 a0_0, .int .i64 a0_1, .int .i64 a0_2, .int .i64 a0_3, .slice A0_4 l0_4.length c0_4], .agg #[.int .i64 a1_0, .int .i64 a1_1, .int .i64 a1_2, .int .i64 a1_3, .slice A1_4 l1_4.length c1_4]] w fun e w' => e = .returned (.bool r) ∧ Below w.heap.size w w' := by
  have hu54 := Try.underlying54
  have HR0_4 := Aside0.mk hr0_4
  have HC0_4 := Aside0.mk hc0_4
  clear hr0_4 hc0_4
  have HR1_4 := Aside0.mk hr1_4
  have HC1_4 := Aside0.mk hc1_4
  clear hr1_4 hc1_4
  have HB := Aside0.mk (Below.refl w.heap.size w)
  have H : (if a0_0 = a1_0 then (if a0_1 = a1_1 then (if a0_2 = a1_2 then (if a0_3 = a1_3 then ((laws_eqMarkS.f k l0_4 l1_4).bind fun t945 => (if t945 = true then (some true) else (some false))) else (some false)) else (some false)) else (some false)) else (some false)) = some r := h
  clear h
  by_cases c3 : a0_0 = a1_0
  · rw [if_pos c3] at H
    have c3b0 : (a0_0 == a1_0) = true := beq_iff_eq.mpr c3
    have c3b1 : (a0_0 != a1_0) = false := bne_eq_false_iff_eq.mpr c3
    clear c3
    by_cases c4 : a0_1 = a1_1
    · rw [if_pos c4] at H
      have c4b0 : (a0_1 == a1_1) = true := beq_iff_eq.mpr c4
      have c4b1 : (a0_1 != a1_1) = false := bne_eq_false_iff_eq.mpr c4
      clear c4
      by_cases c5 : a0_2 = a1_2
      · rw [if_pos c5] at H
        have c5b0 : (a0_2 == a1_2) = true := beq_iff_eq.mpr c5
        have c5b1 : (a0_2 != a1_2) = false := bne_eq_false_iff_eq.mpr c5
        clear c5
        by_cases c6 : a0_3 = a1_3
        · rw [if_pos c6] at H
          have c6b0 : (a0_3 == a1_3) = true := beq_iff_eq.mpr c6
          have c6b1 : (a0_3 != a1_3) = false := bne_eq_false_iff_eq.mpr c6
          clear c6
          replace H := Option.bind_eq_some_iff.mp H
          obtain ⟨t945, A70, H⟩ := H
          replace H : (if t945 = true then (some true) else (some false)) = some r := H
          have A7 := Aside0.mk A70
          clear A70
          by_cases c8 : t945 = true
          · subst c8
            have H1 : (some true) = some r := by rw [if_pos rfl] at H; exact H
            clear H
            have H := H1
            clear H1
            obtain rfl := Option.some.inj H
            go_enter Try.func30, Try.ntmps30
            go_wp2_with (first | ((with_reducible refine gate_dst (N := 2) rfl ?_); refine box_event ?hg (N := 2) ?hd (cs := #[.int .i64 a0_0, .int .i64 a0_1, .int .i64 a0_2, .int .i64 a0_3, .slice A0_4 l0_4.length c0_4]) (t := 54) ?hr ?_; (case hd => rfl); (case hg => rfl); (case hr => first | (go_simp; done) | (go_simp; rfl)); intro gb943 hg w9 hbox hb; have n0_ := Aside0.mk (below_step (by repeat (first | (with_reducible first | exact HB.out | apply below_alloc | apply pw_below_drewN | apply below_drew1) | exact HB.out)) hb); have n1_ := Aside0.mk (hbox); have n2_ := Aside0.mk ((by rw [hg]; exact (below_size (by repeat (first | (with_reducible first | exact HB.out | apply below_alloc | apply pw_below_drewN | apply below_drew1) | exact HB.out))) : w.heap.size ≤ gb943)); have n3_ := Aside0.mk ((by rw [hg]; exact (below_size (by repeat (first | (with_reducible first | exact HB.out | apply below_alloc | apply pw_below_drewN | apply below_drew1) | exact HB.out))) : w.heap.size ≤ gb943)); clear HB; have HB := n0_; have BK943 := n1_; have GW943 := n2_; have GE943 := n3_; clear n0_ n1_ n2_ n3_; clear hb hbox hg) | ((with_reducible refine gate_dst (N := 3) rfl ?_); refine box_event ?hg (N := 3) ?hd (cs := #[.int .i64 a1_0, .int .i64 a1_1, .int .i64 a1_2, .int .i64 a1_3, .slice A1_4 l1_4.length c1_4]) (t := 54) ?hr ?_; (case hd => rfl); (case hg => rfl); (case hr => first | (go_simp; done) | (go_simp; rfl)); intro gb944 hg w10 hbox hb; have n0_ := Aside0.mk (blk_below (g := gb943) (o := .cells #[.int .i64 a0_0, .int .i64 a0_1, .int .i64 a0_2, .int .i64 a0_3, .slice A0_4 l0_4.length c0_4] 54 (0, 0)) (by (with_reducible repeat (first | refine blk_drewN ?_ _ | refine blk_drew ?_ | refine blk_alloc ?_ _)); exact BK943.out) hb); have n1_ := Aside0.mk (below_step (by repeat (first | (with_reducible first | exact HB.out | apply below_alloc | apply pw_below_drewN | apply below_drew1 | refine below_set ?_ GE943.out) | exact HB.out)) hb); have n2_ := Aside0.mk (hbox); have n3_ := Aside0.mk ((by rw [hg]; exact (below_size (by repeat (first | (with_reducible first | exact HB.out | apply below_alloc | apply pw_below_drewN | apply below_drew1 | refine below_set ?_ GE943.out) | exact HB.out))) : w.heap.size ≤ gb944)); have n4_ := Aside0.mk ((by rw [hg]; exact (below_size (by repeat (first | (with_reducible first | exact HB.out | apply below_alloc | apply pw_below_drewN | apply below_drew1 | refine below_set ?_ GE943.out) | exact HB.out))) : w.heap.size ≤ gb944)); have n5_ := Aside0.mk ((by rw [hg]; exact Nat.ne_of_lt (blk_lt (g := gb943) (o := .cells #[.int .i64 a0_0, .int .i64 a0_1, .int .i64 a0_2, .int .i64 a0_3, .slice A0_4 l0_4.length c0_4] 54 (0, 0)) (by (with_reducible repeat (first | refine blk_drewN ?_ _ | refine blk_drew ?_ | refine blk_alloc ?_ _)); exact BK943.out)) : gb943 ≠ gb944)); have n6_ := Aside0.mk ((by rw [hg]; exact Nat.ne_of_gt (blk_lt (g := gb943) (o := .cells #[.int .i64 a0_0, .int .i64 a0_1, .int .i64 a0_2, .int .i64 a0_3, .slice A0_4 l0_4.length c0_4] 54 (0, 0)) (by (with_reducible repeat (first | refine blk_drewN ?_ _ | refine blk_drew ?_ | refine blk_alloc ?_ _)); exact BK943.out)) : gb944 ≠ gb943)); clear BK943; clear HB; have BK943 := n0_; have HB := n1_; have BK944 := n2_; have GW944 := n3_; have GE944 := n4_; have NB943_944 := n5_; have NB944_943 := n6_; clear n0_ n1_ n2_ n3_ n4_ n5_ n6_; clear hb hbox hg; have hnb11 := NB943_944.out; have hnc11 := NB944_943.out; have hcz12_0 : w10.cell? ⟨gb943, 0, none⟩ = some (.int .i64 a0_0) := (blk_cell BK943.out 0).trans rfl; have hcz12_1 : w10.cell? ⟨gb943, 1, none⟩ = some (.int .i64 a0_1) := (blk_cell BK943.out 1).trans rfl; have hcz12_2 : w10.cell? ⟨gb943, 2, none⟩ = some (.int .i64 a0_2) := (blk_cell BK943.out 2).trans rfl; have hcz12_3 : w10.cell? ⟨gb943, 3, none⟩ = some (.int .i64 a0_3) := (blk_cell BK943.out 3).trans rfl; have hcz12_4 : w10.cell? ⟨gb943, 4, none⟩ = some (.slice A0_4 l0_4.length c0_4) := (blk_cell BK943.out 4).trans rfl; have hfz12_0 := blk_frozen BK943.out 0; have hfz12_1 := blk_frozen BK943.out 1; have hfz12_2 := blk_frozen BK943.out 2; have hfz12_3 := blk_frozen BK943.out 3; have hfz12_4 := blk_frozen BK943.out 4; have hcz13_0 : w10.cell? ⟨gb944, 0, none⟩ = some (.int .i64 a1_0) := (blk_cell BK944.out 0).trans rfl; have hcz13_1 : w10.cell? ⟨gb944, 1, none⟩ = some (.int .i64 a1_1) := (blk_cell BK944.out 1).trans rfl; have hcz13_2 : w10.cell? ⟨gb944, 2, none⟩ = some (.int .i64 a1_2) := (blk_cell BK944.out 2).trans rfl; have hcz13_3 : w10.cell? ⟨gb944, 3, none⟩ = some (.int .i64 a1_3) := (blk_cell BK944.out 3).trans rfl; have hcz13_4 : w10.cell? ⟨gb944, 4, none⟩ = some (.slice A1_4 l1_4.length c1_4) := (blk_cell BK944.out 4).trans rfl; have hfz13_0 := blk_frozen BK944.out 0; have hfz13_1 := blk_frozen BK944.out 1; have hfz13_2 := blk_frozen BK944.out 2; have hfz13_3 := blk_frozen BK944.out 3; have hfz13_4 := blk_frozen BK944.out 4) | ((with_reducible refine gate_callee (f := 88) rfl ?_); refine goesL_ (some 29) rfl rfl Try.func88 (by kernel_rfl) rfl #[.slice A0_4 l0_4.length c0_4, .slice A1_4 l1_4.length c1_4] rfl (by (try simp only [List.map_toArray, List.map_cons, List.map_nil]); first | done | rfl | (simp only [List.length_drop, List.length_take]; rfl)) ?_; (with_reducible refine (laws_eqMarkS.calls k _ _ l0_4 _ _ l1_4 true _ ?side1 ?side2 ?side3 ?side4 A7.out).mono ?_); (case side1 => repeat (first | exact (Kd.C_below HR0_4.out HB.out) | (with_reducible refine Kd.C_alloc ?_ _) | (with_reducible refine Kd.C_drewN ?_ _) | (with_reducible refine Kd.C_drew ?_))); (case side2 => exact HC0_4.out); (case side3 => repeat (first | exact (Kd.C_below HR1_4.out HB.out) | (with_reducible refine Kd.C_alloc ?_ _) | (with_reducible refine Kd.C_drewN ?_ _) | (with_reducible refine Kd.C_drew ?_))); (case side4 => exact HC1_4.out); rintro e w14 ⟨rfl, hb⟩; refine ⟨_, rfl, ?_⟩; have n0_ := Aside0.mk (blk_below (g := gb943) (o := .cells #[.int .i64 a0_0, .int .i64 a0_1, .int .i64 a0_2, .int .i64 a0_3, .slice A0_4 l0_4.length c0_4] 54 (0, 0)) (by (with_reducible repeat (first | refine blk_drewN ?_ _ | refine blk_drew ?_ | refine blk_alloc ?_ _)); exact BK943.out) hb); have n1_ := Aside0.mk (blk_below (g := gb944) (o := .cells #[.int .i64 a1_0, .int .i64 a1_1, .int .i64 a1_2, .int .i64 a1_3, .slice A1_4 l1_4.length c1_4] 54 (0, 0)) (by (with_reducible repeat (first | refine blk_drewN ?_ _ | refine blk_drew ?_ | refine blk_alloc ?_ _)); exact BK944.out) hb); have n2_ := Aside0.mk (below_step (by repeat (first | (with_reducible first | exact HB.out | apply below_alloc | apply pw_below_drewN | apply below_drew1 | refine below_set ?_ GE943.out | refine below_set ?_ GE944.out) | exact HB.out)) hb); clear BK943; clear BK944; clear HB; have BK943 := n0_; have BK944 := n1_; have HB := n2_; clear n0_ n1_ n2_; (try clear hb); (try clear hb2); (try clear hk); (try clear hi)))
            go_ret
            exact ⟨by first | rfl | (simp [errW_none, errW_some] <;> rfl) | (simp [*, errW_none, errW_some] <;> rfl), by repeat (first | (with_reducible first | exact HB.out | apply below_alloc | apply pw_below_drewN | apply below_drew1 | refine below_set ?_ GE943.out | refine below_set ?_ GE944.out) | exact HB.out)⟩
          · replace c8 := Bool.eq_false_iff.mpr c8
            subst c8
            have H1 : (some false) = some r := by rw [if_neg (show ¬ (false = true) by decide)] at H; exact H
            clear H
            have H := H1
            clear H1
            obtain rfl := Option.some.inj H
            go_enter Try.func30, Try.ntmps30
            go_wp2_with (first | ((with_reducible refine gate_dst (N := 2) rfl ?_); refine box_event ?hg (N := 2) ?hd (cs := #[.int .i64 a0_0, .int .i64 a0_1, .int .i64 a0_2, .int .i64 a0_3, .slice A0_4 l0_4.length c0_4]) (t := 54) ?hr ?_; (case hd => rfl); (case hg => rfl); (case hr => first | (go_simp; done) | (go_simp; rfl)); intro gb943 hg w15 hbox hb; have n0_ := Aside0.mk (below_step (by repeat (first | (with_reducible first | exact HB.out | apply below_alloc | apply pw_below_drewN | apply below_drew1) | exact HB.out)) hb); have n1_ := Aside0.mk (hbox); have n2_ := Aside0.mk ((by rw [hg]; exact (below_size (by repeat (first | (with_reducible first | exact HB.out | apply below_alloc | apply pw_below_drewN | apply below_drew1) | exact HB.out))) : w.heap.size ≤ gb943)); have n3_ := Aside0.mk ((by rw [hg]; exact (below_size (by repeat (first | (with_reducible first | exact HB.out | apply below_alloc | apply pw_below_drewN | apply below_drew1) | exact HB.out))) : w.heap.size ≤ gb943)); clear HB; have HB := n0_; have BK943 := n1_; have GW943 := n2_; have GE943 := n3_; clear n0_ n1_ n2_ n3_; clear hb hbox hg) | ((with_reducible refine gate_dst (N := 3) rfl ?_); refine box_event ?hg (N := 3) ?hd (cs := #[.int .i64 a1_0, .int .i64 a1_1, .int .i64 a1_2, .int .i64 a1_3, .slice A1_4 l1_4.length c1_4]) (t := 54) ?hr ?_; (case hd => rfl); (case hg => rfl); (case hr => first | (go_simp; done) | (go_simp; rfl)); intro gb944 hg w16 hbox hb; have n0_ := Aside0.mk (blk_below (g := gb943) (o := .cells #[.int .i64 a0_0, .int .i64 a0_1, .int .i64 a0_2, .int .i64 a0_3, .slice A0_4 l0_4.length c0_4] 54 (0, 0)) (by (with_reducible repeat (first | refine blk_drewN ?_ _ | refine blk_drew ?_ | refine blk_alloc ?_ _)); exact BK943.out) hb); have n1_ := Aside0.mk (below_step (by repeat (first | (with_reducible first | exact HB.out | apply below_alloc | apply pw_below_drewN | apply below_drew1 | refine below_set ?_ GE943.out) | exact HB.out)) hb); have n2_ := Aside0.mk (hbox); have n3_ := Aside0.mk ((by rw [hg]; exact (below_size (by repeat (first | (with_reducible first | exact HB.out | apply below_alloc | apply pw_below_drewN | apply below_drew1 | refine below_set ?_ GE943.out) | exact HB.out))) : w.heap.size ≤ gb944)); have n4_ := Aside0.mk ((by rw [hg]; exact (below_size (by repeat (first | (with_reducible first | exact HB.out | apply below_alloc | apply pw_below_drewN | apply below_drew1 | refine below_set ?_ GE943.out) | exact HB.out))) : w.heap.size ≤ gb944)); have n5_ := Aside0.mk ((by rw [hg]; exact Nat.ne_of_lt (blk_lt (g := gb943) (o := .cells #[.int .i64 a0_0, .int .i64 a0_1, .int .i64 a0_2, .int .i64 a0_3, .slice A0_4 l0_4.length c0_4] 54 (0, 0)) (by (with_reducible repeat (first | refine blk_drewN ?_ _ | refine blk_drew ?_ | refine blk_alloc ?_ _)); exact BK943.out)) : gb943 ≠ gb944)); have n6_ := Aside0.mk ((by rw [hg]; exact Nat.ne_of_gt (blk_lt (g := gb943) (o := .cells #[.int .i64 a0_0, .int .i64 a0_1, .int .i64 a0_2, .int .i64 a0_3, .slice A0_4 l0_4.length c0_4] 54 (0, 0)) (by (with_reducible repeat (first | refine blk_drewN ?_ _ | refine blk_drew ?_ | refine blk_alloc ?_ _)); exact BK943.out)) : gb944 ≠ gb943)); clear BK943; clear HB; have BK943 := n0_; have HB := n1_; have BK944 := n2_; have GW944 := n3_; have GE944 := n4_; have NB943_944 := n5_; have NB944_943 := n6_; clear n0_ n1_ n2_ n3_ n4_ n5_ n6_; clear hb hbox hg; have hnb17 := NB943_944.out; have hnc17 := NB944_943.out; have hcz18_0 : w16.cell? ⟨gb943, 0, none⟩ = some (.int .i64 a0_0) := (blk_cell BK943.out 0).trans rfl; have hcz18_1 : w16.cell? ⟨gb943, 1, none⟩ = some (.int .i64 a0_1) := (blk_cell BK943.out 1).trans rfl; have hcz18_2 : w16.cell? ⟨gb943, 2, none⟩ = some (.int .i64 a0_2) := (blk_cell BK943.out 2).trans rfl; have hcz18_3 : w16.cell? ⟨gb943, 3, none⟩ = some (.int .i64 a0_3) := (blk_cell BK943.out 3).trans rfl; have hcz18_4 : w16.cell? ⟨gb943, 4, none⟩ = some (.slice A0_4 l0_4.length c0_4) := (blk_cell BK943.out 4).trans rfl; have hfz18_0 := blk_frozen BK943.out 0; have hfz18_1 := blk_frozen BK943.out 1; have hfz18_2 := blk_frozen BK943.out 2; have hfz18_3 := blk_frozen BK943.out 3; have hfz18_4 := blk_frozen BK943.out 4; have hcz19_0 : w16.cell? ⟨gb944, 0, none⟩ = some (.int .i64 a1_0) := (blk_cell BK944.out 0).trans rfl; have hcz19_1 : w16.cell? ⟨gb944, 1, none⟩ = some (.int .i64 a1_1) := (blk_cell BK944.out 1).trans rfl; have hcz19_2 : w16.cell? ⟨gb944, 2, none⟩ = some (.int .i64 a1_2) := (blk_cell BK944.out 2).trans rfl; have hcz19_3 : w16.cell? ⟨gb944, 3, none⟩ = some (.int .i64 a1_3) := (blk_cell BK944.out 3).trans rfl; have hcz19_4 : w16.cell? ⟨gb944, 4, none⟩ = some (.slice A1_4 l1_4.length c1_4) := (blk_cell BK944.out 4).trans rfl; have hfz19_0 := blk_frozen BK944.out 0; have hfz19_1 := blk_frozen BK944.out 1; have hfz19_2 := blk_frozen BK944.out 2; have hfz19_3 := blk_frozen BK944.out 3; have hfz19_4 := blk_frozen BK944.out 4) | ((with_reducible refine gate_callee (f := 88) rfl ?_); refine goesL_ (some 29) rfl rfl Try.func88 (by kernel_rfl) rfl #[.slice A0_4 l0_4.length c0_4, .slice A1_4 l1_4.length c1_4] rfl (by (try simp only [List.map_toArray, List.map_cons, List.map_nil]); first | done | rfl | (simp only [List.length_drop, List.length_take]; rfl)) ?_; (with_reducible refine (laws_eqMarkS.calls k _ _ l0_4 _ _ l1_4 false _ ?side1 ?side2 ?side3 ?side4 A7.out).mono ?_); (case side1 => repeat (first | exact (Kd.C_below HR0_4.out HB.out) | (with_reducible refine Kd.C_alloc ?_ _) | (with_reducible refine Kd.C_drewN ?_ _) | (with_reducible refine Kd.C_drew ?_))); (case side2 => exact HC0_4.out); (case side3 => repeat (first | exact (Kd.C_below HR1_4.out HB.out) | (with_reducible refine Kd.C_alloc ?_ _) | (with_reducible refine Kd.C_drewN ?_ _) | (with_reducible refine Kd.C_drew ?_))); (case side4 => exact HC1_4.out); rintro e w20 ⟨rfl, hb⟩; refine ⟨_, rfl, ?_⟩; have n0_ := Aside0.mk (blk_below (g := gb943) (o := .cells #[.int .i64 a0_0, .int .i64 a0_1, .int .i64 a0_2, .int .i64 a0_3, .slice A0_4 l0_4.length c0_4] 54 (0, 0)) (by (with_reducible repeat (first | refine blk_drewN ?_ _ | refine blk_drew ?_ | refine blk_alloc ?_ _)); exact BK943.out) hb); have n1_ := Aside0.mk (blk_below (g := gb944) (o := .cells #[.int .i64 a1_0, .int .i64 a1_1, .int .i64 a1_2, .int .i64 a1_3, .slice A1_4 l1_4.length c1_4] 54 (0, 0)) (by (with_reducible repeat (first | refine blk_drewN ?_ _ | refine blk_drew ?_ | refine blk_alloc ?_ _)); exact BK944.out) hb); have n2_ := Aside0.mk (below_step (by repeat (first | (with_reducible first | exact HB.out | apply below_alloc | apply pw_below_drewN | apply below_drew1 | refine below_set ?_ GE943.out | refine below_set ?_ GE944.out) | exact HB.out)) hb); clear BK943; clear BK944; clear HB; have BK943 := n0_; have BK944 := n1_; have HB := n2_; clear n0_ n1_ n2_; (try clear hb); (try clear hb2); (try clear hk); (try clear hi)))
            go_ret
            exact ⟨by first | rfl | (simp [errW_none, errW_some] <;> rfl) | (simp [*, errW_none, errW_some] <;> rfl), by repeat (first | (with_reducible first | exact HB.out | apply below_alloc | apply pw_below_drewN | apply below_drew1 | refine below_set ?_ GE943.out | refine below_set ?_ GE944.out) | exact HB.out)⟩
        · rw [if_neg c6] at H
          have c6b0 : (a0_3 == a1_3) = false := beq_eq_false_iff_ne.mpr c6
          have c6b1 : (a0_3 != a1_3) = true := bne_iff_ne.mpr c6
          obtain rfl := Option.some.inj H
          go_enter Try.func30, Try.ntmps30
          go_wp2_with (first | ((with_reducible refine gate_dst (N := 2) rfl ?_); refine box_event ?hg (N := 2) ?hd (cs := #[.int .i64 a0_0, .int .i64 a0_1, .int .i64 a0_2, .int .i64 a0_3, .slice A0_4 l0_4.length c0_4]) (t := 54) ?hr ?_; (case hd => rfl); (case hg => rfl); (case hr => first | (go_simp; done) | (go_simp; rfl)); intro gb943 hg w21 hbox hb; have n0_ := Aside0.mk (below_step (by repeat (first | (with_reducible first | exact HB.out | apply below_alloc | apply pw_below_drewN | apply below_drew1) | exact HB.out)) hb); have n1_ := Aside0.mk (hbox); have n2_ := Aside0.mk ((by rw [hg]; exact (below_size (by repeat (first | (with_reducible first | exact HB.out | apply below_alloc | apply pw_below_drewN | apply below_drew1) | exact HB.out))) : w.heap.size ≤ gb943)); have n3_ := Aside0.mk ((by rw [hg]; exact (below_size (by repeat (first | (with_reducible first | exact HB.out | apply below_alloc | apply pw_below_drewN | apply below_drew1) | exact HB.out))) : w.heap.size ≤ gb943)); clear HB; have HB := n0_; have BK943 := n1_; have GW943 := n2_; have GE943 := n3_; clear n0_ n1_ n2_ n3_; clear hb hbox hg) | ((with_reducible refine gate_dst (N := 3) rfl ?_); refine box_event ?hg (N := 3) ?hd (cs := #[.int .i64 a1_0, .int .i64 a1_1, .int .i64 a1_2, .int .i64 a1_3, .slice A1_4 l1_4.length c1_4]) (t := 54) ?hr ?_; (case hd => rfl); (case hg => rfl); (case hr => first | (go_simp; done) | (go_simp; rfl)); intro gb944 hg w22 hbox hb; have n0_ := Aside0.mk (blk_below (g := gb943) (o := .cells #[.int .i64 a0_0, .int .i64 a0_1, .int .i64 a0_2, .int .i64 a0_3, .slice A0_4 l0_4.length c0_4] 54 (0, 0)) (by (with_reducible repeat (first | refine blk_drewN ?_ _ | refine blk_drew ?_ | refine blk_alloc ?_ _)); exact BK943.out) hb); have n1_ := Aside0.mk (below_step (by repeat (first | (with_reducible first | exact HB.out | apply below_alloc | apply pw_below_drewN | apply below_drew1 | refine below_set ?_ GE943.out) | exact HB.out)) hb); have n2_ := Aside0.mk (hbox); have n3_ := Aside0.mk ((by rw [hg]; exact (below_size (by repeat (first | (with_reducible first | exact HB.out | apply below_alloc | apply pw_below_drewN | apply below_drew1 | refine below_set ?_ GE943.out) | exact HB.out))) : w.heap.size ≤ gb944)); have n4_ := Aside0.mk ((by rw [hg]; exact (below_size (by repeat (first | (with_reducible first | exact HB.out | apply below_alloc | apply pw_below_drewN | apply below_drew1 | refine below_set ?_ GE943.out) | exact HB.out))) : w.heap.size ≤ gb944)); have n5_ := Aside0.mk ((by rw [hg]; exact Nat.ne_of_lt (blk_lt (g := gb943) (o := .cells #[.int .i64 a0_0, .int .i64 a0_1, .int .i64 a0_2, .int .i64 a0_3, .slice A0_4 l0_4.length c0_4] 54 (0, 0)) (by (with_reducible repeat (first | refine blk_drewN ?_ _ | refine blk_drew ?_ | refine blk_alloc ?_ _)); exact BK943.out)) : gb943 ≠ gb944)); have n6_ := Aside0.mk ((by rw [hg]; exact Nat.ne_of_gt (blk_lt (g := gb943) (o := .cells #[.int .i64 a0_0, .int .i64 a0_1, .int .i64 a0_2, .int .i64 a0_3, .slice A0_4 l0_4.length c0_4] 54 (0, 0)) (by (with_reducible repeat (first | refine blk_drewN ?_ _ | refine blk_drew ?_ | refine blk_alloc ?_ _)); exact BK943.out)) : gb944 ≠ gb943)); clear BK943; clear HB; have BK943 := n0_; have HB := n1_; have BK944 := n2_; have GW944 := n3_; have GE944 := n4_; have NB943_944 := n5_; have NB944_943 := n6_; clear n0_ n1_ n2_ n3_ n4_ n5_ n6_; clear hb hbox hg; have hnb23 := NB943_944.out; have hnc23 := NB944_943.out; have hcz24_0 : w22.cell? ⟨gb943, 0, none⟩ = some (.int .i64 a0_0) := (blk_cell BK943.out 0).trans rfl; have hcz24_1 : w22.cell? ⟨gb943, 1, none⟩ = some (.int .i64 a0_1) := (blk_cell BK943.out 1).trans rfl; have hcz24_2 : w22.cell? ⟨gb943, 2, none⟩ = some (.int .i64 a0_2) := (blk_cell BK943.out 2).trans rfl; have hcz24_3 : w22.cell? ⟨gb943, 3, none⟩ = some (.int .i64 a0_3) := (blk_cell BK943.out 3).trans rfl; have hcz24_4 : w22.cell? ⟨gb943, 4, none⟩ = some (.slice A0_4 l0_4.length c0_4) := (blk_cell BK943.out 4).trans rfl; have hfz24_0 := blk_frozen BK943.out 0; have hfz24_1 := blk_frozen BK943.out 1; have hfz24_2 := blk_frozen BK943.out 2; have hfz24_3 := blk_frozen BK943.out 3; have hfz24_4 := blk_frozen BK943.out 4; have hcz25_0 : w22.cell? ⟨gb944, 0, none⟩ = some (.int .i64 a1_0) := (blk_cell BK944.out 0).trans rfl; have hcz25_1 : w22.cell? ⟨gb944, 1, none⟩ = some (.int .i64 a1_1) := (blk_cell BK944.out 1).trans rfl; have hcz25_2 : w22.cell? ⟨gb944, 2, none⟩ = some (.int .i64 a1_2) := (blk_cell BK944.out 2).trans rfl; have hcz25_3 : w22.cell? ⟨gb944, 3, none⟩ = some (.int .i64 a1_3) := (blk_cell BK944.out 3).trans rfl; have hcz25_4 : w22.cell? ⟨gb944, 4, none⟩ = some (.slice A1_4 l1_4.length c1_4) := (blk_cell BK944.out 4).trans rfl; have hfz25_0 := blk_frozen BK944.out 0; have hfz25_1 := blk_frozen BK944.out 1; have hfz25_2 := blk_frozen BK944.out 2; have hfz25_3 := blk_frozen BK944.out 3; have hfz25_4 := blk_frozen BK944.out 4))
          go_ret
          exact ⟨by first | rfl | (simp [errW_none, errW_some] <;> rfl) | (simp [*, errW_none, errW_some] <;> rfl), by repeat (first | (with_reducible first | exact HB.out | apply below_alloc | apply pw_below_drewN | apply below_drew1 | refine below_set ?_ GE943.out | refine below_set ?_ GE944.out) | exact HB.out)⟩
      · rw [if_neg c5] at H
        have c5b0 : (a0_2 == a1_2) = false := beq_eq_false_iff_ne.mpr c5
        have c5b1 : (a0_2 != a1_2) = true := bne_iff_ne.mpr c5
        obtain rfl := Option.some.inj H
        go_enter Try.func30, Try.ntmps30
        go_wp2_with (first | ((with_reducible refine gate_dst (N := 2) rfl ?_); refine box_event ?hg (N := 2) ?hd (cs := #[.int .i64 a0_0, .int .i64 a0_1, .int .i64 a0_2, .int .i64 a0_3, .slice A0_4 l0_4.length c0_4]) (t := 54) ?hr ?_; (case hd => rfl); (case hg => rfl); (case hr => first | (go_simp; done) | (go_simp; rfl)); intro gb943 hg w26 hbox hb; have n0_ := Aside0.mk (below_step (by repeat (first | (with_reducible first | exact HB.out | apply below_alloc | apply pw_below_drewN | apply below_drew1) | exact HB.out)) hb); have n1_ := Aside0.mk (hbox); have n2_ := Aside0.mk ((by rw [hg]; exact (below_size (by repeat (first | (with_reducible first | exact HB.out | apply below_alloc | apply pw_below_drewN | apply below_drew1) | exact HB.out))) : w.heap.size ≤ gb943)); have n3_ := Aside0.mk ((by rw [hg]; exact (below_size (by repeat (first | (with_reducible first | exact HB.out | apply below_alloc | apply pw_below_drewN | apply below_drew1) | exact HB.out))) : w.heap.size ≤ gb943)); clear HB; have HB := n0_; have BK943 := n1_; have GW943 := n2_; have GE943 := n3_; clear n0_ n1_ n2_ n3_; clear hb hbox hg) | ((with_reducible refine gate_dst (N := 3) rfl ?_); refine box_event ?hg (N := 3) ?hd (cs := #[.int .i64 a1_0, .int .i64 a1_1, .int .i64 a1_2, .int .i64 a1_3, .slice A1_4 l1_4.length c1_4]) (t := 54) ?hr ?_; (case hd => rfl); (case hg => rfl); (case hr => first | (go_simp; done) | (go_simp; rfl)); intro gb944 hg w27 hbox hb; have n0_ := Aside0.mk (blk_below (g := gb943) (o := .cells #[.int .i64 a0_0, .int .i64 a0_1, .int .i64 a0_2, .int .i64 a0_3, .slice A0_4 l0_4.length c0_4] 54 (0, 0)) (by (with_reducible repeat (first | refine blk_drewN ?_ _ | refine blk_drew ?_ | refine blk_alloc ?_ _)); exact BK943.out) hb); have n1_ := Aside0.mk (below_step (by repeat (first | (with_reducible first | exact HB.out | apply below_alloc | apply pw_below_drewN | apply below_drew1 | refine below_set ?_ GE943.out) | exact HB.out)) hb); have n2_ := Aside0.mk (hbox); have n3_ := Aside0.mk ((by rw [hg]; exact (below_size (by repeat (first | (with_reducible first | exact HB.out | apply below_alloc | apply pw_below_drewN | apply below_drew1 | refine below_set ?_ GE943.out) | exact HB.out))) : w.heap.size ≤ gb944)); have n4_ := Aside0.mk ((by rw [hg]; exact (below_size (by repeat (first | (with_reducible first | exact HB.out | apply below_alloc | apply pw_below_drewN | apply below_drew1 | refine below_set ?_ GE943.out) | exact HB.out))) : w.heap.size ≤ gb944)); have n5_ := Aside0.mk ((by rw [hg]; exact Nat.ne_of_lt (blk_lt (g := gb943) (o := .cells #[.int .i64 a0_0, .int .i64 a0_1, .int .i64 a0_2, .int .i64 a0_3, .slice A0_4 l0_4.length c0_4] 54 (0, 0)) (by (with_reducible repeat (first | refine blk_drewN ?_ _ | refine blk_drew ?_ | refine blk_alloc ?_ _)); exact BK943.out)) : gb943 ≠ gb944)); have n6_ := Aside0.mk ((by rw [hg]; exact Nat.ne_of_gt (blk_lt (g := gb943) (o := .cells #[.int .i64 a0_0, .int .i64 a0_1, .int .i64 a0_2, .int .i64 a0_3, .slice A0_4 l0_4.length c0_4] 54 (0, 0)) (by (with_reducible repeat (first | refine blk_drewN ?_ _ | refine blk_drew ?_ | refine blk_alloc ?_ _)); exact BK943.out)) : gb944 ≠ gb943)); clear BK943; clear HB; have BK943 := n0_; have HB := n1_; have BK944 := n2_; have GW944 := n3_; have GE944 := n4_; have NB943_944 := n5_; have NB944_943 := n6_; clear n0_ n1_ n2_ n3_ n4_ n5_ n6_; clear hb hbox hg; have hnb28 := NB943_944.out; have hnc28 := NB944_943.out; have hcz29_0 : w27.cell? ⟨gb943, 0, none⟩ = some (.int .i64 a0_0) := (blk_cell BK943.out 0).trans rfl; have hcz29_1 : w27.cell? ⟨gb943, 1, none⟩ = some (.int .i64 a0_1) := (blk_cell BK943.out 1).trans rfl; have hcz29_2 : w27.cell? ⟨gb943, 2, none⟩ = some (.int .i64 a0_2) := (blk_cell BK943.out 2).trans rfl; have hcz29_3 : w27.cell? ⟨gb943, 3, none⟩ = some (.int .i64 a0_3) := (blk_cell BK943.out 3).trans rfl; have hcz29_4 : w27.cell? ⟨gb943, 4, none⟩ = some (.slice A0_4 l0_4.length c0_4) := (blk_cell BK943.out 4).trans rfl; have hfz29_0 := blk_frozen BK943.out 0; have hfz29_1 := blk_frozen BK943.out 1; have hfz29_2 := blk_frozen BK943.out 2; have hfz29_3 := blk_frozen BK943.out 3; have hfz29_4 := blk_frozen BK943.out 4; have hcz30_0 : w27.cell? ⟨gb944, 0, none⟩ = some (.int .i64 a1_0) := (blk_cell BK944.out 0).trans rfl; have hcz30_1 : w27.cell? ⟨gb944, 1, none⟩ = some (.int .i64 a1_1) := (blk_cell BK944.out 1).trans rfl; have hcz30_2 : w27.cell? ⟨gb944, 2, none⟩ = some (.int .i64 a1_2) := (blk_cell BK944.out 2).trans rfl; have hcz30_3 : w27.cell? ⟨gb944, 3, none⟩ = some (.int .i64 a1_3) := (blk_cell BK944.out 3).trans rfl; have hcz30_4 : w27.cell? ⟨gb944, 4, none⟩ = some (.slice A1_4 l1_4.length c1_4) := (blk_cell BK944.out 4).trans rfl; have hfz30_0 := blk_frozen BK944.out 0; have hfz30_1 := blk_frozen BK944.out 1; have hfz30_2 := blk_frozen BK944.out 2; have hfz30_3 := blk_frozen BK944.out 3; have hfz30_4 := blk_frozen BK944.out 4))
        go_ret
        exact ⟨by first | rfl | (simp [errW_none, errW_some] <;> rfl) | (simp [*, errW_none, errW_some] <;> rfl), by repeat (first | (with_reducible first | exact HB.out | apply below_alloc | apply pw_below_drewN | apply below_drew1 | refine below_set ?_ GE943.out | refine below_set ?_ GE944.out) | exact HB.out)⟩
    · rw [if_neg c4] at H
      have c4b0 : (a0_1 == a1_1) = false := beq_eq_false_iff_ne.mpr c4
      have c4b1 : (a0_1 != a1_1) = true := bne_iff_ne.mpr c4
      obtain rfl := Option.some.inj H
      go_enter Try.func30, Try.ntmps30
      go_wp2_with (first | ((with_reducible refine gate_dst (N := 2) rfl ?_); refine box_event ?hg (N := 2) ?hd (cs := #[.int .i64 a0_0, .int .i64 a0_1, .int .i64 a0_2, .int .i64 a0_3, .slice A0_4 l0_4.length c0_4]) (t := 54) ?hr ?_; (case hd => rfl); (case hg => rfl); (case hr => first | (go_simp; done) | (go_simp; rfl)); intro gb943 hg w31 hbox hb; have n0_ := Aside0.mk (below_step (by repeat (first | (with_reducible first | exact HB.out | apply below_alloc | apply pw_below_drewN | apply below_drew1) | exact HB.out)) hb); have n1_ := Aside0.mk (hbox); have n2_ := Aside0.mk ((by rw [hg]; exact (below_size (by repeat (first | (with_reducible first | exact HB.out | apply below_alloc | apply pw_below_drewN | apply below_drew1) | exact HB.out))) : w.heap.size ≤ gb943)); have n3_ := Aside0.mk ((by rw [hg]; exact (below_size (by repeat (first | (with_reducible first | exact HB.out | apply below_alloc | apply pw_below_drewN | apply below_drew1) | exact HB.out))) : w.heap.size ≤ gb943)); clear HB; have HB := n0_; have BK943 := n1_; have GW943 := n2_; have GE943 := n3_; clear n0_ n1_ n2_ n3_; clear hb hbox hg) | ((with_reducible refine gate_dst (N := 3) rfl ?_); refine box_event ?hg (N := 3) ?hd (cs := #[.int .i64 a1_0, .int .i64 a1_1, .int .i64 a1_2, .int .i64 a1_3, .slice A1_4 l1_4.length c1_4]) (t := 54) ?hr ?_; (case hd => rfl); (case hg => rfl); (case hr => first | (go_simp; done) | (go_simp; rfl)); intro gb944 hg w32 hbox hb; have n0_ := Aside0.mk (blk_below (g := gb943) (o := .cells #[.int .i64 a0_0, .int .i64 a0_1, .int .i64 a0_2, .int .i64 a0_3, .slice A0_4 l0_4.length c0_4] 54 (0, 0)) (by (with_reducible repeat (first | refine blk_drewN ?_ _ | refine blk_drew ?_ | refine blk_alloc ?_ _)); exact BK943.out) hb); have n1_ := Aside0.mk (below_step (by repeat (first | (with_reducible first | exact HB.out | apply below_alloc | apply pw_below_drewN | apply below_drew1 | refine below_set ?_ GE943.out) | exact HB.out)) hb); have n2_ := Aside0.mk (hbox); have n3_ := Aside0.mk ((by rw [hg]; exact (below_size (by repeat (first | (with_reducible first | exact HB.out | apply below_alloc | apply pw_below_drewN | apply below_drew1 | refine below_set ?_ GE943.out) | exact HB.out))) : w.heap.size ≤ gb944)); have n4_ := Aside0.mk ((by rw [hg]; exact (below_size (by repeat (first | (with_reducible first | exact HB.out | apply below_alloc | apply pw_below_drewN | apply below_drew1 | refine below_set ?_ GE943.out) | exact HB.out))) : w.heap.size ≤ gb944)); have n5_ := Aside0.mk ((by rw [hg]; exact Nat.ne_of_lt (blk_lt (g := gb943) (o := .cells #[.int .i64 a0_0, .int .i64 a0_1, .int .i64 a0_2, .int .i64 a0_3, .slice A0_4 l0_4.length c0_4] 54 (0, 0)) (by (with_reducible repeat (first | refine blk_drewN ?_ _ | refine blk_drew ?_ | refine blk_alloc ?_ _)); exact BK943.out)) : gb943 ≠ gb944)); have n6_ := Aside0.mk ((by rw [hg]; exact Nat.ne_of_gt (blk_lt (g := gb943) (o := .cells #[.int .i64 a0_0, .int .i64 a0_1, .int .i64 a0_2, .int .i64 a0_3, .slice A0_4 l0_4.length c0_4] 54 (0, 0)) (by (with_reducible repeat (first | refine blk_drewN ?_ _ | refine blk_drew ?_ | refine blk_alloc ?_ _)); exact BK943.out)) : gb944 ≠ gb943)); clear BK943; clear HB; have BK943 := n0_; have HB := n1_; have BK944 := n2_; have GW944 := n3_; have GE944 := n4_; have NB943_944 := n5_; have NB944_943 := n6_; clear n0_ n1_ n2_ n3_ n4_ n5_ n6_; clear hb hbox hg; have hnb33 := NB943_944.out; have hnc33 := NB944_943.out; have hcz34_0 : w32.cell? ⟨gb943, 0, none⟩ = some (.int .i64 a0_0) := (blk_cell BK943.out 0).trans rfl; have hcz34_1 : w32.cell? ⟨gb943, 1, none⟩ = some (.int .i64 a0_1) := (blk_cell BK943.out 1).trans rfl; have hcz34_2 : w32.cell? ⟨gb943, 2, none⟩ = some (.int .i64 a0_2) := (blk_cell BK943.out 2).trans rfl; have hcz34_3 : w32.cell? ⟨gb943, 3, none⟩ = some (.int .i64 a0_3) := (blk_cell BK943.out 3).trans rfl; have hcz34_4 : w32.cell? ⟨gb943, 4, none⟩ = some (.slice A0_4 l0_4.length c0_4) := (blk_cell BK943.out 4).trans rfl; have hfz34_0 := blk_frozen BK943.out 0; have hfz34_1 := blk_frozen BK943.out 1; have hfz34_2 := blk_frozen BK943.out 2; have hfz34_3 := blk_frozen BK943.out 3; have hfz34_4 := blk_frozen BK943.out 4; have hcz35_0 : w32.cell? ⟨gb944, 0, none⟩ = some (.int .i64 a1_0) := (blk_cell BK944.out 0).trans rfl; have hcz35_1 : w32.cell? ⟨gb944, 1, none⟩ = some (.int .i64 a1_1) := (blk_cell BK944.out 1).trans rfl; have hcz35_2 : w32.cell? ⟨gb944, 2, none⟩ = some (.int .i64 a1_2) := (blk_cell BK944.out 2).trans rfl; have hcz35_3 : w32.cell? ⟨gb944, 3, none⟩ = some (.int .i64 a1_3) := (blk_cell BK944.out 3).trans rfl; have hcz35_4 : w32.cell? ⟨gb944, 4, none⟩ = some (.slice A1_4 l1_4.length c1_4) := (blk_cell BK944.out 4).trans rfl; have hfz35_0 := blk_frozen BK944.out 0; have hfz35_1 := blk_frozen BK944.out 1; have hfz35_2 := blk_frozen BK944.out 2; have hfz35_3 := blk_frozen BK944.out 3; have hfz35_4 := blk_frozen BK944.out 4))
      go_ret
      exact ⟨by first | rfl | (simp [errW_none, errW_some] <;> rfl) | (simp [*, errW_none, errW_some] <;> rfl), by repeat (first | (with_reducible first | exact HB.out | apply below_alloc | apply pw_below_drewN | apply below_drew1 | refine below_set ?_ GE943.out | refine below_set ?_ GE944.out) | exact HB.out)⟩
  · rw [if_neg c3] at H
    have c3b0 : (a0_0 == a1_0) = false := beq_eq_false_iff_ne.mpr c3
    have c3b1 : (a0_0 != a1_0) = true := bne_iff_ne.mpr c3
    obtain rfl := Option.some.inj H
    go_enter Try.func30, Try.ntmps30
    go_wp2_with (first | ((with_reducible refine gate_dst (N := 2) rfl ?_); refine box_event ?hg (N := 2) ?hd (cs := #[.int .i64 a0_0, .int .i64 a0_1, .int .i64 a0_2, .int .i64 a0_3, .slice A0_4 l0_4.length c0_4]) (t := 54) ?hr ?_; (case hd => rfl); (case hg => rfl); (case hr => first | (go_simp; done) | (go_simp; rfl)); intro gb943 hg w36 hbox hb; have n0_ := Aside0.mk (below_step (by repeat (first | (with_reducible first | exact HB.out | apply below_alloc | apply pw_below_drewN | apply below_drew1) | exact HB.out)) hb); have n1_ := Aside0.mk (hbox); have n2_ := Aside0.mk ((by rw [hg]; exact (below_size (by repeat (first | (with_reducible first | exact HB.out | apply below_alloc | apply pw_below_drewN | apply below_drew1) | exact HB.out))) : w.heap.size ≤ gb943)); have n3_ := Aside0.mk ((by rw [hg]; exact (below_size (by repeat (first | (with_reducible first | exact HB.out | apply below_alloc | apply pw_below_drewN | apply below_drew1) | exact HB.out))) : w.heap.size ≤ gb943)); clear HB; have HB := n0_; have BK943 := n1_; have GW943 := n2_; have GE943 := n3_; clear n0_ n1_ n2_ n3_; clear hb hbox hg) | ((with_reducible refine gate_dst (N := 3) rfl ?_); refine box_event ?hg (N := 3) ?hd (cs := #[.int .i64 a1_0, .int .i64 a1_1, .int .i64 a1_2, .int .i64 a1_3, .slice A1_4 l1_4.length c1_4]) (t := 54) ?hr ?_; (case hd => rfl); (case hg => rfl); (case hr => first | (go_simp; done) | (go_simp; rfl)); intro gb944 hg w37 hbox hb; have n0_ := Aside0.mk (blk_below (g := gb943) (o := .cells #[.int .i64 a0_0, .int .i64 a0_1, .int .i64 a0_2, .int .i64 a0_3, .slice A0_4 l0_4.length c0_4] 54 (0, 0)) (by (with_reducible repeat (first | refine blk_drewN ?_ _ | refine blk_drew ?_ | refine blk_alloc ?_ _)); exact BK943.out) hb); have n1_ := Aside0.mk (below_step (by repeat (first | (with_reducible first | exact HB.out | apply below_alloc | apply pw_below_drewN | apply below_drew1 | refine below_set ?_ GE943.out) | exact HB.out)) hb); have n2_ := Aside0.mk (hbox); have n3_ := Aside0.mk ((by rw [hg]; exact (below_size (by repeat (first | (with_reducible first | exact HB.out | apply below_alloc | apply pw_below_drewN | apply below_drew1 | refine below_set ?_ GE943.out) | exact HB.out))) : w.heap.size ≤ gb944)); have n4_ := Aside0.mk ((by rw [hg]; exact (below_size (by repeat (first | (with_reducible first | exact HB.out | apply below_alloc | apply pw_below_drewN | apply below_drew1 | refine below_set ?_ GE943.out) | exact HB.out))) : w.heap.size ≤ gb944)); have n5_ := Aside0.mk ((by rw [hg]; exact Nat.ne_of_lt (blk_lt (g := gb943) (o := .cells #[.int .i64 a0_0, .int .i64 a0_1, .int .i64 a0_2, .int .i64 a0_3, .slice A0_4 l0_4.length c0_4] 54 (0, 0)) (by (with_reducible repeat (first | refine blk_drewN ?_ _ | refine blk_drew ?_ | refine blk_alloc ?_ _)); exact BK943.out)) : gb943 ≠ gb944)); have n6_ := Aside0.mk ((by rw [hg]; exact Nat.ne_of_gt (blk_lt (g := gb943) (o := .cells #[.int .i64 a0_0, .int .i64 a0_1, .int .i64 a0_2, .int .i64 a0_3, .slice A0_4 l0_4.length c0_4] 54 (0, 0)) (by (with_reducible repeat (first | refine blk_drewN ?_ _ | refine blk_drew ?_ | refine blk_alloc ?_ _)); exact BK943.out)) : gb944 ≠ gb943)); clear BK943; clear HB; have BK943 := n0_; have HB := n1_; have BK944 := n2_; have GW944 := n3_; have GE944 := n4_; have NB943_944 := n5_; have NB944_943 := n6_; clear n0_ n1_ n2_ n3_ n4_ n5_ n6_; clear hb hbox hg; have hnb38 := NB943_944.out; have hnc38 := NB944_943.out; have hcz39_0 : w37.cell? ⟨gb943, 0, none⟩ = some (.int .i64 a0_0) := (blk_cell BK943.out 0).trans rfl; have hcz39_1 : w37.cell? ⟨gb943, 1, none⟩ = some (.int .i64 a0_1) := (blk_cell BK943.out 1).trans rfl; have hcz39_2 : w37.cell? ⟨gb943, 2, none⟩ = some (.int .i64 a0_2) := (blk_cell BK943.out 2).trans rfl; have hcz39_3 : w37.cell? ⟨gb943, 3, none⟩ = some (.int .i64 a0_3) := (blk_cell BK943.out 3).trans rfl; have hcz39_4 : w37.cell? ⟨gb943, 4, none⟩ = some (.slice A0_4 l0_4.length c0_4) := (blk_cell BK943.out 4).trans rfl; have hfz39_0 := blk_frozen BK943.out 0; have hfz39_1 := blk_frozen BK943.out 1; have hfz39_2 := blk_frozen BK943.out 2; have hfz39_3 := blk_frozen BK943.out 3; have hfz39_4 := blk_frozen BK943.out 4; have hcz40_0 : w37.cell? ⟨gb944, 0, none⟩ = some (.int .i64 a1_0) := (blk_cell BK944.out 0).trans rfl; have hcz40_1 : w37.cell? ⟨gb944, 1, none⟩ = some (.int .i64 a1_1) := (blk_cell BK944.out 1).trans rfl; have hcz40_2 : w37.cell? ⟨gb944, 2, none⟩ = some (.int .i64 a1_2) := (blk_cell BK944.out 2).trans rfl; have hcz40_3 : w37.cell? ⟨gb944, 3, none⟩ = some (.int .i64 a1_3) := (blk_cell BK944.out 3).trans rfl; have hcz40_4 : w37.cell? ⟨gb944, 4, none⟩ = some (.slice A1_4 l1_4.length c1_4) := (blk_cell BK944.out 4).trans rfl; have hfz40_0 := blk_frozen BK944.out 0; have hfz40_1 := blk_frozen BK944.out 1; have hfz40_2 := blk_frozen BK944.out 2; have hfz40_3 := blk_frozen BK944.out 3; have hfz40_4 := blk_frozen BK944.out 4))
    go_ret
    exact ⟨by first | rfl | (simp [errW_none, errW_some] <;> rfl) | (simp [*, errW_none, errW_some] <;> rfl), by repeat (first | (with_reducible first | exact HB.out | apply below_alloc | apply pw_below_drewN | apply below_drew1 | refine below_set ?_ GE943.out | refine below_set ?_ GE944.out) | exact HB.out)⟩
/-! ### spec_l4Copy: function 110 -/
def spec_l4Copy.f (a0_0 : Int) (a0_1 : Int) (a0_2 : Int) (a0_3 : Int) (l0_4 : List (S_Mark)) : Option (Int × Int × Int × Int × (List (S_Mark))) := (some (([] : List (S_Mark)) : List (S_Mark))).bind fun y979 => (if y979.length + l0_4.length < 8796093022208 then (some (a0_0, a0_1, a0_2, a0_3, (y979 ++ l0_4))) else (none))
set_option maxHeartbeats 8000000 in
set_option maxRecDepth 100000 in
theorem spec_l4Copy.calls (a0_0 : Int) (a0_1 : Int) (a0_2 : Int) (a0_3 : Int) (A0_4 : Option Addr) (c0_4 : Nat) (l0_4 : List (S_Mark)) (r1 : Int) (r2 : Int) (r3 : Int) (r4 : Int) (r5 : List (S_Mark)) (w : World) (hr0_4 : Kd.C k_Mark w A0_4 l0_4.length l0_4) (hc0_4 : l0_4.length ≤ c0_4) (h : spec_l4Copy.f a0_0 a0_1 a0_2 a0_3 l0_4 = some (r1, r2, r3, r4, r5)) :
    Calls Try.prog 110 #[.agg #[.int .i64 a0_0, .int .i64 a0_1, .int .i64 a0_2, .int .i64 a0_3, .slice A0_4 l0_4.length c0_4]] w fun e w' => ∃ v4_ : Value, e = .returned (.agg #[.int .i64 r1, .int .i64 r2, .int .i64 r3, .int .i64 r4, v4_]) ∧ Kd.R k_Mark 118 w' w.heap.size (fun _ => True) v4_ r5 ∧ Below w.heap.size w w' := by
  have hu54 := Try.underlying54
  have HR0_4 := Aside0.mk hr0_4
  have HC0_4 := Aside0.mk hc0_4
  clear hr0_4 hc0_4
  have HB := Aside0.mk (Below.refl w.heap.size w)
  have H : ((some (([] : List (S_Mark)) : List (S_Mark))).bind fun y979 => (if y979.length + l0_4.length < 8796093022208 then (some (a0_0, a0_1, a0_2, a0_3, (y979 ++ l0_4))) else (none))) = some (r1, r2, r3, r4, r5) := h
  clear h
  obtain ⟨y979, hy979⟩ : ∃ y_ : List (S_Mark), y_ = (([] : List (S_Mark))) := ⟨_, rfl⟩
  replace H : (if y979.length + l0_4.length < 8796093022208 then (some (a0_0, a0_1, a0_2, a0_3, (y979 ++ l0_4))) else (none)) = some (r1, r2, r3, r4, r5) := by first | (rw [hy979]; with_reducible exact H) | (have H2_ := (Option.bind_some _ _).symm.trans H; rw [hy979]; with_reducible exact H2_) | (have H2_ := (Option.bind_some _ _).symm.trans H; with_reducible exact H2_) | with_reducible exact H | (rw [hy979]; exact H) | exact H
  have Ny979 := Aside0.mk hy979
  clear hy979
  by_cases c2 : y979.length + l0_4.length < 8796093022208
  · rw [if_pos c2] at H
    have LMc2 := Aside0.mk c2
    clear c2
    obtain ⟨y982, hy982⟩ : ∃ y_ : List (S_Mark), y_ = (y979 ++ l0_4) := ⟨_, rfl⟩
    replace H : (some (a0_0, a0_1, a0_2, a0_3, y982)) = some (r1, r2, r3, r4, r5) := by first | (rw [hy982]; with_reducible exact H) | (have H2_ := (Option.bind_some _ _).symm.trans H; rw [hy982]; with_reducible exact H2_) | (have H2_ := (Option.bind_some _ _).symm.trans H; with_reducible exact H2_) | with_reducible exact H | (rw [hy982]; exact H) | exact H
    have Ny982 := Aside0.mk hy982
    clear hy982
    simp only [Option.some.injEq, Prod.mk.injEq] at H
    obtain ⟨rfl, rfl, rfl, rfl, rfl⟩ := H
    go_enter Try.func110, Try.ntmps110
    go_wp2_with (first | ((with_reducible refine gate_dst (N := 1) rfl ?_); refine box_event ?hg (N := 1) ?hd (cs := #[.int .i64 a0_0, .int .i64 a0_1, .int .i64 a0_2, .int .i64 a0_3, .slice A0_4 l0_4.length c0_4]) (t := 54) ?hr ?_; (case hd => rfl); (case hg => rfl); (case hr => first | (go_simp; done) | (go_simp; rfl)); intro gb977 hg w3 hbox hb; have n0_ := Aside0.mk (below_step (by repeat (first | (with_reducible first | exact HB.out | apply below_alloc | apply pw_below_drewN | apply below_drew1) | exact HB.out)) hb); have n1_ := Aside0.mk (hbox); have n2_ := Aside0.mk ((by rw [hg]; exact (below_size (by repeat (first | (with_reducible first | exact HB.out | apply below_alloc | apply pw_below_drewN | apply below_drew1) | exact HB.out))) : w.heap.size ≤ gb977)); have n3_ := Aside0.mk ((by rw [hg]; exact (below_size (by repeat (first | (with_reducible first | exact HB.out | apply below_alloc | apply pw_below_drewN | apply below_drew1) | exact HB.out))) : w.heap.size ≤ gb977)); clear HB; have HB := n0_; have BK977 := n1_; have GW977 := n2_; have GE977 := n3_; clear n0_ n1_ n2_ n3_; clear hb hbox hg) | ((with_reducible refine gate_dst (N := 2) rfl ?_); refine box_event ?hg (N := 2) ?hd (cs := #[.int .i64 0, .int .i64 0, .int .i64 0, .int .i64 0, .slice none 0 0]) (t := 54) ?hr ?_; (case hd => rfl); (case hg => rfl); (case hr => first | (go_simp; done) | (go_simp; rfl)); intro gb978 hg w4 hbox hb; have n0_ := Aside0.mk (blk_below (g := gb977) (o := .cells #[.int .i64 a0_0, .int .i64 a0_1, .int .i64 a0_2, .int .i64 a0_3, .slice A0_4 l0_4.length c0_4] 54 (0, 0)) (by (with_reducible repeat (first | refine blk_drewN ?_ _ | refine blk_drew ?_ | refine blk_alloc ?_ _)); exact BK977.out) hb); have n1_ := Aside0.mk (below_step (by repeat (first | (with_reducible first | exact HB.out | apply below_alloc | apply pw_below_drewN | apply below_drew1 | refine below_set ?_ GE977.out) | exact HB.out)) hb); have n2_ := Aside0.mk (hbox); have n3_ := Aside0.mk ((by rw [hg]; exact (below_size (by repeat (first | (with_reducible first | exact HB.out | apply below_alloc | apply pw_below_drewN | apply below_drew1 | refine below_set ?_ GE977.out) | exact HB.out))) : w.heap.size ≤ gb978)); have n4_ := Aside0.mk ((by rw [hg]; exact (below_size (by repeat (first | (with_reducible first | exact HB.out | apply below_alloc | apply pw_below_drewN | apply below_drew1 | refine below_set ?_ GE977.out) | exact HB.out))) : w.heap.size ≤ gb978)); have n5_ := Aside0.mk ((by rw [hg]; exact Nat.ne_of_lt (blk_lt (g := gb977) (o := .cells #[.int .i64 a0_0, .int .i64 a0_1, .int .i64 a0_2, .int .i64 a0_3, .slice A0_4 l0_4.length c0_4] 54 (0, 0)) (by (with_reducible repeat (first | refine blk_drewN ?_ _ | refine blk_drew ?_ | refine blk_alloc ?_ _)); exact BK977.out)) : gb977 ≠ gb978)); have n6_ := Aside0.mk ((by rw [hg]; exact Nat.ne_of_gt (blk_lt (g := gb977) (o := .cells #[.int .i64 a0_0, .int .i64 a0_1, .int .i64 a0_2, .int .i64 a0_3, .slice A0_4 l0_4.length c0_4] 54 (0, 0)) (by (with_reducible repeat (first | refine blk_drewN ?_ _ | refine blk_drew ?_ | refine blk_alloc ?_ _)); exact BK977.out)) : gb978 ≠ gb977)); clear BK977; clear HB; have BK977 := n0_; have HB := n1_; have BK978 := n2_; have GW978 := n3_; have GE978 := n4_; have NB977_978 := n5_; have NB978_977 := n6_; clear n0_ n1_ n2_ n3_ n4_ n5_ n6_; clear hb hbox hg) | ((with_reducible refine gate_dst (N := 3) rfl ?_); refine Kd.R_lit k_Mark _ 118 ?hg (N := 3) ?hd (xs := ([] : List (S_Mark))) (inner := []) (ok := fun _ => True) (okp := fun _ => True) ?hr ?hp (fun _ hk => hk) trivial (Below.refl _ _) (Nat.le_refl _) (by simp) ?_; (case hd => rfl); (case hg => rfl); (case hr => first | (go_simp; done) | (go_simp; rfl)); (case hp => exact (Reps.none _ _)); intro v980 w5 ho6 hb hg_ hnew_; clear hg_ hnew_; (first | rw [← Ny979.out] at ho6 | (simp only [Int.reduceToNat] at ho6; rw [← Ny979.out] at ho6)); have n0_ := Aside0.mk (Kd.R_lower ho6 (below_size (by repeat (first | (with_reducible first | exact HB.out | apply below_alloc | apply pw_below_drewN | apply below_drew1 | refine below_set ?_ GE977.out | refine below_set ?_ GE978.out) | exact HB.out)))); have n1_ := Aside0.mk (blk_below (g := gb977) (o := .cells #[.int .i64 a0_0, .int .i64 a0_1, .int .i64 a0_2, .int .i64 a0_3, .slice A0_4 l0_4.length c0_4] 54 (0, 0)) (by (with_reducible repeat (first | refine blk_drewN ?_ _ | refine blk_drew ?_ | refine blk_alloc ?_ _)); exact BK977.out) hb); have n2_ := Aside0.mk (blk_below (g := gb978) (o := .cells #[.int .i64 0, .int .i64 0, .int .i64 0, .int .i64 0, .slice none 0 0] 54 (0, 0)) (by (with_reducible repeat (first | refine blk_drewN ?_ _ | refine blk_drew ?_ | refine blk_alloc ?_ _)); exact BK978.out) hb); have n3_ := Aside0.mk (below_step (by repeat (first | (with_reducible first | exact HB.out | apply below_alloc | apply pw_below_drewN | apply below_drew1 | refine below_set ?_ GE977.out | refine below_set ?_ GE978.out) | exact HB.out)) hb); clear BK977; clear BK978; clear HB; have HO981 := n0_; have BK977 := n1_; have BK978 := n2_; have HB := n3_; clear n0_ n1_ n2_ n3_; clear hb ho6; have hnb7 := NB977_978.out; have hnc7 := NB978_977.out; have hcz8_0 : w5.cell? ⟨gb977, 0, none⟩ = some (.int .i64 a0_0) := (blk_cell BK977.out 0).trans rfl; have hcz8_1 : w5.cell? ⟨gb977, 1, none⟩ = some (.int .i64 a0_1) := (blk_cell BK977.out 1).trans rfl; have hcz8_2 : w5.cell? ⟨gb977, 2, none⟩ = some (.int .i64 a0_2) := (blk_cell BK977.out 2).trans rfl; have hcz8_3 : w5.cell? ⟨gb977, 3, none⟩ = some (.int .i64 a0_3) := (blk_cell BK977.out 3).trans rfl; have hcz8_4 : w5.cell? ⟨gb977, 4, none⟩ = some (.slice A0_4 l0_4.length c0_4) := (blk_cell BK977.out 4).trans rfl; have hfz8_0 := blk_frozen BK977.out 0; have hfz8_1 := blk_frozen BK977.out 1; have hfz8_2 := blk_frozen BK977.out 2; have hfz8_3 := blk_frozen BK977.out 3; have hfz8_4 := blk_frozen BK977.out 4) | ((with_reducible refine gate_builtin (b := .append) (xs := #[.tmp 3, .tmp 5]) rfl ?_); at_builtin; refine Kd.R_append_rows k_Mark (w0 := w) w.heap.size rfl (.tmp 3) (.tmp 5) 52 118 (.agg #[(.int .i64 0), (.int .i64 0)]) 16 rfl Try.underlying52 info118 rfl (by decide) (by omega) v980 y979 l0_4 _ _ _ (fun _ => True) (fun _ => False) rfl rfl ?aO ?aR (fun _ _ h => h) (fun _ h => h.elim) ?aF ?aB ?aS ?aL ?_; (case aR => repeat (first | exact (Kd.C_below HR0_4.out HB.out) | (with_reducible refine Kd.C_alloc ?_ _) | (with_reducible refine Kd.C_drewN ?_ _) | (with_reducible refine Kd.C_drew ?_))); (case aB => exact (by repeat (first | (with_reducible first | exact HB.out | apply below_alloc | apply pw_below_drewN | apply below_drew1 | refine below_set ?_ GE977.out | refine below_set ?_ GE978.out) | exact HB.out))); (case aF => exact (fun _ _ => trivial)); (case aO => exact (by (with_reducible repeat (first | apply Kd.R_alloc | apply Kd.R_drewN | apply Kd.R_drew)); exact HO981.out)); (case aS => exact (below_size (by repeat (first | (with_reducible first | exact HB.out | apply below_alloc | apply pw_below_drewN | apply below_drew1 | refine below_set ?_ GE977.out | refine below_set ?_ GE978.out) | exact HB.out)))); (case aL => have := LMc2.out; omega); intro v983 w9 ho hb hg hat; rw [← Ny982.out] at ho; have n0_ := Aside0.mk (blk_grown (g := gb977) (o := .cells #[.int .i64 a0_0, .int .i64 a0_1, .int .i64 a0_2, .int .i64 a0_3, .slice A0_4 l0_4.length c0_4] 54 (0, 0)) (by (with_reducible repeat (first | refine blk_drewN ?_ _ | refine blk_drew ?_ | refine blk_alloc ?_ _)); exact BK977.out) hg (Kd.R_ne HO981.out BK977.out (by decide))); have n1_ := Aside0.mk (blk_grown (g := gb978) (o := .cells #[.int .i64 0, .int .i64 0, .int .i64 0, .int .i64 0, .slice none 0 0] 54 (0, 0)) (by (with_reducible repeat (first | refine blk_drewN ?_ _ | refine blk_drew ?_ | refine blk_alloc ?_ _)); exact BK978.out) hg (Kd.R_ne HO981.out BK978.out (by decide))); have n2_ := Aside0.mk (hb); have n3_ := Aside0.mk (ho); clear BK977; clear BK978; clear HB; clear HO981; have BK977 := n0_; have BK978 := n1_; have HB := n2_; have HO984 := n3_; clear n0_ n1_ n2_ n3_; clear ho hb hg hat; obtain ⟨Ao10, co10, eo10⟩ := Kd.R_slice HO984.out; subst eo10; have hcz11_0 : w9.cell? ⟨gb977, 0, none⟩ = some (.int .i64 a0_0) := (blk_cell BK977.out 0).trans rfl; have hcz11_1 : w9.cell? ⟨gb977, 1, none⟩ = some (.int .i64 a0_1) := (blk_cell BK977.out 1).trans rfl; have hcz11_2 : w9.cell? ⟨gb977, 2, none⟩ = some (.int .i64 a0_2) := (blk_cell BK977.out 2).trans rfl; have hcz11_3 : w9.cell? ⟨gb977, 3, none⟩ = some (.int .i64 a0_3) := (blk_cell BK977.out 3).trans rfl; have hcz11_4 : w9.cell? ⟨gb977, 4, none⟩ = some (.slice A0_4 l0_4.length c0_4) := (blk_cell BK977.out 4).trans rfl; have hfz11_0 := blk_frozen BK977.out 0; have hfz11_1 := blk_frozen BK977.out 1; have hfz11_2 := blk_frozen BK977.out 2; have hfz11_3 := blk_frozen BK977.out 3; have hfz11_4 := blk_frozen BK977.out 4; have hcz12_0 : w9.cell? ⟨gb978, 0, none⟩ = some (.int .i64 0) := (blk_cell BK978.out 0).trans rfl; have hcz12_1 : w9.cell? ⟨gb978, 1, none⟩ = some (.int .i64 0) := (blk_cell BK978.out 1).trans rfl; have hcz12_2 : w9.cell? ⟨gb978, 2, none⟩ = some (.int .i64 0) := (blk_cell BK978.out 2).trans rfl; have hcz12_3 : w9.cell? ⟨gb978, 3, none⟩ = some (.int .i64 0) := (blk_cell BK978.out 3).trans rfl; have hcz12_4 : w9.cell? ⟨gb978, 4, none⟩ = some (.slice none 0 0) := (blk_cell BK978.out 4).trans rfl; have hfz12_0 := blk_frozen BK978.out 0; have hfz12_1 := blk_frozen BK978.out 1; have hfz12_2 := blk_frozen BK978.out 2; have hfz12_3 := blk_frozen BK978.out 3; have hfz12_4 := blk_frozen BK978.out 4))
    refine bodyPost_ret (results_cell_row rfl _ _ gb978 54 #[.int .i64 a0_0, .int .i64 a0_1, .int .i64 a0_2, .int .i64 a0_3, .slice Ao10 y982.length co10] (0, 0) _ rfl (by (with_reducible repeat (first | refine blk_drewN ?_ _ | refine blk_drew ?_ | refine blk_alloc ?_ _)); refine blk_put (cs := #[.int .i64 a0_0, .int .i64 a0_1, .int .i64 a0_2, .int .i64 a0_3, .slice none 0 0]) ?_ 4 _ rfl; (with_reducible repeat (first | refine blk_drewN ?_ _ | refine blk_drew ?_ | refine blk_alloc ?_ _)); refine blk_put (cs := #[.int .i64 a0_0, .int .i64 a0_1, .int .i64 a0_2, .int .i64 0, .slice none 0 0]) ?_ 3 _ rfl; (with_reducible repeat (first | refine blk_drewN ?_ _ | refine blk_drew ?_ | refine blk_alloc ?_ _)); refine blk_put (cs := #[.int .i64 a0_0, .int .i64 a0_1, .int .i64 0, .int .i64 0, .slice none 0 0]) ?_ 2 _ rfl; (with_reducible repeat (first | refine blk_drewN ?_ _ | refine blk_drew ?_ | refine blk_alloc ?_ _)); refine blk_put (cs := #[.int .i64 a0_0, .int .i64 0, .int .i64 0, .int .i64 0, .slice none 0 0]) ?_ 1 _ rfl; (with_reducible repeat (first | refine blk_drewN ?_ _ | refine blk_drew ?_ | refine blk_alloc ?_ _)); refine blk_put (cs := #[.int .i64 0, .int .i64 0, .int .i64 0, .int .i64 0, .slice none 0 0]) ?_ 0 _ rfl; (with_reducible repeat (first | refine blk_drewN ?_ _ | refine blk_drew ?_ | refine blk_alloc ?_ _)); refine blk_far ?_ NB978_977.out _; (with_reducible repeat (first | refine blk_drewN ?_ _ | refine blk_drew ?_ | refine blk_alloc ?_ _)); exact BK978.out) Try.underlying54 rfl (by kernel_rfl)) rfl ?_
    exact ⟨_, by first | rfl | (simp [errW_none, errW_some] <;> rfl) | (simp [*, errW_none, errW_some] <;> rfl), by (with_reducible repeat (first | apply Kd.R_alloc | apply Kd.R_drewN | apply Kd.R_drew)); exact Kd.R_mono (Kd.R_far (p := ⟨gb978, 4, none⟩) (Kd.R_far (p := ⟨gb978, 3, none⟩) (Kd.R_far (p := ⟨gb978, 2, none⟩) (Kd.R_far (p := ⟨gb978, 1, none⟩) (Kd.R_far (p := ⟨gb978, 0, none⟩) (Kd.R_far (p := ⟨gb977, 4, none⟩) (Kd.R_types (Kd.R_types HO984.out BK977.out (by decide)) BK978.out (by decide)) (fun _ hk => hk.1.2) (.slice Ao10 y982.length co10)) (fun _ hk => hk.2) (.int .i64 a0_0)) (fun _ hk => hk.2) (.int .i64 a0_1)) (fun _ hk => hk.2) (.int .i64 a0_2)) (fun _ hk => hk.2) (.int .i64 a0_3)) (fun _ hk => hk.2) (.slice Ao10 y982.length co10)) (fun _ hk => trivial), by repeat (first | (with_reducible first | exact HB.out | apply below_alloc | apply pw_below_drewN | apply below_drew1 | refine below_set ?_ GE977.out | refine below_set ?_ GE978.out) | exact HB.out)⟩
  · rw [if_neg c2] at H
    exact absurd H (by simp)

/-! ### impl_copyMaker: function 109 -/
def impl_copyMaker.f (a0_0 : Int) (a0_1 : Int) (a0_2 : Int) (a0_3 : Int) (l0_4 : List (S_Mark)) : Option (Int × Int × Int × Int × (List (S_Mark))) := if ([] : List (S_Mark)).length + l0_4.length < 8796093022208 then (some (a0_0, a0_1, a0_2, a0_3, (([] : List (S_Mark)) ++ l0_4))) else (none)
set_option maxHeartbeats 8000000 in
set_option maxRecDepth 100000 in
theorem impl_copyMaker.calls (a0_0 : Int) (a0_1 : Int) (a0_2 : Int) (a0_3 : Int) (A0_4 : Option Addr) (c0_4 : Nat) (l0_4 : List (S_Mark)) (r1 : Int) (r2 : Int) (r3 : Int) (r4 : Int) (r5 : List (S_Mark)) (w : World) (hr0_4 : Kd.C k_Mark w A0_4 l0_4.length l0_4) (hc0_4 : l0_4.length ≤ c0_4) (h : impl_copyMaker.f a0_0 a0_1 a0_2 a0_3 l0_4 = some (r1, r2, r3, r4, r5)) :
    Calls Try.prog 109 #[.agg #[.int .i64 a0_0, .int .i64 a0_1, .int .i64 a0_2, .int .i64 a0_3, .slice A0_4 l0_4.length c0_4]] w fun e w' => ∃ v4_ : Value, e = .returned (.agg #[.int .i64 r1, .int .i64 r2, .int .i64 r3, .int .i64 r4, v4_]) ∧ Kd.R k_Mark 118 w' w.heap.size (fun _ => True) v4_ r5 ∧ Below w.heap.size w w' := by
  have hu54 := Try.underlying54
  have HR0_4 := Aside0.mk hr0_4
  have HC0_4 := Aside0.mk hc0_4
  clear hr0_4 hc0_4
  have HB := Aside0.mk (Below.refl w.heap.size w)
  have H : (if ([] : List (S_Mark)).length + l0_4.length < 8796093022208 then (some (a0_0, a0_1, a0_2, a0_3, (([] : List (S_Mark)) ++ l0_4))) else (none)) = some (r1, r2, r3, r4, r5) := h
  clear h
  by_cases c2 : ([] : List (S_Mark)).length + l0_4.length < 8796093022208
  · rw [if_pos c2] at H
    have LMc2 := Aside0.mk c2
    clear c2
    obtain ⟨y1010, hy1010⟩ : ∃ y_ : List (S_Mark), y_ = (([] : List (S_Mark)) ++ l0_4) := ⟨_, rfl⟩
    replace H : (some (a0_0, a0_1, a0_2, a0_3, y1010)) = some (r1, r2, r3, r4, r5) := by first | (rw [hy1010]; with_reducible exact H) | (have H2_ := (Option.bind_some _ _).symm.trans H; rw [hy1010]; with_reducible exact H2_) | (have H2_ := (Option.bind_some _ _).symm.trans H; with_reducible exact H2_) | with_reducible exact H | (rw [hy1010]; exact H) | exact H
    have Ny1010 := Aside0.mk hy1010
    clear hy1010
    simp only [Option.some.injEq, Prod.mk.injEq] at H
    obtain ⟨rfl, rfl, rfl, rfl, rfl⟩ := H
    go_enter Try.func109, Try.ntmps109
    go_wp2_with (first | ((with_reducible refine gate_dst (N := 1) rfl ?_); refine box_event ?hg (N := 1) ?hd (cs := #[.int .i64 a0_0, .int .i64 a0_1, .int .i64 a0_2, .int .i64 a0_3, .slice A0_4 l0_4.length c0_4]) (t := 54) ?hr ?_; (case hd => rfl); (case hg => rfl); (case hr => first | (go_simp; done) | (go_simp; rfl)); intro gb1008 hg w3 hbox hb; have n0_ := Aside0.mk (below_step (by repeat (first | (with_reducible first | exact HB.out | apply below_alloc | apply pw_below_drewN | apply below_drew1) | exact HB.out)) hb); have n1_ := Aside0.mk (hbox); have n2_ := Aside0.mk ((by rw [hg]; exact (below_size (by repeat (first | (with_reducible first | exact HB.out | apply below_alloc | apply pw_below_drewN | apply below_drew1) | exact HB.out))) : w.heap.size ≤ gb1008)); have n3_ := Aside0.mk ((by rw [hg]; exact (below_size (by repeat (first | (with_reducible first | exact HB.out | apply below_alloc | apply pw_below_drewN | apply below_drew1) | exact HB.out))) : w.heap.size ≤ gb1008)); clear HB; have HB := n0_; have BK1008 := n1_; have GW1008 := n2_; have GE1008 := n3_; clear n0_ n1_ n2_ n3_; clear hb hbox hg) | ((with_reducible refine gate_dst (N := 2) rfl ?_); refine box_event ?hg (N := 2) ?hd (cs := #[.int .i64 0, .int .i64 0, .int .i64 0, .int .i64 0, .slice none 0 0]) (t := 54) ?hr ?_; (case hd => rfl); (case hg => rfl); (case hr => first | (go_simp; done) | (go_simp; rfl)); intro gb1009 hg w4 hbox hb; have n0_ := Aside0.mk (blk_below (g := gb1008) (o := .cells #[.int .i64 a0_0, .int .i64 a0_1, .int .i64 a0_2, .int .i64 a0_3, .slice A0_4 l0_4.length c0_4] 54 (0, 0)) (by (with_reducible repeat (first | refine blk_drewN ?_ _ | refine blk_drew ?_ | refine blk_alloc ?_ _)); exact BK1008.out) hb); have n1_ := Aside0.mk (below_step (by repeat (first | (with_reducible first | exact HB.out | apply below_alloc | apply pw_below_drewN | apply below_drew1 | refine below_set ?_ GE1008.out) | exact HB.out)) hb); have n2_ := Aside0.mk (hbox); have n3_ := Aside0.mk ((by rw [hg]; exact (below_size (by repeat (first | (with_reducible first | exact HB.out | apply below_alloc | apply pw_below_drewN | apply below_drew1 | refine below_set ?_ GE1008.out) | exact HB.out))) : w.heap.size ≤ gb1009)); have n4_ := Aside0.mk ((by rw [hg]; exact (below_size (by repeat (first | (with_reducible first | exact HB.out | apply below_alloc | apply pw_below_drewN | apply below_drew1 | refine below_set ?_ GE1008.out) | exact HB.out))) : w.heap.size ≤ gb1009)); have n5_ := Aside0.mk ((by rw [hg]; exact Nat.ne_of_lt (blk_lt (g := gb1008) (o := .cells #[.int .i64 a0_0, .int .i64 a0_1, .int .i64 a0_2, .int .i64 a0_3, .slice A0_4 l0_4.length c0_4] 54 (0, 0)) (by (with_reducible repeat (first | refine blk_drewN ?_ _ | refine blk_drew ?_ | refine blk_alloc ?_ _)); exact BK1008.out)) : gb1008 ≠ gb1009)); have n6_ := Aside0.mk ((by rw [hg]; exact Nat.ne_of_gt (blk_lt (g := gb1008) (o := .cells #[.int .i64 a0_0, .int .i64 a0_1, .int .i64 a0_2, .int .i64 a0_3, .slice A0_4 l0_4.length c0_4] 54 (0, 0)) (by (with_reducible repeat (first | refine blk_drewN ?_ _ | refine blk_drew ?_ | refine blk_alloc ?_ _)); exact BK1008.out)) : gb1009 ≠ gb1008)); clear BK1008; clear HB; have BK1008 := n0_; have HB := n1_; have BK1009 := n2_; have GW1009 := n3_; have GE1009 := n4_; have NB1008_1009 := n5_; have NB1009_1008 := n6_; clear n0_ n1_ n2_ n3_ n4_ n5_ n6_; clear hb hbox hg; have hnb5 := NB1008_1009.out; have hnc5 := NB1009_1008.out; have hcz6_0 : w4.cell? ⟨gb1008, 0, none⟩ = some (.int .i64 a0_0) := (blk_cell BK1008.out 0).trans rfl; have hcz6_1 : w4.cell? ⟨gb1008, 1, none⟩ = some (.int .i64 a0_1) := (blk_cell BK1008.out 1).trans rfl; have hcz6_2 : w4.cell? ⟨gb1008, 2, none⟩ = some (.int .i64 a0_2) := (blk_cell BK1008.out 2).trans rfl; have hcz6_3 : w4.cell? ⟨gb1008, 3, none⟩ = some (.int .i64 a0_3) := (blk_cell BK1008.out 3).trans rfl; have hcz6_4 : w4.cell? ⟨gb1008, 4, none⟩ = some (.slice A0_4 l0_4.length c0_4) := (blk_cell BK1008.out 4).trans rfl; have hfz6_0 := blk_frozen BK1008.out 0; have hfz6_1 := blk_frozen BK1008.out 1; have hfz6_2 := blk_frozen BK1008.out 2; have hfz6_3 := blk_frozen BK1008.out 3; have hfz6_4 := blk_frozen BK1008.out 4) | ((with_reducible refine gate_builtin (b := .append) (xs := #[.const (.slice none 0 0), .tmp 4]) rfl ?_); at_builtin; refine Kd.R_append_rows k_Mark (w0 := w) w.heap.size rfl (.const (.slice none 0 0)) (.tmp 4) 52 118 (.agg #[(.int .i64 0), (.int .i64 0)]) 16 rfl Try.underlying52 info118 rfl (by decide) (by omega) (.slice none 0 0) ([] : List (S_Mark)) l0_4 _ _ _ (fun _ => True) (fun _ => False) rfl rfl ?aO ?aR (fun _ _ h => h) (fun _ h => h.elim) ?aF ?aB ?aS ?aL ?_; (case aR => repeat (first | exact (Kd.C_below HR0_4.out HB.out) | (with_reducible refine Kd.C_alloc ?_ _) | (with_reducible refine Kd.C_drewN ?_ _) | (with_reducible refine Kd.C_drew ?_))); (case aB => exact (by repeat (first | (with_reducible first | exact HB.out | apply below_alloc | apply pw_below_drewN | apply below_drew1 | refine below_set ?_ GE1008.out | refine below_set ?_ GE1009.out) | exact HB.out))); (case aF => exact (fun _ _ => trivial)); (case aO => exact ((Kd.R_nil _ _ _ _ (fun _ => True)))); (case aS => exact (below_size (by repeat (first | (with_reducible first | exact HB.out | apply below_alloc | apply pw_below_drewN | apply below_drew1 | refine below_set ?_ GE1008.out | refine below_set ?_ GE1009.out) | exact HB.out)))); (case aL => have := LMc2.out; omega); intro v1011 w7 ho hb hg hat; rw [← Ny1010.out] at ho; have n0_ := Aside0.mk (blk_grown (g := gb1008) (o := .cells #[.int .i64 a0_0, .int .i64 a0_1, .int .i64 a0_2, .int .i64 a0_3, .slice A0_4 l0_4.length c0_4] 54 (0, 0)) (by (with_reducible repeat (first | refine blk_drewN ?_ _ | refine blk_drew ?_ | refine blk_alloc ?_ _)); exact BK1008.out) hg (by simp [Value.ownBlock])); have n1_ := Aside0.mk (blk_grown (g := gb1009) (o := .cells #[.int .i64 0, .int .i64 0, .int .i64 0, .int .i64 0, .slice none 0 0] 54 (0, 0)) (by (with_reducible repeat (first | refine blk_drewN ?_ _ | refine blk_drew ?_ | refine blk_alloc ?_ _)); exact BK1009.out) hg (by simp [Value.ownBlock])); have n2_ := Aside0.mk (hb); have n3_ := Aside0.mk (ho); clear BK1008; clear BK1009; clear HB; have BK1008 := n0_; have BK1009 := n1_; have HB := n2_; have HO1012 := n3_; clear n0_ n1_ n2_ n3_; clear ho hb hg hat; obtain ⟨Ao8, co8, eo8⟩ := Kd.R_slice HO1012.out; subst eo8; have hcz9_0 : w7.cell? ⟨gb1008, 0, none⟩ = some (.int .i64 a0_0) := (blk_cell BK1008.out 0).trans rfl; have hcz9_1 : w7.cell? ⟨gb1008, 1, none⟩ = some (.int .i64 a0_1) := (blk_cell BK1008.out 1).trans rfl; have hcz9_2 : w7.cell? ⟨gb1008, 2, none⟩ = some (.int .i64 a0_2) := (blk_cell BK1008.out 2).trans rfl; have hcz9_3 : w7.cell? ⟨gb1008, 3, none⟩ = some (.int .i64 a0_3) := (blk_cell BK1008.out 3).trans rfl; have hcz9_4 : w7.cell? ⟨gb1008, 4, none⟩ = some (.slice A0_4 l0_4.length c0_4) := (blk_cell BK1008.out 4).trans rfl; have hfz9_0 := blk_frozen BK1008.out 0; have hfz9_1 := blk_frozen BK1008.out 1; have hfz9_2 := blk_frozen BK1008.out 2; have hfz9_3 := blk_frozen BK1008.out 3; have hfz9_4 := blk_frozen BK1008.out 4; have hcz10_0 : w7.cell? ⟨gb1009, 0, none⟩ = some (.int .i64 0) := (blk_cell BK1009.out 0).trans rfl; have hcz10_1 : w7.cell? ⟨gb1009, 1, none⟩ = some (.int .i64 0) := (blk_cell BK1009.out 1).trans rfl; have hcz10_2 : w7.cell? ⟨gb1009, 2, none⟩ = some (.int .i64 0) := (blk_cell BK1009.out 2).trans rfl; have hcz10_3 : w7.cell? ⟨gb1009, 3, none⟩ = some (.int .i64 0) := (blk_cell BK1009.out 3).trans rfl; have hcz10_4 : w7.cell? ⟨gb1009, 4, none⟩ = some (.slice none 0 0) := (blk_cell BK1009.out 4).trans rfl; have hfz10_0 := blk_frozen BK1009.out 0; have hfz10_1 := blk_frozen BK1009.out 1; have hfz10_2 := blk_frozen BK1009.out 2; have hfz10_3 := blk_frozen BK1009.out 3; have hfz10_4 := blk_frozen BK1009.out 4))
    refine bodyPost_ret (results_cell_row rfl _ _ gb1009 54 #[.int .i64 a0_0, .int .i64 a0_1, .int .i64 a0_2, .int .i64 a0_3, .slice Ao8 y1010.length co8] (0, 0) _ rfl (by (with_reducible repeat (first | refine blk_drewN ?_ _ | refine blk_drew ?_ | refine blk_alloc ?_ _)); refine blk_put (cs := #[.int .i64 a0_0, .int .i64 a0_1, .int .i64 a0_2, .int .i64 a0_3, .slice none 0 0]) ?_ 4 _ rfl; (with_reducible repeat (first | refine blk_drewN ?_ _ | refine blk_drew ?_ | refine blk_alloc ?_ _)); refine blk_put (cs := #[.int .i64 a0_0, .int .i64 a0_1, .int .i64 a0_2, .int .i64 0, .slice none 0 0]) ?_ 3 _ rfl; (with_reducible repeat (first | refine blk_drewN ?_ _ | refine blk_drew ?_ | refine blk_alloc ?_ _)); refine blk_put (cs := #[.int .i64 a0_0, .int .i64 a0_1, .int .i64 0, .int .i64 0, .slice none 0 0]) ?_ 2 _ rfl; (with_reducible repeat (first | refine blk_drewN ?_ _ | refine blk_drew ?_ | refine blk_alloc ?_ _)); refine blk_put (cs := #[.int .i64 a0_0, .int .i64 0, .int .i64 0, .int .i64 0, .slice none 0 0]) ?_ 1 _ rfl; (with_reducible repeat (first | refine blk_drewN ?_ _ | refine blk_drew ?_ | refine blk_alloc ?_ _)); refine blk_put (cs := #[.int .i64 0, .int .i64 0, .int .i64 0, .int .i64 0, .slice none 0 0]) ?_ 0 _ rfl; (with_reducible repeat (first | refine blk_drewN ?_ _ | refine blk_drew ?_ | refine blk_alloc ?_ _)); refine blk_far ?_ NB1009_1008.out _; (with_reducible repeat (first | refine blk_drewN ?_ _ | refine blk_drew ?_ | refine blk_alloc ?_ _)); exact BK1009.out) Try.underlying54 rfl (by kernel_rfl)) rfl ?_
    exact ⟨_, by first | rfl | (simp [errW_none, errW_some] <;> rfl) | (simp [*, errW_none, errW_some] <;> rfl), by (with_reducible repeat (first | apply Kd.R_alloc | apply Kd.R_drewN | apply Kd.R_drew)); exact Kd.R_mono (Kd.R_far (p := ⟨gb1009, 4, none⟩) (Kd.R_far (p := ⟨gb1009, 3, none⟩) (Kd.R_far (p := ⟨gb1009, 2, none⟩) (Kd.R_far (p := ⟨gb1009, 1, none⟩) (Kd.R_far (p := ⟨gb1009, 0, none⟩) (Kd.R_far (p := ⟨gb1008, 4, none⟩) (Kd.R_types (Kd.R_types HO1012.out BK1008.out (by decide)) BK1009.out (by decide)) (fun _ hk => hk.1.2) (.slice Ao8 y1010.length co8)) (fun _ hk => hk.2) (.int .i64 a0_0)) (fun _ hk => hk.2) (.int .i64 a0_1)) (fun _ hk => hk.2) (.int .i64 a0_2)) (fun _ hk => hk.2) (.int .i64 a0_3)) (fun _ hk => hk.2) (.slice Ao8 y1010.length co8)) (fun _ hk => trivial), by repeat (first | (with_reducible first | exact HB.out | apply below_alloc | apply pw_below_drewN | apply below_drew1 | refine below_set ?_ GE1008.out | refine below_set ?_ GE1009.out) | exact HB.out)⟩
  · rw [if_neg c2] at H
    exact absurd H (by simp)
/-! ### laws_markMarkS: function 111 -/
def laws_markMarkS.l0 : Nat → List (S_Mark) → Int → Int → Option (Int × (List (S_Mark)))
  | 0, _, _, _ => none
  | k + 1, x0, x1, x5 => if x5 < (x0.length : Int) then (if 0 ≤ x5 then ((some (x0.set (x5 : Int).toNat (⟨x1, (rd_Mark x0 x5).f1⟩ : S_Mark) : List (S_Mark))).bind fun y1026 => (laws_markMarkS.l0 k (y1026.set (x5 : Int).toNat (⟨(rd_Mark y1026 x5).f0, wrap64 (x1 + 1)⟩ : S_Mark)) (wrap64 ((wrap64 (x1 + 1)) + 1)) (wrap64 (x5 + 1)))) else (none)) else (some (x1, x0))
def laws_markMarkS.f (k : Nat) (l0 : List (S_Mark)) (a1 : Int) : Option (Int × (List (S_Mark))) := laws_markMarkS.l0 k l0 a1 0
theorem laws_markMarkS.mono_l : ∀ k, (∀ y0 y1 y2, LeO (laws_markMarkS.l0 k y0 y1 y2) (laws_markMarkS.l0 (k + 1) y0 y1 y2))
  | 0 => fun _ _ _ r h => by simp [laws_markMarkS.l0] at h
  | k + 1 => by
    have ih0 := laws_markMarkS.mono_l k
    · intro y0 y1 y2
      unfold laws_markMarkS.l0
      repeat' first
      | (with_reducible exact ih0 _ _ _)
      | (with_reducible exact LeO.refl _)
      | (with_reducible exact LeO.none _)
      | (with_reducible refine LeO.ite ?_ ?_)
      | (with_reducible refine LeO.bind ?_ (fun _ => ?_))
      | exact ih0 _ _ _
      | exact LeO.none _
      | refine LeO.ite ?_ ?_
      | refine LeO.bind ?_ (fun _ => ?_)
theorem laws_markMarkS.mono : ∀ a0 a1 k, LeO (laws_markMarkS.f k a0 a1) (laws_markMarkS.f (k + 1) a0 a1) := by
  intro a0 a1 k
  have ih0 := laws_markMarkS.mono_l k
  unfold laws_markMarkS.f
  repeat' first
      | (with_reducible exact ih0 _ _ _)
      | (with_reducible exact LeO.refl _)
      | (with_reducible exact LeO.none _)
      | (with_reducible refine LeO.ite ?_ ?_)
      | (with_reducible refine LeO.bind ?_ (fun _ => ?_))
      | exact ih0 _ _ _
      | exact LeO.none _
      | refine LeO.ite ?_ ?_
      | refine LeO.bind ?_ (fun _ => ?_)
set_option maxHeartbeats 8000000 in
set_option maxRecDepth 100000 in
theorem laws_markMarkS.calls (k : Nat) (P0_ : Nat → Prop) (u9000_ : Value) (l0 : List (S_Mark)) (a1 : Int) (r1 : Int) (r2 : List (S_Mark)) (w0 w : World) (hB : Below w0.heap.size w0 w) (ho0 : Kd.R k_Mark 118 w w0.heap.size P0_ u9000_ l0) (h : laws_markMarkS.f k l0 a1 = some (r1, r2)) :
    Calls Try.prog 111 #[u9000_, .int .i64 a1] w fun e w' => e = .returned (.int .i64 r1) ∧ Kd.R k_Mark 118 w' w0.heap.size (fun k_ => (P0_ k_ ∨ w.heap.size ≤ k_)) u9000_ r2 ∧ Below w0.heap.size w0 w' ∧ Kept w w' (fun k_ => P0_ k_) := by
  have HO0 := Aside0.mk (show Kd.R k_Mark 118 w w0.heap.size (fun k_ => (P0_ k_ ∨ w.heap.size ≤ k_)) u9000_ l0 from Kd.R_mono ho0 (fun k_ hk => (.inl hk)))
  have HK := Aside0.mk (Kept.refl w (fun k_ => P0_ k_))
  have HW0 := Aside0.mk hB.size
  have HB := Aside0.mk hB
  clear hB
  have H : (laws_markMarkS.l0 k l0 a1 0) = some (r1, r2) := h
  clear h
  have H' := Aside0.mk H
  clear H
  go_enter Try.func111, Try.ntmps111
  go_wp2
  go_loopg [1, 5] k (fun kq v1 v5 w' => ∃ (x0_1 : List (S_Mark)) (x1_1 : Int) (x5_1 : Int), v1 = .int .i64 x1_1 ∧ v5 = .int .i64 x5_1 ∧ Aside0 (laws_markMarkS.l0 kq x0_1 x1_1 x5_1 = some (r1, r2)) ∧ Aside0 (kq ≤ k) ∧ Aside0 (Kd.R k_Mark 118 w' w0.heap.size (fun k_ => (P0_ k_ ∨ w.heap.size ≤ k_)) u9000_ x0_1) ∧ Aside0 (Kept w w' (fun k_ => P0_ k_)) ∧ Aside0 (Below w0.heap.size w0 w'))
  case atStart => exact ⟨(l0), (a1), (0), (by first | rfl | (simp; done) | (simp [*]; done)), (by first | rfl | (simp; done) | (simp [*]; done)), H', ⟨Nat.le_refl _⟩, ⟨by (with_reducible repeat (first | apply Kd.R_alloc | apply Kd.R_drewN | apply Kd.R_drew)); exact HO0.out⟩, ⟨by repeat (first | (with_reducible first | exact HK.out | apply Kept.alloc | apply Kept.drewN | apply Kept.drew) | exact HK.out)⟩, ⟨by repeat (first | (with_reducible first | exact HB.out | apply below_alloc | apply pw_below_drewN | apply below_drew1) | exact HB.out)⟩⟩
  case round =>
    clear H'
    try clear c1
    try clear p2
    obtain ⟨x0_1, x1_1, x5_1, rfl, rfl, HA, HK1, HO_0, HK, HB⟩ := hrel
    cases gk with
    | zero => exact absurd HA.out (by simp [laws_markMarkS.l0])
    | succ k1 =>
      have H := HA.out
      clear HA
      simp only [laws_markMarkS.l0] at H
      by_cases c3 : x5_1 < (x0_1.length : Int)
      · rw [if_pos c3] at H
        have c3b0 : decide (x5_1 < (x0_1.length : Int)) = true := decide_eq_true c3
        clear c3
        by_cases c4 : 0 ≤ x5_1
        · rw [if_pos c4] at H
          have c4b0 : decide (0 ≤ x5_1) = true := decide_eq_true c4
          clear c4
          obtain ⟨y1026, hy1026⟩ : ∃ y_ : List (S_Mark), y_ = (x0_1.set (x5_1 : Int).toNat (⟨x1_1, (rd_Mark x0_1 x5_1).f1⟩ : S_Mark)) := ⟨_, rfl⟩
          replace H : (laws_markMarkS.l0 k1 (y1026.set (x5_1 : Int).toNat (⟨(rd_Mark y1026 x5_1).f0, wrap64 (x1_1 + 1)⟩ : S_Mark)) (wrap64 ((wrap64 (x1_1 + 1)) + 1)) (wrap64 (x5_1 + 1))) = some (r1, r2) := by first | (rw [hy1026]; with_reducible exact H) | (have H2_ := (Option.bind_some _ _).symm.trans H; rw [hy1026]; with_reducible exact H2_) | (have H2_ := (Option.bind_some _ _).symm.trans H; with_reducible exact H2_) | with_reducible exact H | (rw [hy1026]; exact H) | exact H
          have Ny1026 := Aside0.mk hy1026
          clear hy1026
          obtain ⟨y1027, hy1027⟩ : ∃ y_ : List (S_Mark), y_ = (y1026.set (x5_1 : Int).toNat (⟨(rd_Mark y1026 x5_1).f0, wrap64 (x1_1 + 1)⟩ : S_Mark)) := ⟨_, rfl⟩
          replace H : (laws_markMarkS.l0 k1 y1027 (wrap64 ((wrap64 (x1_1 + 1)) + 1)) (wrap64 (x5_1 + 1))) = some (r1, r2) := by first | (rw [hy1027]; with_reducible exact H) | (have H2_ := (Option.bind_some _ _).symm.trans H; rw [hy1027]; with_reducible exact H2_) | (have H2_ := (Option.bind_some _ _).symm.trans H; with_reducible exact H2_) | with_reducible exact H | (rw [hy1027]; exact H) | exact H
          have Ny1027 := Aside0.mk hy1027
          clear hy1027
          have H' := Aside0.mk H
          clear H
          obtain ⟨Ao7, co7, eo7⟩ := Kd.R_slice HO_0.out
          subst eo7
          have p5 : 0 ≤ (x5_1 : Int) := of_decide_eq_true (by first | (with_reducible assumption) | assumption)
          have q5 : (x5_1 : Int) < ((x0_1.length : Int) : Int) := of_decide_eq_true (by first | (with_reducible assumption) | assumption)
          obtain ⟨go5, co5, eo5, gb5, gl5, cl5, HG5⟩ := Kd.R_form HO_0.out (by omega)
          (first | cases eo5 | (injection eo5 with ea_ en_ ec_; (first | subst ea_ | (injection ea_ with ea_; subst ea_)); subst ec_; clear en_))
          have GB5 := Aside0.mk gb5
          have GG5 := Aside0.mk HG5
          clear gb5 gl5 HG5
          have HMgo5 := Aside0.mk (show (P0_ go5 ∨ w.heap.size ≤ go5) from (HO_0.out.1 _ rfl))
          obtain ⟨ce5, hcl5, hM5, hcc5, hfr5⟩ := Kd.R_elem HO_0.out z_Mark (x5_1 : Int) p5 q5
          obtain rfl := k_Mark_openM hM5
          have hx5_0 : wr.cell? ⟨go5, (x5_1 : Int).toNat * 2, none⟩ = some (.int .i64 ((rd_Mark x0_1 x5_1).f0)) := hcc5 0 _ rfl
          have hx5_1 : wr.cell? ⟨go5, (x5_1 : Int).toNat * 2 + 1, none⟩ = some (.int .i64 ((rd_Mark x0_1 x5_1).f1)) := hcc5 1 _ rfl
          have hf5_0 : wr.frozen? ⟨go5, (x5_1 : Int).toNat * 2, none⟩ = false := hfr5 0
          have hf5_1 : wr.frozen? ⟨go5, (x5_1 : Int).toNat * 2 + 1, none⟩ = false := hfr5 1
          clear hcl5 hcc5 hfr5 hM5
          replace p5 := eq_true p5
          replace q5 := eq_true q5
          have HX8 := Aside0.mk (show Kd.R k_Mark 118 wr w0.heap.size (fun k_ => (P0_ k_ ∨ w.heap.size ≤ k_)) (.slice (some ⟨go5, 0, none⟩) x0_1.length co7) x0_1 from (by (with_reducible repeat (first | apply Kd.R_alloc | apply Kd.R_drewN | apply Kd.R_drew)); exact HO_0.out))
          obtain ⟨ce8, hcl8, hM8, hcc8, hfr8⟩ := Kd.R_elem HX8.out z_Mark (x5_1 : Int) (of_decide_eq_true (by first | (with_reducible assumption) | assumption)) (by have h_ : (x5_1 : Int) < ((x0_1.length : Int) : Int) := of_decide_eq_true (by first | (with_reducible assumption) | assumption); first | exact h_ | (have e_ := (Kd.R_reads' HO_0.out).1; omega) | simpa using h_)
          obtain rfl := k_Mark_openM hM8
          have HP8 := Kd.R_seg HX8.out (x5_1 : Int) (of_decide_eq_true (by first | (with_reducible assumption) | assumption)) (by have h_ : (x5_1 : Int) < ((x0_1.length : Int) : Int) := of_decide_eq_true (by first | (with_reducible assumption) | assumption); first | exact h_ | (have e_ := (Kd.R_reads' HO_0.out).1; omega) | simpa using h_) (seg := [.int .i64 x1_1]) (j := 0) hcl8 hcc8 (show 1 ≤ 2 from by decide) (x' := (⟨x1_1, (rd_Mark x0_1 x5_1).f1⟩ : S_Mark)) (k_Mark_mkM _ _ _ (⟨x1_1, (rd_Mark x0_1 x5_1).f1⟩ : S_Mark) ) (fun _ hk => hk)
          have hx8_0 := hcc8 0 _ rfl
          (try simp only [show (k_Mark).sz = 2 from rfl, Nat.mul_one, Nat.add_zero] at hx8_0)
          have hf8_0 := hfr8 0
          (try simp only [show (k_Mark).sz = 2 from rfl, Nat.mul_one, Nat.add_zero] at hf8_0)
          clear hcl8 hcc8 hfr8 hM8
          go_wp2_with (first | ((with_reducible refine gate_store (t := 3) (p := 16) rfl ?_); refine store_event (t := 3) (p := 16) (v := ?vo_w9) (w1 := (wr.setCell ⟨go5, (x5_1 : Int).toNat * 2, none⟩ (.int .i64 x1_1))) ?hg ?ho ?hn ?hr ?_; (case ho => rfl); (case hg => rfl); (case hn => rfl); (case hr => first | (go_simp; done) | (go_simp; rfl)); intro w9 hw; have hg : wr.grownBy w9 (some go5) := (by rw [hw]; exact HP8.2); have hp_ : Kd.R k_Mark 118 w9 w0.heap.size (fun k_ => (P0_ k_ ∨ w.heap.size ≤ k_)) (.slice (some ⟨go5, 0, none⟩) x0_1.length co7) y1026 := (by rw [hw, Ny1026.out]; exact HP8.1); clear HP8; have n0_ := Aside0.mk (hp_); have n1_ := Aside0.mk ((by rw [hw]; exact below_set (HB.out) GB5.out : Below w0.heap.size w0 w9)); have n2_ := Aside0.mk (Kept.of_grown (S := (fun k_ => P0_ k_)) hg (by repeat (first | (with_reducible first | exact HK.out | apply Kept.alloc | apply Kept.drewN | apply Kept.drew) | exact HK.out)) (fun k_ e_ => (HO_0.out.1 k_ e_))); clear HO_0; clear HB; clear HK; have HO_0 := n0_; have HB := n1_; have HK := n2_; clear n0_ n1_ n2_; clear hg hw hp_; have p6 : 0 ≤ (x5_1 : Int) := of_decide_eq_true (by first | (with_reducible assumption) | assumption); have q6 : (x5_1 : Int) < ((x0_1.length : Int) : Int) := of_decide_eq_true (by first | (with_reducible assumption) | assumption); obtain ⟨ce6, hcl6, hM6, hcc6, hfr6⟩ := Kd.R_elem HO_0.out z_Mark (x5_1 : Int) p6 q6; obtain rfl := k_Mark_openM hM6; have hx6_0 : w9.cell? ⟨go5, (x5_1 : Int).toNat * 2, none⟩ = some (.int .i64 ((rd_Mark y1026 x5_1).f0)) := hcc6 0 _ rfl; have hx6_1 : w9.cell? ⟨go5, (x5_1 : Int).toNat * 2 + 1, none⟩ = some (.int .i64 ((rd_Mark y1026 x5_1).f1)) := hcc6 1 _ rfl; have hf6_0 : w9.frozen? ⟨go5, (x5_1 : Int).toNat * 2, none⟩ = false := hfr6 0; have hf6_1 : w9.frozen? ⟨go5, (x5_1 : Int).toNat * 2 + 1, none⟩ = false := hfr6 1; clear hcl6 hcc6 hfr6 hM6; replace p6 := eq_true p6; replace q6 := eq_true q6; have HX10 := Aside0.mk (show Kd.R k_Mark 118 w9 w0.heap.size (fun k_ => (P0_ k_ ∨ w.heap.size ≤ k_)) (.slice (some ⟨go5, 0, none⟩) x0_1.length co7) y1026 from (by (with_reducible repeat (first | apply Kd.R_alloc | apply Kd.R_drewN | apply Kd.R_drew)); exact HO_0.out)); obtain ⟨ce10, hcl10, hM10, hcc10, hfr10⟩ := Kd.R_elem HX10.out z_Mark (x5_1 : Int) (of_decide_eq_true (by first | (with_reducible assumption) | assumption)) (by have h_ : (x5_1 : Int) < ((x0_1.length : Int) : Int) := of_decide_eq_true (by first | (with_reducible assumption) | assumption); first | exact h_ | (have e_ := (Kd.R_reads' HO_0.out).1; omega) | simpa using h_); obtain rfl := k_Mark_openM hM10; have HP10 := Kd.R_seg HX10.out (x5_1 : Int) (of_decide_eq_true (by first | (with_reducible assumption) | assumption)) (by have h_ : (x5_1 : Int) < ((x0_1.length : Int) : Int) := of_decide_eq_true (by first | (with_reducible assumption) | assumption); first | exact h_ | (have e_ := (Kd.R_reads' HO_0.out).1; omega) | simpa using h_) (seg := [.int .i64 (wrap64 (x1_1 + 1))]) (j := 1) hcl10 hcc10 (show 2 ≤ 2 from by decide) (x' := (⟨(rd_Mark y1026 x5_1).f0, wrap64 (x1_1 + 1)⟩ : S_Mark)) (k_Mark_mkM _ _ _ (⟨(rd_Mark y1026 x5_1).f0, wrap64 (x1_1 + 1)⟩ : S_Mark) ) (fun _ hk => hk); have hx10_1 := hcc10 1 _ rfl; (try simp only [show (k_Mark).sz = 2 from rfl, Nat.mul_one, Nat.add_zero] at hx10_1); have hf10_1 := hfr10 1; (try simp only [show (k_Mark).sz = 2 from rfl, Nat.mul_one, Nat.add_zero] at hf10_1); clear hcl10 hcc10 hfr10 hM10) | ((with_reducible refine gate_store (t := 3) (p := 23) rfl ?_); refine store_event (t := 3) (p := 23) (v := ?vo_w11) (w1 := (w9.setCell ⟨go5, (x5_1 : Int).toNat * 2 + 1, none⟩ (.int .i64 (wrap64 (x1_1 + 1))))) ?hg ?ho ?hn ?hr ?_; (case ho => rfl); (case hg => rfl); (case hn => rfl); (case hr => first | (go_simp; done) | (go_simp; rfl)); intro w11 hw; have hg : w9.grownBy w11 (some go5) := (by rw [hw]; exact HP10.2); have hp_ : Kd.R k_Mark 118 w11 w0.heap.size (fun k_ => (P0_ k_ ∨ w.heap.size ≤ k_)) (.slice (some ⟨go5, 0, none⟩) x0_1.length co7) y1027 := (by rw [hw, Ny1027.out]; exact HP10.1); clear HP10; have n0_ := Aside0.mk (hp_); have n1_ := Aside0.mk ((by rw [hw]; exact below_set (HB.out) GB5.out : Below w0.heap.size w0 w11)); have n2_ := Aside0.mk (Kept.of_grown (S := (fun k_ => P0_ k_)) hg (by repeat (first | (with_reducible first | exact HK.out | apply Kept.alloc | apply Kept.drewN | apply Kept.drew) | exact HK.out)) (fun k_ e_ => (HO_0.out.1 k_ e_))); clear HO_0; clear HB; clear HK; have HO_0 := n0_; have HB := n1_; have HK := n2_; clear n0_ n1_ n2_; clear hg hw hp_))
          go_roundg k1
          case measure => have := HK1.out; omega
          case rel => exact ⟨(y1027), (wrap64 ((wrap64 (x1_1 + 1)) + 1)), (wrap64 (x5_1 + 1)), (by first | rfl | (simp; done) | (simp [*]; done)), (by first | rfl | (simp; done) | (simp [*]; done)), H', ⟨by have := HK1.out; omega⟩, ⟨by (with_reducible repeat (first | apply Kd.R_alloc | apply Kd.R_drewN | apply Kd.R_drew)); exact HO_0.out⟩, ⟨by repeat (first | (with_reducible first | exact HK.out | apply Kept.alloc | apply Kept.drewN | apply Kept.drew) | exact HK.out)⟩, ⟨by repeat (first | (with_reducible first | exact HB.out | apply below_alloc | apply pw_below_drewN | apply below_drew1) | exact HB.out)⟩⟩
        · rw [if_neg c4] at H
          exact absurd H (by simp)
      · rw [if_neg c3] at H
        have c3b0 : decide (x5_1 < (x0_1.length : Int)) = false := decide_eq_false c3
        clear c3
        simp only [Option.some.injEq, Prod.mk.injEq] at H
        obtain ⟨rfl, rfl⟩ := H
        obtain ⟨Ao12, co12, eo12⟩ := Kd.R_slice HO_0.out
        subst eo12
        go_wp2
        go_ret
        exact ⟨by first | rfl | (simp [errW_none, errW_some] <;> rfl) | (simp [*, errW_none, errW_some] <;> rfl), by (with_reducible repeat (first | apply Kd.R_alloc | apply Kd.R_drewN | apply Kd.R_drew)); exact HO_0.out, by repeat (first | (with_reducible first | exact HB.out | apply below_alloc | apply pw_below_drewN | apply below_drew1) | exact HB.out), by repeat (first | (with_reducible first | exact HK.out | apply Kept.alloc | apply Kept.drewN | apply Kept.drew) | exact HK.out)⟩

/-! ### laws_markMaker: function 69 -/
def laws_markMaker.f (k : Nat) (a0_0 : Int) (a0_1 : Int) (a0_2 : Int) (a0_3 : Int) (l0_4 : List (S_Mark)) (a1 : Int) : Option (Int × (List (S_Mark))) := (laws_markMarkS.f k l0_4 a1).bind fun bt1029 => (some (bt1029.1, bt1029.2))
theorem laws_markMaker.mono : ∀ a0 a1 a2 a3 a4 a5 k, LeO (laws_markMaker.f k a0 a1 a2 a3 a4 a5) (laws_markMaker.f (k + 1) a0 a1 a2 a3 a4 a5) := by
  intro a0 a1 a2 a3 a4 a5 k
  unfold laws_markMaker.f
  repeat' first
      | (with_reducible exact laws_markMarkS.mono _ _ _)
      | (with_reducible exact LeO.refl _)
      | (with_reducible exact LeO.none _)
      | (with_reducible refine LeO.ite ?_ ?_)
      | (with_reducible refine LeO.bind ?_ (fun _ => ?_))
      | exact laws_markMarkS.mono _ _ _
      | exact LeO.none _
      | refine LeO.ite ?_ ?_
      | refine LeO.bind ?_ (fun _ => ?_)
set_option maxHeartbeats 8000000 in
set_option maxRecDepth 100000 in
theorem laws_markMaker.calls (k : Nat) (a0_0 : Int) (a0_1 : Int) (a0_2 : Int) (a0_3 : Int) (P0_4_ : Nat → Prop) (u9000_ : Value) (l0_4 : List (S_Mark)) (a1 : Int) (r1 : Int) (r2 : List (S_Mark)) (w0 w : World) (hB : Below w0.heap.size w0 w) (ho0_4 : Kd.R k_Mark 118 w w0.heap.size P0_4_ u9000_ l0_4) (h : laws_markMaker.f k a0_0 a0_1 a0_2 a0_3 l0_4 a1 = some (r1, r2)) :
    Calls Try.prog 69 #[.agg #[.int .i64 a0_0, .int .i64 a0_1, .int .i64 a0_2, .int .i64 a0_3, u9000_], .int .i64 a1] w fun e w' => e = .returned (.int .i64 r1) ∧ Kd.R k_Mark 118 w' w0.heap.size (fun k_ => (P0_4_ k_ ∨ w.heap.size ≤ k_)) u9000_ r2 ∧ Below w0.heap.size w0 w' ∧ Kept w w' (fun k_ => P0_4_ k_) := by
  have hu54 := Try.underlying54
  have HO0_4 := Aside0.mk (show Kd.R k_Mark 118 w w0.heap.size (fun k_ => (P0_4_ k_ ∨ w.heap.size ≤ k_)) u9000_ l0_4 from Kd.R_mono ho0_4 (fun k_ hk => (.inl hk)))
  have HK := Aside0.mk (Kept.refl w (fun k_ => P0_4_ k_))
  have HW0 := Aside0.mk hB.size
  have HB := Aside0.mk hB
  clear hB
  have H : ((laws_markMarkS.f k l0_4 a1).bind fun bt1029 => (some (bt1029.1, bt1029.2))) = some (r1, r2) := h
  clear h
  replace H := Option.bind_eq_some_iff.mp H
  obtain ⟨⟨t1029, t1030⟩, A30, H⟩ := H
  replace H : (some (t1029, t1030)) = some (r1, r2) := H
  have A3 := Aside0.mk A30
  clear A30
  simp only [Option.some.injEq, Prod.mk.injEq] at H
  obtain ⟨rfl, rfl⟩ := H
  obtain ⟨Ao4, co4, eo4⟩ := Kd.R_slice HO0_4.out
  subst eo4
  go_enter Try.func69, Try.ntmps69
  go_wp2_with (first | ((with_reducible refine gate_dst (N := 2) rfl ?_); refine box_event ?hg (N := 2) ?hd (cs := #[.int .i64 a0_0, .int .i64 a0_1, .int .i64 a0_2, .int .i64 a0_3, .slice Ao4 l0_4.length co4]) (t := 54) ?hr ?_; (case hd => rfl); (case hg => rfl); (case hr => first | (go_simp; done) | (go_simp; rfl)); intro gb1028 hg w5 hbox hb; have n0_ := Aside0.mk (Kd.R_below (by (with_reducible repeat (first | apply Kd.R_alloc | apply Kd.R_drewN | apply Kd.R_drew)); exact HO0_4.out) hb); have n1_ := Aside0.mk (Kept.below (S := (fun k_ => P0_4_ k_)) (by repeat (first | (with_reducible first | exact HK.out | apply Kept.alloc | apply Kept.drewN | apply Kept.drew) | exact HK.out)) hb); have n2_ := Aside0.mk (below_step (by repeat (first | (with_reducible first | exact HB.out | apply below_alloc | apply pw_below_drewN | apply below_drew1) | exact HB.out)) hb); have n3_ := Aside0.mk (hbox); have n4_ := Aside0.mk ((by rw [hg]; exact (by first | exact HK.out.1 | exact (show Kept w _ (fun k_ => P0_4_ k_) from by repeat (first | (with_reducible first | exact HK.out | apply Kept.alloc | apply Kept.drewN | apply Kept.drew) | exact HK.out)).1) : w.heap.size ≤ gb1028)); have n5_ := Aside0.mk ((by rw [hg]; exact (below_size (by repeat (first | (with_reducible first | exact HB.out | apply below_alloc | apply pw_below_drewN | apply below_drew1) | exact HB.out))) : w0.heap.size ≤ gb1028)); clear HO0_4; clear HK; clear HB; have HO0_4 := n0_; have HK := n1_; have HB := n2_; have BK1028 := n3_; have GW1028 := n4_; have GE1028 := n5_; clear n0_ n1_ n2_ n3_ n4_ n5_; clear hb hbox hg; have hcz6_0 : w5.cell? ⟨gb1028, 0, none⟩ = some (.int .i64 a0_0) := (blk_cell BK1028.out 0).trans rfl; have hcz6_1 : w5.cell? ⟨gb1028, 1, none⟩ = some (.int .i64 a0_1) := (blk_cell BK1028.out 1).trans rfl; have hcz6_2 : w5.cell? ⟨gb1028, 2, none⟩ = some (.int .i64 a0_2) := (blk_cell BK1028.out 2).trans rfl; have hcz6_3 : w5.cell? ⟨gb1028, 3, none⟩ = some (.int .i64 a0_3) := (blk_cell BK1028.out 3).trans rfl; have hcz6_4 : w5.cell? ⟨gb1028, 4, none⟩ = some (.slice Ao4 l0_4.length co4) := (blk_cell BK1028.out 4).trans rfl; have hfz6_0 := blk_frozen BK1028.out 0; have hfz6_1 := blk_frozen BK1028.out 1; have hfz6_2 := blk_frozen BK1028.out 2; have hfz6_3 := blk_frozen BK1028.out 3; have hfz6_4 := blk_frozen BK1028.out 4) | ((with_reducible refine gate_callee (f := 111) rfl ?_); refine goesL_ (some 8) rfl rfl Try.func111 (by kernel_rfl) rfl #[.slice Ao4 l0_4.length co4, .int .i64 a1] rfl (by (try simp only [List.map_toArray, List.map_cons, List.map_nil]); first | done | rfl | (simp only [List.length_drop, List.length_take]; rfl)) ?_; (with_reducible refine (laws_markMarkS.calls k (fun k_ => some k_ = (.slice Ao4 l0_4.length co4 : Value).ownBlock) (.slice Ao4 l0_4.length co4) l0_4 a1 t1029 t1030 w0 _ ?side1 ?side2 A3.out).mono ?_); (case side1 => repeat (first | (with_reducible first | exact HB.out | apply below_alloc | apply pw_below_drewN | apply below_drew1 | refine below_set ?_ GE1028.out) | exact HB.out)); (case side2 => exact Kd.R_tight rfl HO0_4.out); rintro e w7 ⟨rfl, hy0, hb, hkp⟩; refine ⟨_, rfl, ?_⟩; have n0_ := Aside0.mk (Kd.R_reok rfl hy0 (fun k_ e_ => HO0_4.out.1 k_ e_)); have n1_ := Aside0.mk (blk_kept (by (with_reducible repeat (first | refine blk_drewN ?_ _ | refine blk_drew ?_ | refine blk_alloc ?_ _)); exact BK1028.out) hkp (fun hs_ => (fun e_ => (Kd.R_ne HO0_4.out BK1028.out (by decide)) e_) hs_)); have n2_ := Aside0.mk (Kept.then_ (S := (fun k_ => P0_4_ k_)) (by repeat (first | (with_reducible first | exact HK.out | apply Kept.alloc | apply Kept.drewN | apply Kept.drew | refine Kept.setCell ?_ (.inr GW1028.out) _) | exact HK.out)) hkp (fun k_ hs_ => (fun e_ => (HO0_4.out.1 k_ e_.symm)) hs_)); have n3_ := Aside0.mk (hb); clear HO0_4; clear BK1028; clear HK; clear HB; have HO0_4 := n0_; have BK1028 := n1_; have HK := n2_; have HB := n3_; clear n0_ n1_ n2_ n3_; (try clear hb); (try clear hkp); (try clear hy0)))
  go_ret
  exact ⟨by first | rfl | (simp [errW_none, errW_some] <;> rfl) | (simp [*, errW_none, errW_some] <;> rfl), by (with_reducible repeat (first | apply Kd.R_alloc | apply Kd.R_drewN | apply Kd.R_drew)); exact HO0_4.out, by repeat (first | (with_reducible first | exact HB.out | apply below_alloc | apply pw_below_drewN | apply below_drew1 | refine below_set ?_ GE1028.out) | exact HB.out), by repeat (first | (with_reducible first | exact HK.out | apply Kept.alloc | apply Kept.drewN | apply Kept.drew | refine Kept.setCell ?_ (.inr GW1028.out) _) | exact HK.out)⟩
/-! ### laws_heldMarkS: function 112 -/
def laws_heldMarkS.l0 : Nat → List (S_Mark) → Int → Int → Option (Int)
  | 0, _, _, _ => none
  | k + 1, x0, x1, x5 => if x5 < (x0.length : Int) then (if 0 ≤ x5 then (if ((rd_Mark x0 x5).f0) = x1 then (if ((rd_Mark x0 x5).f1) = (wrap64 (x1 + 1)) then (laws_heldMarkS.l0 k x0 (wrap64 ((wrap64 (x1 + 1)) + 1)) (wrap64 (x5 + 1))) else (some (-1))) else (some (-1))) else (none)) else (some x1)
def laws_heldMarkS.f (k : Nat) (l0 : List (S_Mark)) (a1 : Int) : Option (Int) := laws_heldMarkS.l0 k l0 a1 0
theorem laws_heldMarkS.mono_l : ∀ k, (∀ y0 y1 y2, LeO (laws_heldMarkS.l0 k y0 y1 y2) (laws_heldMarkS.l0 (k + 1) y0 y1 y2))
  | 0 => fun _ _ _ r h => by simp [laws_heldMarkS.l0] at h
  | k + 1 => by
    have ih0 := laws_heldMarkS.mono_l k
    · intro y0 y1 y2
      unfold laws_heldMarkS.l0
      repeat' first
      | (with_reducible exact ih0 _ _ _)
      | (with_reducible exact LeO.refl _)
      | (with_reducible exact LeO.none _)
      | (with_reducible refine LeO.ite ?_ ?_)
      | (with_reducible refine LeO.bind ?_ (fun _ => ?_))
      | exact ih0 _ _ _
      | exact LeO.none _
      | refine LeO.ite ?_ ?_
      | refine LeO.bind ?_ (fun _ => ?_)
theorem laws_heldMarkS.mono : ∀ a0 a1 k, LeO (laws_heldMarkS.f k a0 a1) (laws_heldMarkS.f (k + 1) a0 a1) := by
  intro a0 a1 k
  have ih0 := laws_heldMarkS.mono_l k
  unfold laws_heldMarkS.f
  repeat' first
      | (with_reducible exact ih0 _ _ _)
      | (with_reducible exact LeO.refl _)
      | (with_reducible exact LeO.none _)
      | (with_reducible refine LeO.ite ?_ ?_)
      | (with_reducible refine LeO.bind ?_ (fun _ => ?_))
      | exact ih0 _ _ _
      | exact LeO.none _
      | refine LeO.ite ?_ ?_
      | refine LeO.bind ?_ (fun _ => ?_)
set_option maxHeartbeats 8000000 in
set_option maxRecDepth 100000 in
theorem laws_heldMarkS.calls (k : Nat) (A0 : Option Addr) (c0 : Nat) (l0 : List (S_Mark)) (a1 : Int) (r : Int) (w : World) (hr0 : Kd.C k_Mark w A0 l0.length l0) (hc0 : l0.length ≤ c0) (h : laws_heldMarkS.f k l0 a1 = some r) :
    Calls Try.prog 112 #[.slice A0 l0.length c0, .int .i64 a1] w fun e w' => e = .returned (.int .i64 r) ∧ Drawn0 w w' := by
  have HR0 := Aside0.mk hr0
  have HC0 := Aside0.mk hc0
  clear hr0 hc0
  have H : (laws_heldMarkS.l0 k l0 a1 0) = some r := h
  clear h
  have H' := Aside0.mk H
  clear H
  go_enter Try.func112, Try.ntmps112
  go_wp2
  go_loopg [1, 5] k (fun kq v1 v5 w' => ∃ (x1_1 : Int) (x5_1 : Int), v1 = .int .i64 x1_1 ∧ v5 = .int .i64 x5_1 ∧ Aside0 (laws_heldMarkS.l0 kq l0 x1_1 x5_1 = some r) ∧ Aside0 (kq ≤ k) ∧ Drawn0 w w')
  case atStart => exact ⟨(a1), (0), (by first | rfl | (simp; done) | (simp [*]; done)), (by first | rfl | (simp; done) | (simp [*]; done)), H', ⟨Nat.le_refl _⟩, by repeat (first | exact Drawn0.refl _ | apply Drawn0.step)⟩
  case round =>
    clear H'
    try clear c1
    try clear p2
    obtain ⟨x1_1, x5_1, rfl, rfl, HA, HK1, ⟨m1, rfl⟩⟩ := hrel
    cases gk with
    | zero => exact absurd HA.out (by simp [laws_heldMarkS.l0])
    | succ k1 =>
      have H := HA.out
      clear HA
      simp only [laws_heldMarkS.l0] at H
      by_cases c3 : x5_1 < (l0.length : Int)
      · rw [if_pos c3] at H
        have c3b0 : decide (x5_1 < (l0.length : Int)) = true := decide_eq_true c3
        clear c3
        by_cases c4 : 0 ≤ x5_1
        · rw [if_pos c4] at H
          have c4b0 : decide (0 ≤ x5_1) = true := decide_eq_true c4
          clear c4
          by_cases c5 : ((rd_Mark l0 x5_1).f0) = x1_1
          · rw [if_pos c5] at H
            have c5b0 : (((rd_Mark l0 x5_1).f0) == x1_1) = true := beq_iff_eq.mpr c5
            have c5b1 : (((rd_Mark l0 x5_1).f0) != x1_1) = false := bne_eq_false_iff_eq.mpr c5
            clear c5
            by_cases c6 : ((rd_Mark l0 x5_1).f1) = (wrap64 (x1_1 + 1))
            · rw [if_pos c6] at H
              have c6b0 : (((rd_Mark l0 x5_1).f1) == (wrap64 (x1_1 + 1))) = true := beq_iff_eq.mpr c6
              have c6b1 : (((rd_Mark l0 x5_1).f1) != (wrap64 (x1_1 + 1))) = false := bne_eq_false_iff_eq.mpr c6
              clear c6
              have H' := Aside0.mk H
              clear H
              have p1031 : 0 ≤ (x5_1 : Int) := of_decide_eq_true (by first | (with_reducible assumption) | assumption)
              have q1031 : x5_1 < (l0.length : Int) := of_decide_eq_true (by first | (with_reducible assumption) | assumption)
              obtain ⟨ad1031, e1031, hx1031_0, hx1031_1⟩ := at_Mark HR0.out x5_1 p1031 q1031
              cases e1031
              replace p1031 := eq_true p1031
              replace q1031 := eq_true q1031
              have p1032 : 0 ≤ (x5_1 : Int) := of_decide_eq_true (by first | (with_reducible assumption) | assumption)
              have q1032 : x5_1 < (l0.length : Int) := of_decide_eq_true (by first | (with_reducible assumption) | assumption)
              obtain ⟨ad1032, e1032, hx1032_0, hx1032_1⟩ := at_Mark HR0.out x5_1 p1032 q1032
              obtain rfl : ad1031 = ad1032 := (by injection e1032)
              replace p1032 := eq_true p1032
              replace q1032 := eq_true q1032
              go_wp2
              go_roundg k1
              case measure => have := HK1.out; omega
              case rel => exact ⟨(wrap64 ((wrap64 (x1_1 + 1)) + 1)), (wrap64 (x5_1 + 1)), (by first | rfl | (simp; done) | (simp [*]; done)), (by first | rfl | (simp; done) | (simp [*]; done)), H', ⟨by have := HK1.out; omega⟩, by repeat (first | exact Drawn0.refl _ | apply Drawn0.step)⟩
            · rw [if_neg c6] at H
              have c6b0 : (((rd_Mark l0 x5_1).f1) == (wrap64 (x1_1 + 1))) = false := beq_eq_false_iff_ne.mpr c6
              have c6b1 : (((rd_Mark l0 x5_1).f1) != (wrap64 (x1_1 + 1))) = true := bne_iff_ne.mpr c6
              obtain rfl := Option.some.inj H
              have p1031 : 0 ≤ (x5_1 : Int) := of_decide_eq_true (by first | (with_reducible assumption) | assumption)
              have q1031 : x5_1 < (l0.length : Int) := of_decide_eq_true (by first | (with_reducible assumption) | assumption)
              obtain ⟨ad1031, e1031, hx1031_0, hx1031_1⟩ := at_Mark HR0.out x5_1 p1031 q1031
              cases e1031
              replace p1031 := eq_true p1031
              replace q1031 := eq_true q1031
              have p1032 : 0 ≤ (x5_1 : Int) := of_decide_eq_true (by first | (with_reducible assumption) | assumption)
              have q1032 : x5_1 < (l0.length : Int) := of_decide_eq_true (by first | (with_reducible assumption) | assumption)
              obtain ⟨ad1032, e1032, hx1032_0, hx1032_1⟩ := at_Mark HR0.out x5_1 p1032 q1032
              obtain rfl : ad1031 = ad1032 := (by injection e1032)
              replace p1032 := eq_true p1032
              replace q1032 := eq_true q1032
              go_wp2
              go_ret
              exact ⟨by first | rfl | (simp; done) | (simp [*]; done), by repeat (first | exact Drawn0.refl _ | apply Drawn0.step)⟩
          · rw [if_neg c5] at H
            have c5b0 : (((rd_Mark l0 x5_1).f0) == x1_1) = false := beq_eq_false_iff_ne.mpr c5
            have c5b1 : (((rd_Mark l0 x5_1).f0) != x1_1) = true := bne_iff_ne.mpr c5
            obtain rfl := Option.some.inj H
            have p1031 : 0 ≤ (x5_1 : Int) := of_decide_eq_true (by first | (with_reducible assumption) | assumption)
            have q1031 : x5_1 < (l0.length : Int) := of_decide_eq_true (by first | (with_reducible assumption) | assumption)
            obtain ⟨ad1031, e1031, hx1031_0, hx1031_1⟩ := at_Mark HR0.out x5_1 p1031 q1031
            cases e1031
            replace p1031 := eq_true p1031
            replace q1031 := eq_true q1031
            go_wp2
            go_ret
            exact ⟨by first | rfl | (simp; done) | (simp [*]; done), by repeat (first | exact Drawn0.refl _ | apply Drawn0.step)⟩
        · rw [if_neg c4] at H
          exact absurd H (by simp)
      · rw [if_neg c3] at H
        have c3b0 : decide (x5_1 < (l0.length : Int)) = false := decide_eq_false c3
        clear c3
        obtain rfl := Option.some.inj H
        go_wp2
        go_ret
        exact ⟨by first | rfl | (simp; done) | (simp [*]; done), by repeat (first | exact Drawn0.refl _ | apply Drawn0.step)⟩

/-! ### laws_heldMaker: function 70 -/
def laws_heldMaker.f (k : Nat) (a0_0 : Int) (a0_1 : Int) (a0_2 : Int) (a0_3 : Int) (l0_4 : List (S_Mark)) (a1 : Int) : Option (Int) := (laws_heldMarkS.f k l0_4 a1).bind fun t1034 => (if t1034 < 0 then (some (-1)) else (some t1034))
theorem laws_heldMaker.mono : ∀ a0 a1 a2 a3 a4 a5 k, LeO (laws_heldMaker.f k a0 a1 a2 a3 a4 a5) (laws_heldMaker.f (k + 1) a0 a1 a2 a3 a4 a5) := by
  intro a0 a1 a2 a3 a4 a5 k
  unfold laws_heldMaker.f
  repeat' first
      | (with_reducible exact laws_heldMarkS.mono _ _ _)
      | (with_reducible exact LeO.refl _)
      | (with_reducible exact LeO.none _)
      | (with_reducible refine LeO.ite ?_ ?_)
      | (with_reducible refine LeO.bind ?_ (fun _ => ?_))
      | exact laws_heldMarkS.mono _ _ _
      | exact LeO.none _
      | refine LeO.ite ?_ ?_
      | refine LeO.bind ?_ (fun _ => ?_)
set_option maxHeartbeats 8000000 in
set_option maxRecDepth 100000 in
theorem laws_heldMaker.calls (k : Nat) (a0_0 : Int) (a0_1 : Int) (a0_2 : Int) (a0_3 : Int) (A0_4 : Option Addr) (c0_4 : Nat) (l0_4 : List (S_Mark)) (a1 : Int) (r : Int) (w : World) (hr0_4 : Kd.C k_Mark w A0_4 l0_4.length l0_4) (hc0_4 : l0_4.length ≤ c0_4) (h : laws_heldMaker.f k a0_0 a0_1 a0_2 a0_3 l0_4 a1 = some r) :
    Calls Try.prog 70 #[.agg #[.int .i64 a0_0, .int .i64 a0_1, .int .i64 a0_2, .int .i64 a0_3, .slice A0_4 l0_4.length c0_4], .int .i64 a1] w fun e w' => e = .returned (.int .i64 r) ∧ Below w.heap.size w w' := by
  have hu54 := Try.underlying54
  have HR0_4 := Aside0.mk hr0_4
  have HC0_4 := Aside0.mk hc0_4
  clear hr0_4 hc0_4
  have HB := Aside0.mk (Below.refl w.heap.size w)
  have H : ((laws_heldMarkS.f k l0_4 a1).bind fun t1034 => (if t1034 < 0 then (some (-1)) else (some t1034))) = some r := h
  clear h
  replace H := Option.bind_eq_some_iff.mp H
  obtain ⟨t1034, A30, H⟩ := H
  replace H : (if t1034 < 0 then (some (-1)) else (some t1034)) = some r := H
  have A3 := Aside0.mk A30
  clear A30
  by_cases c4 : t1034 < 0
  · rw [if_pos c4] at H
    have c4b0 : decide (t1034 < 0) = true := decide_eq_true c4
    clear c4
    obtain rfl := Option.some.inj H
    go_enter Try.func70, Try.ntmps70
    go_wp2_with (first | ((with_reducible refine gate_dst (N := 2) rfl ?_); refine box_event ?hg (N := 2) ?hd (cs := #[.int .i64 a0_0, .int .i64 a0_1, .int .i64 a0_2, .int .i64 a0_3, .slice A0_4 l0_4.length c0_4]) (t := 54) ?hr ?_; (case hd => rfl); (case hg => rfl); (case hr => first | (go_simp; done) | (go_simp; rfl)); intro gb1033 hg w5 hbox hb; have n0_ := Aside0.mk (below_step (by repeat (first | (with_reducible first | exact HB.out | apply below_alloc | apply pw_below_drewN | apply below_drew1) | exact HB.out)) hb); have n1_ := Aside0.mk (hbox); have n2_ := Aside0.mk ((by rw [hg]; exact (below_size (by repeat (first | (with_reducible first | exact HB.out | apply below_alloc | apply pw_below_drewN | apply below_drew1) | exact HB.out))) : w.heap.size ≤ gb1033)); have n3_ := Aside0.mk ((by rw [hg]; exact (below_size (by repeat (first | (with_reducible first | exact HB.out | apply below_alloc | apply pw_below_drewN | apply below_drew1) | exact HB.out))) : w.heap.size ≤ gb1033)); clear HB; have HB := n0_; have BK1033 := n1_; have GW1033 := n2_; have GE1033 := n3_; clear n0_ n1_ n2_ n3_; clear hb hbox hg; have hcz6_0 : w5.cell? ⟨gb1033, 0, none⟩ = some (.int .i64 a0_0) := (blk_cell BK1033.out 0).trans rfl; have hcz6_1 : w5.cell? ⟨gb1033, 1, none⟩ = some (.int .i64 a0_1) := (blk_cell BK1033.out 1).trans rfl; have hcz6_2 : w5.cell? ⟨gb1033, 2, none⟩ = some (.int .i64 a0_2) := (blk_cell BK1033.out 2).trans rfl; have hcz6_3 : w5.cell? ⟨gb1033, 3, none⟩ = some (.int .i64 a0_3) := (blk_cell BK1033.out 3).trans rfl; have hcz6_4 : w5.cell? ⟨gb1033, 4, none⟩ = some (.slice A0_4 l0_4.length c0_4) := (blk_cell BK1033.out 4).trans rfl; have hfz6_0 := blk_frozen BK1033.out 0; have hfz6_1 := blk_frozen BK1033.out 1; have hfz6_2 := blk_frozen BK1033.out 2; have hfz6_3 := blk_frozen BK1033.out 3; have hfz6_4 := blk_frozen BK1033.out 4) | ((with_reducible refine gate_callee (f := 112) rfl ?_); refine goesL_ (some 8) rfl rfl Try.func112 (by kernel_rfl) rfl #[.slice A0_4 l0_4.length c0_4, .int .i64 a1] rfl (by (try simp only [List.map_toArray, List.map_cons, List.map_nil]); first | done | rfl | (simp only [List.length_drop, List.length_take]; rfl)) ?_; (with_reducible refine (laws_heldMarkS.calls k _ _ l0_4 a1 t1034 _ ?side1 ?side2 A3.out).mono ?_); (case side1 => repeat (first | exact (Kd.C_below HR0_4.out HB.out) | (with_reducible refine Kd.C_alloc ?_ _) | (with_reducible refine Kd.C_drewN ?_ _) | (with_reducible refine Kd.C_drew ?_))); (case side2 => exact HC0_4.out); rintro e w' ⟨rfl, ⟨nd, rfl⟩⟩; refine ⟨_, rfl, ?_⟩))
    go_ret
    exact ⟨by first | rfl | (simp [errW_none, errW_some] <;> rfl) | (simp [*, errW_none, errW_some] <;> rfl), by repeat (first | (with_reducible first | exact HB.out | apply below_alloc | apply pw_below_drewN | apply below_drew1 | refine below_set ?_ GE1033.out) | exact HB.out)⟩
  · rw [if_neg c4] at H
    have c4b0 : decide (t1034 < 0) = false := decide_eq_false c4
    clear c4
    obtain rfl := Option.some.inj H
    go_enter Try.func70, Try.ntmps70
    go_wp2_with (first | ((with_reducible refine gate_dst (N := 2) rfl ?_); refine box_event ?hg (N := 2) ?hd (cs := #[.int .i64 a0_0, .int .i64 a0_1, .int .i64 a0_2, .int .i64 a0_3, .slice A0_4 l0_4.length c0_4]) (t := 54) ?hr ?_; (case hd => rfl); (case hg => rfl); (case hr => first | (go_simp; done) | (go_simp; rfl)); intro gb1033 hg w7 hbox hb; have n0_ := Aside0.mk (below_step (by repeat (first | (with_reducible first | exact HB.out | apply below_alloc | apply pw_below_drewN | apply below_drew1) | exact HB.out)) hb); have n1_ := Aside0.mk (hbox); have n2_ := Aside0.mk ((by rw [hg]; exact (below_size (by repeat (first | (with_reducible first | exact HB.out | apply below_alloc | apply pw_below_drewN | apply below_drew1) | exact HB.out))) : w.heap.size ≤ gb1033)); have n3_ := Aside0.mk ((by rw [hg]; exact (below_size (by repeat (first | (with_reducible first | exact HB.out | apply below_alloc | apply pw_below_drewN | apply below_drew1) | exact HB.out))) : w.heap.size ≤ gb1033)); clear HB; have HB := n0_; have BK1033 := n1_; have GW1033 := n2_; have GE1033 := n3_; clear n0_ n1_ n2_ n3_; clear hb hbox hg; have hcz8_0 : w7.cell? ⟨gb1033, 0, none⟩ = some (.int .i64 a0_0) := (blk_cell BK1033.out 0).trans rfl; have hcz8_1 : w7.cell? ⟨gb1033, 1, none⟩ = some (.int .i64 a0_1) := (blk_cell BK1033.out 1).trans rfl; have hcz8_2 : w7.cell? ⟨gb1033, 2, none⟩ = some (.int .i64 a0_2) := (blk_cell BK1033.out 2).trans rfl; have hcz8_3 : w7.cell? ⟨gb1033, 3, none⟩ = some (.int .i64 a0_3) := (blk_cell BK1033.out 3).trans rfl; have hcz8_4 : w7.cell? ⟨gb1033, 4, none⟩ = some (.slice A0_4 l0_4.length c0_4) := (blk_cell BK1033.out 4).trans rfl; have hfz8_0 := blk_frozen BK1033.out 0; have hfz8_1 := blk_frozen BK1033.out 1; have hfz8_2 := blk_frozen BK1033.out 2; have hfz8_3 := blk_frozen BK1033.out 3; have hfz8_4 := blk_frozen BK1033.out 4) | ((with_reducible refine gate_callee (f := 112) rfl ?_); refine goesL_ (some 8) rfl rfl Try.func112 (by kernel_rfl) rfl #[.slice A0_4 l0_4.length c0_4, .int .i64 a1] rfl (by (try simp only [List.map_toArray, List.map_cons, List.map_nil]); first | done | rfl | (simp only [List.length_drop, List.length_take]; rfl)) ?_; (with_reducible refine (laws_heldMarkS.calls k _ _ l0_4 a1 t1034 _ ?side1 ?side2 A3.out).mono ?_); (case side1 => repeat (first | exact (Kd.C_below HR0_4.out HB.out) | (with_reducible refine Kd.C_alloc ?_ _) | (with_reducible refine Kd.C_drewN ?_ _) | (with_reducible refine Kd.C_drew ?_))); (case side2 => exact HC0_4.out); rintro e w' ⟨rfl, ⟨nd, rfl⟩⟩; refine ⟨_, rfl, ?_⟩))
    go_ret
    exact ⟨by first | rfl | (simp [errW_none, errW_some] <;> rfl) | (simp [*, errW_none, errW_some] <;> rfl), by repeat (first | (with_reducible first | exact HB.out | apply below_alloc | apply pw_below_drewN | apply below_drew1 | refine below_set ?_ GE1033.out) | exact HB.out)⟩
/-! ### impl_MakerPut: function 61 -/
def impl_MakerPut.j0 : Nat → Int → Int → Int → Int → Int → Int → Int → Int → List (S_Mark) → Int → Int → Int → Int → List (S_Mark) → Option (Int × Int × Int × Int × (List (S_Mark)))
 | 0, _, _, _, _, _, _, _, _, _, _, _, _, _, _ => none
 | k + 1, x1, x2, x3, x4, x1064000, x1064001, x1064002, x1064003, x1064004, x1073000, x1073001, x1073002, x1073003, x1073004 => if x2 > x1064002 then (if ([] : List (S_Mark)).length < 8796093022208 then ((some (([] : List (S_Mark)) ++ [(⟨x3, x4⟩ : S_Mark)] : List (S_Mark))).bind fun y1075 => (if 0 ≤ (mx (wrap64 ((y1075.length : Int) - (mx x1 0))) 0) then (if (mx (wrap64 ((y1075.length : Int) - (mx x1 0))) 0) ≤ (y1075.length : Int) then ((some (y1075.drop ((mx (wrap64 ((y1075.length : Int) - (mx x1 0))) 0) : Int).toNat : List (S_Mark))).bind fun y1078 => (if ([] : List (S_Mark)).length + y1078.length < 8796093022208 then (some (x1073000, x1073001, x2, x3, (([] : List (S_Mark)) ++ y1078))) else (none))) else (none)) else (none))) else (none)) else (if x1073004.length < 8796093022208 then ((some (x1073004 ++ [(⟨x3, x4⟩ : S_Mark)] : List (S_Mark))).bind fun y1085 => (if 0 ≤ (mx (wrap64 ((y1085.length : Int) - (mx x1 0))) 0) then (if (mx (wrap64 ((y1085.length : Int) - (mx x1 0))) 0) ≤ (y1085.length : Int) then ((some (y1085.drop ((mx (wrap64 ((y1085.length : Int) - (mx x1 0))) 0) : Int).toNat : List (S_Mark))).bind fun y1088 => (if ([] : List (S_Mark)).length + y1088.length < 8796093022208 then (some (x1073000, x1073001, x2, x3, (([] : List (S_Mark)) ++ y1088))) else (none))) else (none)) else (none))) else (none))
def impl_MakerPut.f (k : Nat) (a0_0 : Int) (a0_1 : Int) (a0_2 : Int) (a0_3 : Int) (l0_4 : List (S_Mark)) (a1 : Int) (a2 : Int) (a3 : Int) (a4 : Int) : Option (Int × Int × Int × Int × (List (S_Mark))) := (impl_copyMaker.f a0_0 a0_1 a0_2 a0_3 l0_4).bind fun bt1065 => ((impl_MakerAsk.f k a0_0 a0_1 a0_2 a0_3 l0_4 a2 a3).bind fun bt1073 => (if bt1073.1 = 0 then (impl_MakerPut.j0 k a1 a2 a3 a4 a0_0 a0_1 a0_2 a0_3 l0_4 bt1065.1 bt1065.2.1 bt1065.2.2.1 bt1065.2.2.2.1 bt1065.2.2.2.2) else (some (bt1065.1, bt1065.2.1, bt1065.2.2.1, bt1065.2.2.2.1, bt1065.2.2.2.2))))
theorem impl_MakerPut.mono_l : ∀ k, (∀ y0 y1 y2 y3 y4 y5 y6 y7 y8 y9 y10 y11 y12 y13, LeO (impl_MakerPut.j0 k y0 y1 y2 y3 y4 y5 y6 y7 y8 y9 y10 y11 y12 y13) (impl_MakerPut.j0 (k + 1) y0 y1 y2 y3 y4 y5 y6 y7 y8 y9 y10 y11 y12 y13))
 | 0 => fun _ _ _ _ _ _ _ _ _ _ _ _ _ _ r h => by simp [impl_MakerPut.j0] at h
 | k + 1 => by
  have ih0 := impl_MakerPut.mono_l k
  ·
   intro y0 y1 y2 y3 y4 y5 y6 y7 y8 y9 y10 y11 y12 y13
   unfold impl_MakerPut.j0
   repeat' first
   | (with_reducible exact ih0 _ _ _ _ _ _ _ _ _ _ _ _ _ _)
   | (with_reducible exact impl_MakerAsk.mono _ _ _ _ _ _ _ _)
   | (with_reducible exact LeO.refl _)
   | (with_reducible exact LeO.none _)
   | (with_reducible refine LeO.ite ?_ ?_)
   | (with_reducible refine LeO.bind ?_ (fun _ => ?_))
   | exact ih0 _ _ _ _ _ _ _ _ _ _ _ _ _ _
   | exact impl_MakerAsk.mono _ _ _ _ _ _ _ _
   | exact LeO.none _
   | refine LeO.ite ?_ ?_
   | refine LeO.bind ?_ (fun _ => ?_)
theorem impl_MakerPut.mono : ∀ a0 a1 a2 a3 a4 a5 a6 a7 a8 k, LeO (impl_MakerPut.f k a0 a1 a2 a3 a4 a5 a6 a7 a8) (impl_MakerPut.f (k + 1) a0 a1 a2 a3 a4 a5 a6 a7 a8) := by
 intro a0 a1 a2 a3 a4 a5 a6 a7 a8 k
 have ih0 := impl_MakerPut.mono_l k
 unfold impl_MakerPut.f
 repeat' first
  | (with_reducible exact ih0 _ _ _ _ _ _ _ _ _ _ _ _ _ _)
  | (with_reducible exact impl_MakerAsk.mono _ _ _ _ _ _ _ _)
  | (with_reducible exact LeO.refl _)
  | (with_reducible exact LeO.none _)
  | (with_reducible refine LeO.ite ?_ ?_)
  | (with_reducible refine LeO.bind ?_ (fun _ => ?_))
  | exact ih0 _ _ _ _ _ _ _ _ _ _ _ _ _ _
  | exact impl_MakerAsk.mono _ _ _ _ _ _ _ _
  | exact LeO.none _
  | refine LeO.ite ?_ ?_
  | refine LeO.bind ?_ (fun _ => ?_)
set_option maxHeartbeats 8000000 in
set_option maxRecDepth 100000 in
theorem impl_MakerPut.calls (k : Nat) (a0_0 : Int) (a0_1 : Int) (a0_2 : Int) (a0_3 : Int) (A0_4 : Option Addr) (c0_4 : Nat) (l0_4 : List (S_Mark)) (a1 : Int) (a2 : Int) (a3 : Int) (a4 : Int) (r1 : Int) (r2 : Int) (r3 : Int) (r4 : Int) (r5 : List (S_Mark)) (w : World) (hr0_4 : Kd.C k_Mark w A0_4 l0_4.length l0_4) (hc0_4 : l0_4.length ≤ c0_4) (h : impl_MakerPut.f k a0_0 a0_1 a0_2 a0_3 l0_4 a1 a2 a3 a4 = some (r1, r2, r3, r4, r5)) :
 Calls Try.prog 61 #[.agg #[.int .i64 a0_0, .int .i64 a0_1, .int .i64 a0_2, .int .i64 a0_3, .slice A0_4 l0_4.length c0_4], .int .i64 a1, .int .i64 a2, .int .i64 a3, .int .i64 a4] w fun e w' => ∃ v4_ : Value, e = .returned (.agg #[.int .i64 r1, .int .i64 r2, .int .i64 r3, .int .i64 r4, v4_]) ∧ Kd.R k_Mark 118 w' w.heap.size (fun _ => True) v4_ r5 ∧ Below w.heap.size w w' := by
 have hu54 := Try.underlying54
 have hu118 := Try.underlying118
 have HR0_4 := Aside0.mk hr0_4
 have HC0_4 := Aside0.mk hc0_4
 clear hr0_4 hc0_4
 have HB := Aside0.mk (Below.refl w.heap.size w)
 have H : ((impl_copyMaker.f a0_0 a0_1 a0_2 a0_3 l0_4).bind fun bt1065 => ((impl_MakerAsk.f k a0_0 a0_1 a0_2 a0_3 l0_4 a2 a3).bind fun bt1073 => (if bt1073.1 = 0 then (impl_MakerPut.j0 k a1 a2 a3 a4 a0_0 a0_1 a0_2 a0_3 l0_4 bt1065.1 bt1065.2.1 bt1065.2.2.1 bt1065.2.2.2.1 bt1065.2.2.2.2) else (some (bt1065.1, bt1065.2.1, bt1065.2.2.1, bt1065.2.2.2.1, bt1065.2.2.2.2))))) = some (r1, r2, r3, r4, r5) := h
 clear h
 replace H := Option.bind_eq_some_iff.mp H
 obtain ⟨⟨t1065, t1066, t1067, t1068, t1069⟩, A60, H⟩ := H
 replace H : ((impl_MakerAsk.f k a0_0 a0_1 a0_2 a0_3 l0_4 a2 a3).bind fun bt1073 => (if bt1073.1 = 0 then (impl_MakerPut.j0 k a1 a2 a3 a4 a0_0 a0_1 a0_2 a0_3 l0_4 t1065 t1066 t1067 t1068 t1069) else (some (t1065, t1066, t1067, t1068, t1069)))) = some (r1, r2, r3, r4, r5) := H
 have A6 := Aside0.mk A60
 clear A60
 replace H := Option.bind_eq_some_iff.mp H
 obtain ⟨⟨t1073, t1074⟩, A70, H⟩ := H
 replace H : (if t1073 = 0 then (impl_MakerPut.j0 k a1 a2 a3 a4 a0_0 a0_1 a0_2 a0_3 l0_4 t1065 t1066 t1067 t1068 t1069) else (some (t1065, t1066, t1067, t1068, t1069))) = some (r1, r2, r3, r4, r5) := H
 have A7 := Aside0.mk A70
 clear A70
 have HC8 := Aside0.mk H
 clear H
 go_enter Try.func61, Try.ntmps61
 go_upto_if 24 with (first | ((with_reducible refine gate_dst (N := 5) rfl ?_); refine box_event ?hg (N := 5) ?hd (cs := #[.int .i64 a0_0, .int .i64 a0_1, .int .i64 a0_2, .int .i64 a0_3, .slice A0_4 l0_4.length c0_4]) (t := 54) ?hr ?_; (case hd => rfl); (case hg => rfl); (case hr => first | (go_simp; done) | (go_simp; rfl)); intro gb1063 hg w9 hbox hb; have n0_ := Aside0.mk (below_step (hb_ HB.out) hb); have n1_ := Aside0.mk (hbox); have n2_ := Aside0.mk ((by rw [hg]; exact (below_size (hb_ HB.out)) : w.heap.size ≤ gb1063)); have n3_ := Aside0.mk ((by rw [hg]; exact (below_size (hb_ HB.out)) : w.heap.size ≤ gb1063)); clear HB; have HB := n0_; have BK1063 := n1_; have GW1063 := n2_; have GE1063 := n3_; clear n0_ n1_ n2_ n3_; clear hb hbox hg) | ((with_reducible refine gate_dst (N := 10) rfl ?_); refine box_event ?hg (N := 10) ?hd (cs := #[.int .i64 0, .int .i64 0, .int .i64 0, .int .i64 0, .slice none 0 0]) (t := 54) ?hr ?_; (case hd => rfl); (case hg => rfl); (case hr => first | (go_simp; done) | (go_simp; rfl)); intro gb1064 hg w10 hbox hb; have n0_ := Aside0.mk (bb_ BK1063.out hb); have n1_ := Aside0.mk (below_step (hb_ HB.out) hb); have n2_ := Aside0.mk (hbox); have n3_ := Aside0.mk ((by rw [hg]; exact (below_size (hb_ HB.out)) : w.heap.size ≤ gb1064)); have n4_ := Aside0.mk ((by rw [hg]; exact (below_size (hb_ HB.out)) : w.heap.size ≤ gb1064)); have n5_ := Aside0.mk ((nl_ BK1063.out hg : gb1063 ≠ gb1064)); have n6_ := Aside0.mk ((ng_ BK1063.out hg : gb1064 ≠ gb1063)); clear BK1063; clear HB; have BK1063 := n0_; have HB := n1_; have BK1064 := n2_; have GW1064 := n3_; have GE1064 := n4_; have NB1063_1064 := n5_; have NB1064_1063 := n6_; clear n0_ n1_ n2_ n3_ n4_ n5_ n6_; clear hb hbox hg; have hnb11 := NB1063_1064.out; have hnc11 := NB1064_1063.out; have hcz12_0 : w10.cell? ⟨gb1063, 0, none⟩ = some (.int .i64 a0_0) := (blk_cell BK1063.out 0).trans rfl; have hcz12_1 : w10.cell? ⟨gb1063, 1, none⟩ = some (.int .i64 a0_1) := (blk_cell BK1063.out 1).trans rfl; have hcz12_2 : w10.cell? ⟨gb1063, 2, none⟩ = some (.int .i64 a0_2) := (blk_cell BK1063.out 2).trans rfl; have hcz12_3 : w10.cell? ⟨gb1063, 3, none⟩ = some (.int .i64 a0_3) := (blk_cell BK1063.out 3).trans rfl; have hcz12_4 : w10.cell? ⟨gb1063, 4, none⟩ = some (.slice A0_4 l0_4.length c0_4) := (blk_cell BK1063.out 4).trans rfl; have hfz12_0 := blk_frozen BK1063.out 0; have hfz12_1 := blk_frozen BK1063.out 1; have hfz12_2 := blk_frozen BK1063.out 2; have hfz12_3 := blk_frozen BK1063.out 3; have hfz12_4 := blk_frozen BK1063.out 4) | ((with_reducible refine gate_callee (f := 109) rfl ?_); refine goesL_ (some 15) rfl rfl Try.func109 (by kernel_rfl) rfl #[.agg #[.int .i64 a0_0, .int .i64 a0_1, .int .i64 a0_2, .int .i64 a0_3, .slice A0_4 l0_4.length c0_4]] rfl sm_ ?_; (with_reducible refine (impl_copyMaker.calls a0_0 a0_1 a0_2 a0_3 _ _ l0_4 t1065 t1066 t1067 t1068 t1069 _ ?side1 ?side2 A6.out).mono ?_); (case side1 => repeat (first | exact (Kd.C_below HR0_4.out HB.out) | (with_reducible refine Kd.C_alloc ?_ _) | (with_reducible refine Kd.C_drewN ?_ _) | (with_reducible refine Kd.C_drew ?_))); (case side2 => exact HC0_4.out); rintro e w13 ⟨v1070, rfl, ho0, hb⟩; refine ⟨_, rfl, ?_⟩; have n0_ := Aside0.mk (Kd.R_lower ho0 (below_size (hb_ HB.out))); have n1_ := Aside0.mk (bb_ BK1063.out hb); have n2_ := Aside0.mk (bb_ BK1064.out hb); have n3_ := Aside0.mk (below_step (hb_ HB.out) hb); clear BK1063; clear BK1064; clear HB; have HO1071 := n0_; have BK1063 := n1_; have BK1064 := n2_; have HB := n3_; clear n0_ n1_ n2_ n3_; (try clear hb); (try clear hb2); (try clear hk); (try clear hi); (try clear ho0)) | ((with_reducible refine gate_dst (N := 11) rfl ?_); refine box_event ?hg (N := 11) ?hd (cs := #[.int .i64 0, .int .i64 0, .int .i64 0, .int .i64 0, .slice none 0 0]) (t := 54) ?hr ?_; (case hd => rfl); (case hg => rfl); (case hr => first | (go_simp; done) | (go_simp; rfl)); intro gb1072 hg w14 hbox hb; have n0_ := Aside0.mk (Kd.R_below (rq_ HO1071.out) hb); have n1_ := Aside0.mk (bb_ BK1063.out hb); have n2_ := Aside0.mk (bb_ BK1064.out hb); have n3_ := Aside0.mk (below_step (hb_ HB.out) hb); have n4_ := Aside0.mk (hbox); have n5_ := Aside0.mk ((by rw [hg]; exact (below_size (hb_ HB.out)) : w.heap.size ≤ gb1072)); have n6_ := Aside0.mk ((by rw [hg]; exact (below_size (hb_ HB.out)) : w.heap.size ≤ gb1072)); have n7_ := Aside0.mk ((nl_ BK1063.out hg : gb1063 ≠ gb1072)); have n8_ := Aside0.mk ((ng_ BK1063.out hg : gb1072 ≠ gb1063)); have n9_ := Aside0.mk ((nl_ BK1064.out hg : gb1064 ≠ gb1072)); have n10_ := Aside0.mk ((ng_ BK1064.out hg : gb1072 ≠ gb1064)); clear HO1071; clear BK1063; clear BK1064; clear HB; have HO1071 := n0_; have BK1063 := n1_; have BK1064 := n2_; have HB := n3_; have BK1072 := n4_; have GW1072 := n5_; have GE1072 := n6_; have NB1063_1072 := n7_; have NB1072_1063 := n8_; have NB1064_1072 := n9_; have NB1072_1064 := n10_; clear n0_ n1_ n2_ n3_ n4_ n5_ n6_ n7_ n8_ n9_ n10_; clear hb hbox hg; have hnb15 := NB1072_1063.out; have hnc15 := NB1063_1072.out; have hnb16 := NB1072_1064.out; have hnc16 := NB1064_1072.out; have hcz17_0 : w14.cell? ⟨gb1072, 0, none⟩ = some (.int .i64 0) := (blk_cell BK1072.out 0).trans rfl; have hcz17_1 : w14.cell? ⟨gb1072, 1, none⟩ = some (.int .i64 0) := (blk_cell BK1072.out 1).trans rfl; have hcz17_2 : w14.cell? ⟨gb1072, 2, none⟩ = some (.int .i64 0) := (blk_cell BK1072.out 2).trans rfl; have hcz17_3 : w14.cell? ⟨gb1072, 3, none⟩ = some (.int .i64 0) := (blk_cell BK1072.out 3).trans rfl; have hcz17_4 : w14.cell? ⟨gb1072, 4, none⟩ = some (.slice none 0 0) := (blk_cell BK1072.out 4).trans rfl; have hfz17_0 := blk_frozen BK1072.out 0; have hfz17_1 := blk_frozen BK1072.out 1; have hfz17_2 := blk_frozen BK1072.out 2; have hfz17_3 := blk_frozen BK1072.out 3; have hfz17_4 := blk_frozen BK1072.out 4; obtain ⟨Ao18, co18, eo18⟩ := Kd.R_slice HO1071.out; subst eo18; have hcz19_0 : w14.cell? ⟨gb1063, 0, none⟩ = some (.int .i64 a0_0) := (blk_cell BK1063.out 0).trans rfl; have hcz19_1 : w14.cell? ⟨gb1063, 1, none⟩ = some (.int .i64 a0_1) := (blk_cell BK1063.out 1).trans rfl; have hcz19_2 : w14.cell? ⟨gb1063, 2, none⟩ = some (.int .i64 a0_2) := (blk_cell BK1063.out 2).trans rfl; have hcz19_3 : w14.cell? ⟨gb1063, 3, none⟩ = some (.int .i64 a0_3) := (blk_cell BK1063.out 3).trans rfl; have hcz19_4 : w14.cell? ⟨gb1063, 4, none⟩ = some (.slice A0_4 l0_4.length c0_4) := (blk_cell BK1063.out 4).trans rfl; have hfz19_0 := blk_frozen BK1063.out 0; have hfz19_1 := blk_frozen BK1063.out 1; have hfz19_2 := blk_frozen BK1063.out 2; have hfz19_3 := blk_frozen BK1063.out 3; have hfz19_4 := blk_frozen BK1063.out 4) | ((with_reducible refine gate_callee (f := 29) rfl ?_); refine goesL_ (some 20) rfl rfl Try.func29 (by kernel_rfl) rfl #[.agg #[.int .i64 a0_0, .int .i64 a0_1, .int .i64 a0_2, .int .i64 a0_3, .slice A0_4 l0_4.length c0_4], .int .i64 a2, .int .i64 a3] rfl sm_ ?_; (with_reducible refine (impl_MakerAsk.calls k a0_0 a0_1 a0_2 a0_3 _ _ l0_4 a2 a3 t1073 t1074 _ ?side1 ?side2 A7.out).mono ?_); (case side1 => exact Kd.C_below HR0_4.out (hb_ HB.out)); (case side2 => exact HC0_4.out); rintro e w20 ⟨rfl, hb⟩; refine ⟨_, rfl, ?_⟩; have n0_ := Aside0.mk (Kd.R_below (rk_ HO1071.out BK1072.out) hb); have n1_ := Aside0.mk (blk_below (g := gb1063) (o := .cells #[.int .i64 a0_0, .int .i64 a0_1, .int .i64 a0_2, .int .i64 a0_3, .slice A0_4 l0_4.length c0_4] 54 (0, 0)) (bf_ NB1063_1072.out BK1063.out) hb); have n2_ := Aside0.mk (blk_below (g := gb1064) (o := .cells #[.int .i64 0, .int .i64 0, .int .i64 0, .int .i64 0, .slice none 0 0] 54 (0, 0)) (bf_ NB1064_1072.out BK1064.out) hb); have n3_ := Aside0.mk (blk_below (g := gb1072) (o := .cells #[.int .i64 t1065, .int .i64 t1066, .int .i64 t1067, .int .i64 t1068, .slice Ao18 t1069.length co18] 54 (0, 0)) (bp_ BK1072.out) hb); have n4_ := Aside0.mk (below_step (hb_ HB.out) hb); clear HO1071; clear BK1063; clear BK1064; clear BK1072; clear HB; have HO1071 := n0_; have BK1063 := n1_; have BK1064 := n2_; have BK1072 := n3_; have HB := n4_; clear n0_ n1_ n2_ n3_ n4_; (try clear hb); (try clear hb2); (try clear hk); (try clear hi)))
 (try simp only [Act.put, List.setIfInBounds_toArray, List.set_cons_zero, List.set_cons_succ])
 go_cut [] (fun wc => ∃ (kq : Nat) (x1065000_7 : Int) (x1065001_7 : Int) (x1065002_7 : Int) (x1065003_7 : Int), Aside0 (impl_MakerPut.j0 kq a1 a2 a3 a4 a0_0 a0_1 a0_2 a0_3 l0_4 t1065 t1066 t1067 t1068 t1069 = some (r1, r2, r3, r4, r5)) ∧ Aside0 (kq ≤ k) ∧ Aside0 (Kd.R k_Mark 118 wc w.heap.size (fun _ => True) (.slice Ao18 t1069.length co18) t1069) ∧ Aside0 (wc.heap[gb1063]? = some (.cells #[.int .i64 a0_0, .int .i64 a0_1, .int .i64 a0_2, .int .i64 a0_3, (.slice A0_4 l0_4.length c0_4)] 54 (0, 0))) ∧ Aside0 (wc.heap[gb1064]? = some (.cells #[.int .i64 x1065000_7, .int .i64 x1065001_7, .int .i64 x1065002_7, .int .i64 x1065003_7, (.slice none 0 0)] 54 (0, 0))) ∧ Aside0 (wc.heap[gb1072]? = some (.cells #[.int .i64 t1065, .int .i64 t1066, .int .i64 t1067, .int .i64 t1068, (.slice Ao18 t1069.length co18)] 54 (0, 0))) ∧ Aside0 (Below w.heap.size w wc))
 case first =>
  have H := HC8.out
  clear HC8
  by_cases c21 : t1073 = 0
  ·
   rw [if_pos c21] at H
   have c21b0 : (t1073 == 0) = true := beq_iff_eq.mpr c21
   have c21b1 : (t1073 != 0) = false := bne_eq_false_iff_eq.mpr c21
   clear c21
   (first | rw [c21b0] | (simp only [i64_w, i32_w]; rw [c21b0]) | rw [c21b4] | rw [c21b3] | skip)
   have H' := Aside0.mk H
   clear H
   go_wp2
   go_meet
   case rel => exact ⟨_, (0), (0), (0), (0), H', ⟨by first | omega | exact Nat.le_refl _⟩, ⟨rq_ HO1071.out⟩, ⟨bq_ BK1063.out⟩, ⟨bq_ BK1064.out⟩, ⟨bq_ BK1072.out⟩, ⟨hb_ HB.out⟩⟩
  ·
   rw [if_neg c21] at H
   have c21b0 : (t1073 == 0) = false := beq_eq_false_iff_ne.mpr c21
   have c21b1 : (t1073 != 0) = true := bne_iff_ne.mpr c21
   (first | rw [c21b0] | (simp only [i64_w, i32_w]; rw [c21b0]) | rw [c21b4] | rw [c21b3] | skip)
   simp only [Option.some.injEq, Prod.mk.injEq] at H
   obtain ⟨rfl, rfl, rfl, rfl, rfl⟩ := H
   have hnb22 := NB1072_1063.out
   have hnc22 := NB1063_1072.out
   have hnb23 := NB1072_1064.out
   have hnc23 := NB1064_1072.out
   have hcz24_0 : w20.cell? ⟨gb1072, 0, none⟩ = some (.int .i64 t1065) := (blk_cell BK1072.out 0).trans rfl
   have hcz24_1 : w20.cell? ⟨gb1072, 1, none⟩ = some (.int .i64 t1066) := (blk_cell BK1072.out 1).trans rfl
   have hcz24_2 : w20.cell? ⟨gb1072, 2, none⟩ = some (.int .i64 t1067) := (blk_cell BK1072.out 2).trans rfl
   have hcz24_3 : w20.cell? ⟨gb1072, 3, none⟩ = some (.int .i64 t1068) := (blk_cell BK1072.out 3).trans rfl
   have hcz24_4 : w20.cell? ⟨gb1072, 4, none⟩ = some (.slice Ao18 t1069.length co18) := (blk_cell BK1072.out 4).trans rfl
   have hfz24_0 := blk_frozen BK1072.out 0
   have hfz24_1 := blk_frozen BK1072.out 1
   have hfz24_2 := blk_frozen BK1072.out 2
   have hfz24_3 := blk_frozen BK1072.out 3
   have hfz24_4 := blk_frozen BK1072.out 4
   have hnb25 := NB1064_1063.out
   have hnc25 := NB1063_1064.out
   have hcz26_0 : w20.cell? ⟨gb1064, 0, none⟩ = some (.int .i64 0) := (blk_cell BK1064.out 0).trans rfl
   have hcz26_1 : w20.cell? ⟨gb1064, 1, none⟩ = some (.int .i64 0) := (blk_cell BK1064.out 1).trans rfl
   have hcz26_2 : w20.cell? ⟨gb1064, 2, none⟩ = some (.int .i64 0) := (blk_cell BK1064.out 2).trans rfl
   have hcz26_3 : w20.cell? ⟨gb1064, 3, none⟩ = some (.int .i64 0) := (blk_cell BK1064.out 3).trans rfl
   have hcz26_4 : w20.cell? ⟨gb1064, 4, none⟩ = some (.slice none 0 0) := (blk_cell BK1064.out 4).trans rfl
   have hfz26_0 := blk_frozen BK1064.out 0
   have hfz26_1 := blk_frozen BK1064.out 1
   have hfz26_2 := blk_frozen BK1064.out 2
   have hfz26_3 := blk_frozen BK1064.out 3
   have hfz26_4 := blk_frozen BK1064.out 4
   go_wp2
   refine bodyPost_ret (results_cell_row rfl _ _ gb1064 54 #[.int .i64 t1065, .int .i64 t1066, .int .i64 t1067, .int .i64 t1068, .slice Ao18 t1069.length co18] (0, 0) _ rfl (bp_ BK1064.out) Try.underlying54 rfl (by kernel_rfl)) rfl ?_
   exact ⟨_, er_, by (with_reducible repeat (first | apply Kd.R_alloc | apply Kd.R_drewN | apply Kd.R_drew)); exact Kd.R_mono (Kd.R_far (p := ⟨gb1064, 4, none⟩) (Kd.R_far (p := ⟨gb1064, 3, none⟩) (Kd.R_far (p := ⟨gb1064, 2, none⟩) (Kd.R_far (p := ⟨gb1064, 1, none⟩) (Kd.R_far (p := ⟨gb1064, 0, none⟩) (Kd.R_types HO1071.out BK1064.out (by decide)) (fun _ hk => hk.2) (.int .i64 t1065)) (fun _ hk => hk.2) (.int .i64 t1066)) (fun _ hk => hk.2) (.int .i64 t1067)) (fun _ hk => hk.2) (.int .i64 t1068)) (fun _ hk => hk.2) (.slice Ao18 t1069.length co18)) (fun _ hk => trivial), hb_ HB.out⟩
 case rest =>
  clear HC8
  (try clear c1); (try clear c2); (try clear p2); (try clear c6); (try clear c10); (try clear c11); (try clear c15); (try clear c16); (try clear c21); (try clear c21b0); (try clear c21b1); (try clear c22); (try clear c23); (try clear c25); (try clear hcz12_0); (try clear hcz12_1); (try clear hcz12_2); (try clear hcz12_3); (try clear hcz12_4); (try clear hcz17_0); (try clear hcz17_1); (try clear hcz17_2); (try clear hcz17_3); (try clear hcz17_4); (try clear hcz19_0); (try clear hcz19_1); (try clear hcz19_2); (try clear hcz19_3); (try clear hcz19_4); (try clear hcz24_0); (try clear hcz24_1); (try clear hcz24_2); (try clear hcz24_3); (try clear hcz24_4); (try clear hcz26_0); (try clear hcz26_1); (try clear hcz26_2); (try clear hcz26_3); (try clear hcz26_4); (try clear hfz12_0); (try clear hfz12_1); (try clear hfz12_2); (try clear hfz12_3); (try clear hfz12_4); (try clear hfz17_0); (try clear hfz17_1); (try clear hfz17_2); (try clear hfz17_3); (try clear hfz17_4); (try clear hfz19_0); (try clear hfz19_1); (try clear hfz19_2); (try clear hfz19_3); (try clear hfz19_4); (try clear hfz24_0); (try clear hfz24_1); (try clear hfz24_2); (try clear hfz24_3); (try clear hfz24_4); (try clear hfz26_0); (try clear hfz26_1); (try clear hfz26_2); (try clear hfz26_3); (try clear hfz26_4)
  obtain ⟨kq, x1065000_7, x1065001_7, x1065002_7, x1065003_7, HA, HJ7, HO_1073004, BK1063, BK1064, BK1072, HB⟩ := hcut
  cases kq with
  | zero => exact absurd HA.out (by simp [impl_MakerPut.j0])
  | succ kj7 =>
   have H := HA.out
   clear HA
   simp only [impl_MakerPut.j0] at H
   by_cases c27 : a2 > a0_2
   ·
    rw [if_pos c27] at H
    have c27b0 : decide (a0_2 < a2) = true := decide_eq_true c27
    clear c27
    by_cases c28 : ([] : List (S_Mark)).length < 8796093022208
    ·
     rw [if_pos c28] at H
     have LMc28 := Aside0.mk c28
     clear c28
     obtain ⟨y1075, hy1075⟩ : ∃ y_ : List (S_Mark), y_ = (([] : List (S_Mark)) ++ [(⟨a3, a4⟩ : S_Mark)]) := ⟨_, rfl⟩
     replace H : (if 0 ≤ (mx (wrap64 ((y1075.length : Int) - (mx a1 0))) 0) then (if (mx (wrap64 ((y1075.length : Int) - (mx a1 0))) 0) ≤ (y1075.length : Int) then ((some (y1075.drop ((mx (wrap64 ((y1075.length : Int) - (mx a1 0))) 0) : Int).toNat : List (S_Mark))).bind fun y1078 => (if ([] : List (S_Mark)).length + y1078.length < 8796093022208 then (some (t1065, t1066, a2, a3, (([] : List (S_Mark)) ++ y1078))) else (none))) else (none)) else (none)) = some (r1, r2, r3, r4, r5) := by first | (rw [hy1075]; with_reducible exact H) | (have H2_ := (Option.bind_some _ _).symm.trans H; rw [hy1075]; with_reducible exact H2_) | (have H2_ := (Option.bind_some _ _).symm.trans H; with_reducible exact H2_) | with_reducible exact H | (rw [hy1075]; exact H) | exact H
     have Ny1075 := Aside0.mk hy1075
     clear hy1075
     obtain ⟨ji29, hji29⟩ : ∃ j_ : Int, (mx a1 0) = j_ := ⟨_, rfl⟩
     replace H : (if 0 ≤ (mx (wrap64 ((y1075.length : Int) - (ji29))) 0) then (if (mx (wrap64 ((y1075.length : Int) - (ji29))) 0) ≤ (y1075.length : Int) then ((some (y1075.drop ((mx (wrap64 ((y1075.length : Int) - (ji29))) 0) : Int).toNat : List (S_Mark))).bind fun y1078 => (if ([] : List (S_Mark)).length + y1078.length < 8796093022208 then (some (t1065, t1066, a2, a3, (([] : List (S_Mark)) ++ y1078))) else (none))) else (none)) else (none)) = some (r1, r2, r3, r4, r5) := by first | (rw [hji29] at H; exact H) | (simp only [hji29] at H ⊢; exact H)
     (try (have hji29l : 0 ≤ ji29 := by (rw [← hji29]; unfold mx; (repeat' split) <;> omega)))
     (try (have hji29m : 0 ≤ ji29 := by omega))
     have hji29_ : (if a1 < 0 then 0 else a1) = ji29 := hji29
     obtain ⟨ji30, hji30⟩ : ∃ j_ : Int, (mx (wrap64 ((y1075.length : Int) - (ji29))) 0) = j_ := ⟨_, rfl⟩
     replace H : (if 0 ≤ (ji30) then (if (ji30) ≤ (y1075.length : Int) then ((some (y1075.drop ((ji30) : Int).toNat : List (S_Mark))).bind fun y1078 => (if ([] : List (S_Mark)).length + y1078.length < 8796093022208 then (some (t1065, t1066, a2, a3, (([] : List (S_Mark)) ++ y1078))) else (none))) else (none)) else (none)) = some (r1, r2, r3, r4, r5) := by first | (rw [hji30] at H; exact H) | (simp only [hji30] at H ⊢; exact H)
     have hji30_ : (if (wrap64 ((y1075.length : Int) - (ji29))) < 0 then 0 else (wrap64 ((y1075.length : Int) - (ji29)))) = ji30 := hji30
     by_cases c31 : 0 ≤ (ji30)
     ·
      rw [if_pos c31] at H
      have c31b0 := eq_true c31
      have c31b1 : decide (0 ≤ (ji30)) = true := decide_eq_true c31
      clear c31
      by_cases c32 : (ji30) ≤ (y1075.length : Int)
      ·
       rw [if_pos c32] at H
       have c32b0 := eq_true c32
       have c32b1 : decide ((ji30) ≤ (y1075.length : Int)) = true := decide_eq_true c32
       clear c32
       obtain ⟨y1078, hy1078⟩ : ∃ y_ : List (S_Mark), y_ = (y1075.drop ((ji30) : Int).toNat) := ⟨_, rfl⟩
       replace H : (if ([] : List (S_Mark)).length + y1078.length < 8796093022208 then (some (t1065, t1066, a2, a3, (([] : List (S_Mark)) ++ y1078))) else (none)) = some (r1, r2, r3, r4, r5) := by first | (rw [hy1078]; with_reducible exact H) | (have H2_ := (Option.bind_some _ _).symm.trans H; rw [hy1078]; with_reducible exact H2_) | (have H2_ := (Option.bind_some _ _).symm.trans H; with_reducible exact H2_) | with_reducible exact H | (rw [hy1078]; exact H) | exact H
       have Ny1078 := Aside0.mk hy1078
       clear hy1078
       by_cases c33 : ([] : List (S_Mark)).length + y1078.length < 8796093022208
       ·
        rw [if_pos c33] at H
        have LMc33 := Aside0.mk c33
        clear c33
        obtain ⟨y1082, hy1082⟩ : ∃ y_ : List (S_Mark), y_ = (([] : List (S_Mark)) ++ y1078) := ⟨_, rfl⟩
        replace H : (some (t1065, t1066, a2, a3, y1082)) = some (r1, r2, r3, r4, r5) := by first | (rw [hy1082]; with_reducible exact H) | (have H2_ := (Option.bind_some _ _).symm.trans H; rw [hy1082]; with_reducible exact H2_) | (have H2_ := (Option.bind_some _ _).symm.trans H; with_reducible exact H2_) | with_reducible exact H | (rw [hy1082]; exact H) | exact H
        have Ny1082 := Aside0.mk hy1082
        clear hy1082
        simp only [Option.some.injEq, Prod.mk.injEq] at H
        obtain ⟨rfl, rfl, rfl, rfl, rfl⟩ := H
        have hnb34 := NB1063_1064.out
        have hnc34 := NB1064_1063.out
        have hnb35 := NB1063_1072.out
        have hnc35 := NB1072_1063.out
        have hcz36_0 : wc.cell? ⟨gb1063, 0, none⟩ = some (.int .i64 a0_0) := (blk_cell BK1063.out 0).trans rfl
        have hcz36_1 : wc.cell? ⟨gb1063, 1, none⟩ = some (.int .i64 a0_1) := (blk_cell BK1063.out 1).trans rfl
        have hcz36_2 : wc.cell? ⟨gb1063, 2, none⟩ = some (.int .i64 a0_2) := (blk_cell BK1063.out 2).trans rfl
        have hcz36_3 : wc.cell? ⟨gb1063, 3, none⟩ = some (.int .i64 a0_3) := (blk_cell BK1063.out 3).trans rfl
        have hcz36_4 : wc.cell? ⟨gb1063, 4, none⟩ = some (.slice A0_4 l0_4.length c0_4) := (blk_cell BK1063.out 4).trans rfl
        have hfz36_0 := blk_frozen BK1063.out 0
        have hfz36_1 := blk_frozen BK1063.out 1
        have hfz36_2 := blk_frozen BK1063.out 2
        have hfz36_3 := blk_frozen BK1063.out 3
        have hfz36_4 := blk_frozen BK1063.out 4
        have hnb37 := NB1072_1064.out
        have hnc37 := NB1064_1072.out
        have hcz38_0 : wc.cell? ⟨gb1072, 0, none⟩ = some (.int .i64 t1065) := (blk_cell BK1072.out 0).trans rfl
        have hcz38_1 : wc.cell? ⟨gb1072, 1, none⟩ = some (.int .i64 t1066) := (blk_cell BK1072.out 1).trans rfl
        have hcz38_2 : wc.cell? ⟨gb1072, 2, none⟩ = some (.int .i64 t1067) := (blk_cell BK1072.out 2).trans rfl
        have hcz38_3 : wc.cell? ⟨gb1072, 3, none⟩ = some (.int .i64 t1068) := (blk_cell BK1072.out 3).trans rfl
        have hcz38_4 : wc.cell? ⟨gb1072, 4, none⟩ = some (.slice Ao18 t1069.length co18) := (blk_cell BK1072.out 4).trans rfl
        have hfz38_0 := blk_frozen BK1072.out 0
        have hfz38_1 := blk_frozen BK1072.out 1
        have hfz38_2 := blk_frozen BK1072.out 2
        have hfz38_3 := blk_frozen BK1072.out 3
        have hfz38_4 := blk_frozen BK1072.out 4
        go_wp2_with (first | ((with_reducible refine gate_builtin (b := .append) (xs := #[.tmp 36, .tmp 40]) rfl ?_); at_builtin; refine Kd.R_append k_Mark (w0 := w) w.heap.size rfl (.tmp 36) (.tmp 40) 52 118 (.agg #[(.int .i64 0), (.int .i64 0)]) 16 rfl Try.underlying52 info118 rfl (by decide) (by omega) (.slice none 0 0) ([] : List (S_Mark)) (⟨a3, a4⟩ : S_Mark) [.int .i64 a3, .int .i64 a4] (fun k_ => some k_ ≠ (.slice Ao18 t1069.length co18 : Value).ownBlock) (fun _ => False) rfl (by first | (go_simp; done) | (go_simp; rfl)) ?aP (fun _ hk => hk.elim) ?aF ?aO ?aB ?aS ?aL ?_; (case aP => exact k_Mark_mkM _ _ _ (⟨a3, a4⟩ : S_Mark)); (case aB => exact (hb_ HB.out)); (case aF => exact (fun k_ hk => Kd.fresh' (Kd.R_lt (rk_ HO_1073004.out BK1072.out)) k_ hk)); (case aO => exact ((Kd.R_nil _ _ _ _ (fun k_ => some k_ ≠ (.slice Ao18 t1069.length co18 : Value).ownBlock)))); (case aS => exact (below_size (hb_ HB.out))); (case aL => have := LMc28.out; omega); intro v1076 w39 ho hb hg hat; rw [← Ny1075.out] at ho; have n0_ := Aside0.mk (Kd.R_after (Kd.R_apart_nil (rk_ HO_1073004.out BK1072.out)) hg hat); have n1_ := Aside0.mk (blk_grown (g := gb1063) (o := .cells #[.int .i64 a0_0, .int .i64 a0_1, .int .i64 a0_2, .int .i64 a0_3, .slice A0_4 l0_4.length c0_4] 54 (0, 0)) (bf_ NB1063_1072.out BK1063.out) hg (by simp [Value.ownBlock])); have n2_ := Aside0.mk (blk_grown (g := gb1064) (o := .cells #[.int .i64 x1065000_7, .int .i64 x1065001_7, .int .i64 x1065002_7, .int .i64 x1065003_7, .slice none 0 0] 54 (0, 0)) (bf_ NB1064_1072.out BK1064.out) hg (by simp [Value.ownBlock])); have n3_ := Aside0.mk (blk_grown (g := gb1072) (o := .cells #[.int .i64 t1065, .int .i64 t1066, .int .i64 a2, .int .i64 a3, .slice none 0 0] 54 (0, 0)) (bp_ BK1072.out) hg (by simp [Value.ownBlock])); have n4_ := Aside0.mk (hb); have n5_ := Aside0.mk (ho); clear HO_1073004; clear BK1063; clear BK1064; clear BK1072; clear HB; have HO_1073004 := n0_; have BK1063 := n1_; have BK1064 := n2_; have BK1072 := n3_; have HB := n4_; have HO1077 := n5_; clear n0_ n1_ n2_ n3_ n4_ n5_; clear ho hb hg hat; obtain ⟨Ao40, co40, eo40⟩ := Kd.R_slice HO1077.out; subst eo40; have hcz41_0 : w39.cell? ⟨gb1072, 0, none⟩ = some (.int .i64 t1065) := (blk_cell BK1072.out 0).trans rfl; have hcz41_1 : w39.cell? ⟨gb1072, 1, none⟩ = some (.int .i64 t1066) := (blk_cell BK1072.out 1).trans rfl; have hcz41_2 : w39.cell? ⟨gb1072, 2, none⟩ = some (.int .i64 a2) := (blk_cell BK1072.out 2).trans rfl; have hcz41_3 : w39.cell? ⟨gb1072, 3, none⟩ = some (.int .i64 a3) := (blk_cell BK1072.out 3).trans rfl; have hcz41_4 : w39.cell? ⟨gb1072, 4, none⟩ = some (.slice none 0 0) := (blk_cell BK1072.out 4).trans rfl; have hfz41_0 := blk_frozen BK1072.out 0; have hfz41_1 := blk_frozen BK1072.out 1; have hfz41_2 := blk_frozen BK1072.out 2; have hfz41_3 := blk_frozen BK1072.out 3; have hfz41_4 := blk_frozen BK1072.out 4) | ((with_reducible refine gate_store (t := 52) (p := 42) rfl ?_); refine store_event (t := 52) (p := 42) (v := ?vo_w42) (w1 := (w39.setCell ⟨gb1072, 4, none⟩ (.slice Ao40 y1075.length co40))) ?hg ?ho ?hn ?hr ?_; (case ho => rfl); (case hg => rfl); (case hn => rfl); (case hr => first | (go_simp; done) | (go_simp; rfl)); intro w42 hw; have n0_ : Aside0 (Kd.R k_Mark 118 w42 w.heap.size (fun k_ => some k_ ≠ (.slice Ao40 y1075.length co40 : Value).ownBlock) (.slice Ao18 t1069.length co18) t1069) := ⟨(by rw [hw]; exact (by (with_reducible repeat (first | apply Kd.R_alloc | apply Kd.R_drewN | apply Kd.R_drew)); exact Kd.R_mono (Kd.R_far (p := ⟨gb1072, 4, none⟩) (Kd.R_types HO_1073004.out BK1072.out (by decide)) (fun _ hk => hk.2) (.slice Ao40 y1075.length co40)) (fun _ hk => hk.1.2)))⟩; have n1_ : Aside0 (Kd.R k_Mark 118 w42 w.heap.size (fun k_ => some k_ ≠ (.slice Ao18 t1069.length co18 : Value).ownBlock) (.slice Ao40 y1075.length co40) y1075) := ⟨(by rw [hw]; exact (by (with_reducible repeat (first | apply Kd.R_alloc | apply Kd.R_drewN | apply Kd.R_drew)); exact Kd.R_mono (Kd.R_far (p := ⟨gb1072, 4, none⟩) (Kd.R_types HO1077.out BK1072.out (by decide)) (fun _ hk => hk.2) (.slice Ao40 y1075.length co40)) (fun _ hk => hk.1)))⟩; have n2_ : Aside0 (w42.heap[gb1063]? = some (.cells #[.int .i64 a0_0, .int .i64 a0_1, .int .i64 a0_2, .int .i64 a0_3, .slice A0_4 l0_4.length c0_4] 54 (0, 0))) := ⟨(by rw [hw]; exact (bf_ NB1063_1072.out BK1063.out))⟩; have n3_ : Aside0 (w42.heap[gb1064]? = some (.cells #[.int .i64 x1065000_7, .int .i64 x1065001_7, .int .i64 x1065002_7, .int .i64 x1065003_7, .slice none 0 0] 54 (0, 0))) := ⟨(by rw [hw]; exact (bf_ NB1064_1072.out BK1064.out))⟩; have n4_ : Aside0 (w42.heap[gb1072]? = some (.cells #[.int .i64 t1065, .int .i64 t1066, .int .i64 a2, .int .i64 a3, .slice Ao40 y1075.length co40] 54 (0, 0))) := ⟨(by rw [hw]; exact (bp_ BK1072.out))⟩; have n5_ : Aside0 (Below w.heap.size w w42) := ⟨(by rw [hw]; exact (hb_ HB.out))⟩; clear hw; clear HO_1073004; clear HO1077; clear BK1063; clear BK1064; clear BK1072; clear HB; have HO_1073004 := n0_; have HO1077 := n1_; have BK1063 := n2_; have BK1064 := n3_; have BK1072 := n4_; have HB := n5_; clear n0_ n1_ n2_ n3_ n4_ n5_; have hcz43_0 : w42.cell? ⟨gb1072, 0, none⟩ = some (.int .i64 t1065) := (blk_cell BK1072.out 0).trans rfl; have hcz43_1 : w42.cell? ⟨gb1072, 1, none⟩ = some (.int .i64 t1066) := (blk_cell BK1072.out 1).trans rfl; have hcz43_2 : w42.cell? ⟨gb1072, 2, none⟩ = some (.int .i64 a2) := (blk_cell BK1072.out 2).trans rfl; have hcz43_3 : w42.cell? ⟨gb1072, 3, none⟩ = some (.int .i64 a3) := (blk_cell BK1072.out 3).trans rfl; have hcz43_4 : w42.cell? ⟨gb1072, 4, none⟩ = some (.slice Ao40 y1075.length co40) := (blk_cell BK1072.out 4).trans rfl; have hfz43_0 := blk_frozen BK1072.out 0; have hfz43_1 := blk_frozen BK1072.out 1; have hfz43_2 := blk_frozen BK1072.out 2; have hfz43_3 := blk_frozen BK1072.out 3; have hfz43_4 := blk_frozen BK1072.out 4; have q44 : ((ji30) : Int) ≤ ((y1075.length : Int) : Int) := of_decide_eq_true (by first | (with_reducible assumption) | assumption); obtain ⟨i044, hi044, _, hsz44, _⟩ := info_parts info118; have hroom44 : y1075.length ≤ co40 := (Kd.R_reads' HO1077.out).2.1; have hC44 : Kd.C k_Mark _ Ao40 y1075.length y1075 := (Kd.R_reads' HO1077.out).2.2; have q044 : (0 : Int) ≤ ((ji30) : Int) := of_decide_eq_true (by first | (with_reducible assumption) | assumption); have hcut44 := cut_from (P := Try.prog) 52 118 .i64 Try.underlying52 hi044 2 hsz44 Ao40 y1075.length co40 (ji30) q044 q44; have hr44 := Kd.C_drop (m := ((ji30) : Int).toNat) (c := co40) hC44 (by omega) hroom44; obtain ⟨A44, hA44⟩ : ∃ A1, A1 = (if co40 = ((ji30) : Int).toNat then Ao40 else (Ao40 : Option Addr).map (·.add (((ji30) : Int).toNat * 2))) := ⟨_, rfl⟩; obtain ⟨c44, hc44⟩ : ∃ c1, c1 = co40 - ((ji30) : Int).toNat := ⟨_, rfl⟩; have hy44 : y1078.length = y1075.length - ((ji30) : Int).toNat := (by rw [Ny1078.out, List.length_drop] <;> omega); rw [show (y1075).drop ((ji30) : Int).toNat = y1078 from Ny1078.out.symm] at hr44; replace hr44 : Kd.C k_Mark _ A44 y1078.length y1078 := (by rw [hA44]; exact hr44); rw [← hy44, ← hA44, ← hc44] at hcut44; have HR1081 := Aside0.mk hr44; have HC1081 := Aside0.mk (show y1078.length ≤ c44 from by rw [hy44, hc44]; exact Nat.sub_le_sub_right hroom44 _); clear hr44 hC44 hroom44 hi044 hsz44 hc44; have KY44 := Aside0.mk hy44; have KA44 := Aside0.mk hA44; clear hy44 hA44; have KL44 := Aside0.mk (show ((ji30) : Int).toNat ≤ y1075.length from by omega); replace q44 := eq_true q44) | ((with_reducible refine gate_builtin (b := .append) (xs := #[.const (.slice none 0 0), .tmp 52]) rfl ?_); at_builtin; refine Kd.R_append_rows k_Mark (w0 := w) w.heap.size rfl (.const (.slice none 0 0)) (.tmp 52) 52 118 (.agg #[(.int .i64 0), (.int .i64 0)]) 16 rfl Try.underlying52 info118 rfl (by decide) (by omega) (.slice none 0 0) ([] : List (S_Mark)) y1078 _ _ _ (fun k_ => some k_ ≠ (.slice Ao18 t1069.length co18 : Value).ownBlock ∧ some k_ ≠ (.slice Ao40 y1075.length co40 : Value).ownBlock) (fun _ => False) rfl rfl ?aO ?aR (fun _ _ h => h) (fun _ h => h.elim) ?aF ?aB ?aS ?aL ?_; (case aR => repeat (first | exact (by repeat (first | (with_reducible exact HR1081.out) | (with_reducible refine Kd.C_alloc ?_ _) | (with_reducible refine Kd.C_drewN ?_ _) | (with_reducible refine Kd.C_drew ?_) | exact HR1081.out)) | (with_reducible refine Kd.C_alloc ?_ _) | (with_reducible refine Kd.C_drewN ?_ _) | (with_reducible refine Kd.C_drew ?_))); (case aB => exact (hb_ HB.out)); (case aF => exact (fun k_ hk => ⟨Kd.fresh' (Kd.R_lt (rq_ HO_1073004.out)) k_ hk, Kd.fresh' (Kd.R_lt (rq_ HO1077.out)) k_ hk⟩)); (case aO => exact ((Kd.R_nil _ _ _ _ (fun k_ => some k_ ≠ (.slice Ao18 t1069.length co18 : Value).ownBlock ∧ some k_ ≠ (.slice Ao40 y1075.length co40 : Value).ownBlock)))); (case aS => exact (below_size (hb_ HB.out))); (case aL => have := LMc33.out; omega); intro v1083 w45 ho hb hg hat; rw [← Ny1082.out] at ho; have n0_ := Aside0.mk (Kd.R_after (Kd.R_apart_nil (rq_ HO_1073004.out)) hg hat); have n1_ := Aside0.mk (blk_grown (g := gb1063) (o := .cells #[.int .i64 a0_0, .int .i64 a0_1, .int .i64 a0_2, .int .i64 a0_3, .slice A0_4 l0_4.length c0_4] 54 (0, 0)) (bq_ BK1063.out) hg (by simp [Value.ownBlock])); have n2_ := Aside0.mk (blk_grown (g := gb1064) (o := .cells #[.int .i64 x1065000_7, .int .i64 x1065001_7, .int .i64 x1065002_7, .int .i64 x1065003_7, .slice none 0 0] 54 (0, 0)) (bq_ BK1064.out) hg (by simp [Value.ownBlock])); have n3_ := Aside0.mk (blk_grown (g := gb1072) (o := .cells #[.int .i64 t1065, .int .i64 t1066, .int .i64 a2, .int .i64 a3, .slice Ao40 y1075.length co40] 54 (0, 0)) (bq_ BK1072.out) hg (by simp [Value.ownBlock])); have n4_ := Aside0.mk (Kd.R_after (Kd.R_apart_nil (rq_ HO1077.out)) hg hat); have n5_ := Aside0.mk (hb); have n6_ := Aside0.mk ((show Kd.C k_Mark w45 A44 y1078.length y1078 from by rw [Ny1078.out, KA44.out]; exact Kd.C_drop (m := ((ji30) : Int).toNat) (c := co40) ((Kd.R_reads' (Kd.R_after (Kd.R_apart_nil (rq_ HO1077.out)) hg hat)).2.2) KL44.out ((Kd.R_reads' (Kd.R_after (Kd.R_apart_nil (rq_ HO1077.out)) hg hat)).2.1))); have n7_ := Aside0.mk (ho); clear HO_1073004; clear BK1063; clear BK1064; clear BK1072; clear HO1077; clear HB; clear HR1081; have HO_1073004 := n0_; have BK1063 := n1_; have BK1064 := n2_; have BK1072 := n3_; have HO1077 := n4_; have HB := n5_; have HR1081 := n6_; have HO1084 := n7_; clear n0_ n1_ n2_ n3_ n4_ n5_ n6_ n7_; clear ho hb hg hat; obtain ⟨Ao46, co46, eo46⟩ := Kd.R_slice HO1084.out; subst eo46; have hcz47_0 : w45.cell? ⟨gb1072, 0, none⟩ = some (.int .i64 t1065) := (blk_cell BK1072.out 0).trans rfl; have hcz47_1 : w45.cell? ⟨gb1072, 1, none⟩ = some (.int .i64 t1066) := (blk_cell BK1072.out 1).trans rfl; have hcz47_2 : w45.cell? ⟨gb1072, 2, none⟩ = some (.int .i64 a2) := (blk_cell BK1072.out 2).trans rfl; have hcz47_3 : w45.cell? ⟨gb1072, 3, none⟩ = some (.int .i64 a3) := (blk_cell BK1072.out 3).trans rfl; have hcz47_4 : w45.cell? ⟨gb1072, 4, none⟩ = some (.slice Ao40 y1075.length co40) := (blk_cell BK1072.out 4).trans rfl; have hfz47_0 := blk_frozen BK1072.out 0; have hfz47_1 := blk_frozen BK1072.out 1; have hfz47_2 := blk_frozen BK1072.out 2; have hfz47_3 := blk_frozen BK1072.out 3; have hfz47_4 := blk_frozen BK1072.out 4; have hcz48_0 : w45.cell? ⟨gb1064, 0, none⟩ = some (.int .i64 x1065000_7) := (blk_cell BK1064.out 0).trans rfl; have hcz48_1 : w45.cell? ⟨gb1064, 1, none⟩ = some (.int .i64 x1065001_7) := (blk_cell BK1064.out 1).trans rfl; have hcz48_2 : w45.cell? ⟨gb1064, 2, none⟩ = some (.int .i64 x1065002_7) := (blk_cell BK1064.out 2).trans rfl; have hcz48_3 : w45.cell? ⟨gb1064, 3, none⟩ = some (.int .i64 x1065003_7) := (blk_cell BK1064.out 3).trans rfl; have hcz48_4 : w45.cell? ⟨gb1064, 4, none⟩ = some (.slice none 0 0) := (blk_cell BK1064.out 4).trans rfl; have hfz48_0 := blk_frozen BK1064.out 0; have hfz48_1 := blk_frozen BK1064.out 1; have hfz48_2 := blk_frozen BK1064.out 2; have hfz48_3 := blk_frozen BK1064.out 3; have hfz48_4 := blk_frozen BK1064.out 4))
        refine bodyPost_ret (results_cell_row rfl _ _ gb1064 54 #[.int .i64 t1065, .int .i64 t1066, .int .i64 a2, .int .i64 a3, .slice Ao46 y1082.length co46] (0, 0) _ rfl (by (with_reducible repeat (first | refine blk_drewN ?_ _ | refine blk_drew ?_ | refine blk_alloc ?_ _)); refine blk_put (cs := #[.int .i64 t1065, .int .i64 t1066, .int .i64 a2, .int .i64 a3, .slice none 0 0]) ?_ 4 _ rfl; (with_reducible repeat (first | refine blk_drewN ?_ _ | refine blk_drew ?_ | refine blk_alloc ?_ _)); refine blk_put (cs := #[.int .i64 t1065, .int .i64 t1066, .int .i64 a2, .int .i64 x1065003_7, .slice none 0 0]) ?_ 3 _ rfl; (with_reducible repeat (first | refine blk_drewN ?_ _ | refine blk_drew ?_ | refine blk_alloc ?_ _)); refine blk_put (cs := #[.int .i64 t1065, .int .i64 t1066, .int .i64 x1065002_7, .int .i64 x1065003_7, .slice none 0 0]) ?_ 2 _ rfl; (with_reducible repeat (first | refine blk_drewN ?_ _ | refine blk_drew ?_ | refine blk_alloc ?_ _)); refine blk_put (cs := #[.int .i64 t1065, .int .i64 x1065001_7, .int .i64 x1065002_7, .int .i64 x1065003_7, .slice none 0 0]) ?_ 1 _ rfl; (with_reducible repeat (first | refine blk_drewN ?_ _ | refine blk_drew ?_ | refine blk_alloc ?_ _)); refine blk_put (cs := #[.int .i64 x1065000_7, .int .i64 x1065001_7, .int .i64 x1065002_7, .int .i64 x1065003_7, .slice none 0 0]) ?_ 0 _ rfl; (with_reducible repeat (first | refine blk_drewN ?_ _ | refine blk_drew ?_ | refine blk_alloc ?_ _)); refine blk_far ?_ NB1064_1072.out _; (with_reducible repeat (first | refine blk_drewN ?_ _ | refine blk_drew ?_ | refine blk_alloc ?_ _)); exact BK1064.out) Try.underlying54 rfl (by kernel_rfl)) rfl ?_
        exact ⟨_, by first | rfl | (simp [errW_none, errW_some] <;> rfl) | (simp only [← hji29, ← hji30]; first | rfl | (simp [errW_none, errW_some] <;> rfl)) | (simp [*, errW_none, errW_some] <;> rfl), by (with_reducible repeat (first | apply Kd.R_alloc | apply Kd.R_drewN | apply Kd.R_drew)); exact Kd.R_mono (Kd.R_far (p := ⟨gb1064, 4, none⟩) (Kd.R_far (p := ⟨gb1064, 3, none⟩) (Kd.R_far (p := ⟨gb1064, 2, none⟩) (Kd.R_far (p := ⟨gb1064, 1, none⟩) (Kd.R_far (p := ⟨gb1064, 0, none⟩) (Kd.R_far (p := ⟨gb1072, 4, none⟩) (Kd.R_types (Kd.R_types HO1084.out BK1072.out (by decide)) BK1064.out (by decide)) (fun _ hk => hk.1.2) (.slice Ao46 y1082.length co46)) (fun _ hk => hk.2) (.int .i64 t1065)) (fun _ hk => hk.2) (.int .i64 t1066)) (fun _ hk => hk.2) (.int .i64 a2)) (fun _ hk => hk.2) (.int .i64 a3)) (fun _ hk => hk.2) (.slice Ao46 y1082.length co46)) (fun _ hk => trivial), hb_ HB.out⟩
       ·
        rw [if_neg c33] at H
        exact absurd H (by simp)
      ·
       rw [if_neg c32] at H
       exact absurd H (by simp)
     ·
      rw [if_neg c31] at H
      exact absurd H (by simp)
    ·
     rw [if_neg c28] at H
     exact absurd H (by simp)
   ·
    rw [if_neg c27] at H
    have c27b0 : decide (a0_2 < a2) = false := decide_eq_false c27
    clear c27
    by_cases c49 : t1069.length < 8796093022208
    ·
     rw [if_pos c49] at H
     have LMc49 := Aside0.mk c49
     clear c49
     obtain ⟨y1085, hy1085⟩ : ∃ y_ : List (S_Mark), y_ = (t1069 ++ [(⟨a3, a4⟩ : S_Mark)]) := ⟨_, rfl⟩
     replace H : (if 0 ≤ (mx (wrap64 ((y1085.length : Int) - (mx a1 0))) 0) then (if (mx (wrap64 ((y1085.length : Int) - (mx a1 0))) 0) ≤ (y1085.length : Int) then ((some (y1085.drop ((mx (wrap64 ((y1085.length : Int) - (mx a1 0))) 0) : Int).toNat : List (S_Mark))).bind fun y1088 => (if ([] : List (S_Mark)).length + y1088.length < 8796093022208 then (some (t1065, t1066, a2, a3, (([] : List (S_Mark)) ++ y1088))) else (none))) else (none)) else (none)) = some (r1, r2, r3, r4, r5) := by first | (rw [hy1085]; with_reducible exact H) | (have H2_ := (Option.bind_some _ _).symm.trans H; rw [hy1085]; with_reducible exact H2_) | (have H2_ := (Option.bind_some _ _).symm.trans H; with_reducible exact H2_) | with_reducible exact H | (rw [hy1085]; exact H) | exact H
     have Ny1085 := Aside0.mk hy1085
     clear hy1085
     obtain ⟨ji50, hji50⟩ : ∃ j_ : Int, (mx a1 0) = j_ := ⟨_, rfl⟩
     replace H : (if 0 ≤ (mx (wrap64 ((y1085.length : Int) - (ji50))) 0) then (if (mx (wrap64 ((y1085.length : Int) - (ji50))) 0) ≤ (y1085.length : Int) then ((some (y1085.drop ((mx (wrap64 ((y1085.length : Int) - (ji50))) 0) : Int).toNat : List (S_Mark))).bind fun y1088 => (if ([] : List (S_Mark)).length + y1088.length < 8796093022208 then (some (t1065, t1066, a2, a3, (([] : List (S_Mark)) ++ y1088))) else (none))) else (none)) else (none)) = some (r1, r2, r3, r4, r5) := by first | (rw [hji50] at H; exact H) | (simp only [hji50] at H ⊢; exact H)
     (try (have hji50l : 0 ≤ ji50 := by (rw [← hji50]; unfold mx; (repeat' split) <;> omega)))
     (try (have hji50m : 0 ≤ ji50 := by omega))
     have hji50_ : (if a1 < 0 then 0 else a1) = ji50 := hji50
     obtain ⟨ji51, hji51⟩ : ∃ j_ : Int, (mx (wrap64 ((y1085.length : Int) - (ji50))) 0) = j_ := ⟨_, rfl⟩
     replace H : (if 0 ≤ (ji51) then (if (ji51) ≤ (y1085.length : Int) then ((some (y1085.drop ((ji51) : Int).toNat : List (S_Mark))).bind fun y1088 => (if ([] : List (S_Mark)).length + y1088.length < 8796093022208 then (some (t1065, t1066, a2, a3, (([] : List (S_Mark)) ++ y1088))) else (none))) else (none)) else (none)) = some (r1, r2, r3, r4, r5) := by first | (rw [hji51] at H; exact H) | (simp only [hji51] at H ⊢; exact H)
     have hji51_ : (if (wrap64 ((y1085.length : Int) - (ji50))) < 0 then 0 else (wrap64 ((y1085.length : Int) - (ji50)))) = ji51 := hji51
     by_cases c52 : 0 ≤ (ji51)
     ·
      rw [if_pos c52] at H
      have c52b0 := eq_true c52
      have c52b1 : decide (0 ≤ (ji51)) = true := decide_eq_true c52
      clear c52
      by_cases c53 : (ji51) ≤ (y1085.length : Int)
      ·
       rw [if_pos c53] at H
       have c53b0 := eq_true c53
       have c53b1 : decide ((ji51) ≤ (y1085.length : Int)) = true := decide_eq_true c53
       clear c53
       obtain ⟨y1088, hy1088⟩ : ∃ y_ : List (S_Mark), y_ = (y1085.drop ((ji51) : Int).toNat) := ⟨_, rfl⟩
       replace H : (if ([] : List (S_Mark)).length + y1088.length < 8796093022208 then (some (t1065, t1066, a2, a3, (([] : List (S_Mark)) ++ y1088))) else (none)) = some (r1, r2, r3, r4, r5) := by first | (rw [hy1088]; with_reducible exact H) | (have H2_ := (Option.bind_some _ _).symm.trans H; rw [hy1088]; with_reducible exact H2_) | (have H2_ := (Option.bind_some _ _).symm.trans H; with_reducible exact H2_) | with_reducible exact H | (rw [hy1088]; exact H) | exact H
       have Ny1088 := Aside0.mk hy1088
       clear hy1088
       by_cases c54 : ([] : List (S_Mark)).length + y1088.length < 8796093022208
       ·
        rw [if_pos c54] at H
        have LMc54 := Aside0.mk c54
        clear c54
        obtain ⟨y1092, hy1092⟩ : ∃ y_ : List (S_Mark), y_ = (([] : List (S_Mark)) ++ y1088) := ⟨_, rfl⟩
        replace H : (some (t1065, t1066, a2, a3, y1092)) = some (r1, r2, r3, r4, r5) := by first | (rw [hy1092]; with_reducible exact H) | (have H2_ := (Option.bind_some _ _).symm.trans H; rw [hy1092]; with_reducible exact H2_) | (have H2_ := (Option.bind_some _ _).symm.trans H; with_reducible exact H2_) | with_reducible exact H | (rw [hy1092]; exact H) | exact H
        have Ny1092 := Aside0.mk hy1092
        clear hy1092
        simp only [Option.some.injEq, Prod.mk.injEq] at H
        obtain ⟨rfl, rfl, rfl, rfl, rfl⟩ := H
        have hnb55 := NB1063_1064.out
        have hnc55 := NB1064_1063.out
        have hnb56 := NB1063_1072.out
        have hnc56 := NB1072_1063.out
        have hcz57_0 : wc.cell? ⟨gb1063, 0, none⟩ = some (.int .i64 a0_0) := (blk_cell BK1063.out 0).trans rfl
        have hcz57_1 : wc.cell? ⟨gb1063, 1, none⟩ = some (.int .i64 a0_1) := (blk_cell BK1063.out 1).trans rfl
        have hcz57_2 : wc.cell? ⟨gb1063, 2, none⟩ = some (.int .i64 a0_2) := (blk_cell BK1063.out 2).trans rfl
        have hcz57_3 : wc.cell? ⟨gb1063, 3, none⟩ = some (.int .i64 a0_3) := (blk_cell BK1063.out 3).trans rfl
        have hcz57_4 : wc.cell? ⟨gb1063, 4, none⟩ = some (.slice A0_4 l0_4.length c0_4) := (blk_cell BK1063.out 4).trans rfl
        have hfz57_0 := blk_frozen BK1063.out 0
        have hfz57_1 := blk_frozen BK1063.out 1
        have hfz57_2 := blk_frozen BK1063.out 2
        have hfz57_3 := blk_frozen BK1063.out 3
        have hfz57_4 := blk_frozen BK1063.out 4
        have hnb58 := NB1072_1064.out
        have hnc58 := NB1064_1072.out
        have hcz59_0 : wc.cell? ⟨gb1072, 0, none⟩ = some (.int .i64 t1065) := (blk_cell BK1072.out 0).trans rfl
        have hcz59_1 : wc.cell? ⟨gb1072, 1, none⟩ = some (.int .i64 t1066) := (blk_cell BK1072.out 1).trans rfl
        have hcz59_2 : wc.cell? ⟨gb1072, 2, none⟩ = some (.int .i64 t1067) := (blk_cell BK1072.out 2).trans rfl
        have hcz59_3 : wc.cell? ⟨gb1072, 3, none⟩ = some (.int .i64 t1068) := (blk_cell BK1072.out 3).trans rfl
        have hcz59_4 : wc.cell? ⟨gb1072, 4, none⟩ = some (.slice Ao18 t1069.length co18) := (blk_cell BK1072.out 4).trans rfl
        have hfz59_0 := blk_frozen BK1072.out 0
        have hfz59_1 := blk_frozen BK1072.out 1
        have hfz59_2 := blk_frozen BK1072.out 2
        have hfz59_3 := blk_frozen BK1072.out 3
        have hfz59_4 := blk_frozen BK1072.out 4
        go_wp2_with (first | ((with_reducible refine gate_builtin (b := .append) (xs := #[.tmp 36, .tmp 40]) rfl ?_); at_builtin; refine Kd.R_append k_Mark (w0 := w) w.heap.size rfl (.tmp 36) (.tmp 40) 52 118 (.agg #[(.int .i64 0), (.int .i64 0)]) 16 rfl Try.underlying52 info118 rfl (by decide) (by omega) (.slice Ao18 t1069.length co18) t1069 (⟨a3, a4⟩ : S_Mark) [.int .i64 a3, .int .i64 a4] (fun _ => True) (fun _ => False) rfl (by first | (go_simp; done) | (go_simp; rfl)) ?aP (fun _ hk => hk.elim) ?aF ?aO ?aB ?aS ?aL ?_; (case aP => exact k_Mark_mkM _ _ _ (⟨a3, a4⟩ : S_Mark)); (case aB => exact (hb_ HB.out)); (case aF => exact (fun _ _ => trivial)); (case aO => exact (by (with_reducible repeat (first | apply Kd.R_alloc | apply Kd.R_drewN | apply Kd.R_drew)); exact Kd.R_mono (Kd.R_far (p := ⟨gb1072, 3, none⟩) (Kd.R_far (p := ⟨gb1072, 2, none⟩) (Kd.R_types HO_1073004.out BK1072.out (by decide)) (fun _ hk => hk.2) (.int .i64 a2)) (fun _ hk => hk.2) (.int .i64 a3)) (fun _ hk => trivial))); (case aS => exact (below_size (hb_ HB.out))); (case aL => have := LMc49.out; omega); intro v1086 w60 ho hb hg hat; rw [← Ny1085.out] at ho; have n0_ := Aside0.mk (blk_grown (g := gb1063) (o := .cells #[.int .i64 a0_0, .int .i64 a0_1, .int .i64 a0_2, .int .i64 a0_3, .slice A0_4 l0_4.length c0_4] 54 (0, 0)) (bf_ NB1063_1072.out BK1063.out) hg (Kd.R_ne HO_1073004.out BK1063.out (by decide))); have n1_ := Aside0.mk (blk_grown (g := gb1064) (o := .cells #[.int .i64 x1065000_7, .int .i64 x1065001_7, .int .i64 x1065002_7, .int .i64 x1065003_7, .slice none 0 0] 54 (0, 0)) (bf_ NB1064_1072.out BK1064.out) hg (Kd.R_ne HO_1073004.out BK1064.out (by decide))); have n2_ := Aside0.mk (blk_grown (g := gb1072) (o := .cells #[.int .i64 t1065, .int .i64 t1066, .int .i64 a2, .int .i64 a3, .slice Ao18 t1069.length co18] 54 (0, 0)) (bp_ BK1072.out) hg (Kd.R_ne HO_1073004.out BK1072.out (by decide))); have n3_ := Aside0.mk (hb); have n4_ := Aside0.mk (ho); clear BK1063; clear BK1064; clear BK1072; clear HB; clear HO_1073004; have BK1063 := n0_; have BK1064 := n1_; have BK1072 := n2_; have HB := n3_; have HO1087 := n4_; clear n0_ n1_ n2_ n3_ n4_; clear ho hb hg hat; obtain ⟨Ao61, co61, eo61⟩ := Kd.R_slice HO1087.out; subst eo61; have hcz62_0 : w60.cell? ⟨gb1072, 0, none⟩ = some (.int .i64 t1065) := (blk_cell BK1072.out 0).trans rfl; have hcz62_1 : w60.cell? ⟨gb1072, 1, none⟩ = some (.int .i64 t1066) := (blk_cell BK1072.out 1).trans rfl; have hcz62_2 : w60.cell? ⟨gb1072, 2, none⟩ = some (.int .i64 a2) := (blk_cell BK1072.out 2).trans rfl; have hcz62_3 : w60.cell? ⟨gb1072, 3, none⟩ = some (.int .i64 a3) := (blk_cell BK1072.out 3).trans rfl; have hcz62_4 : w60.cell? ⟨gb1072, 4, none⟩ = some (.slice Ao18 t1069.length co18) := (blk_cell BK1072.out 4).trans rfl; have hfz62_0 := blk_frozen BK1072.out 0; have hfz62_1 := blk_frozen BK1072.out 1; have hfz62_2 := blk_frozen BK1072.out 2; have hfz62_3 := blk_frozen BK1072.out 3; have hfz62_4 := blk_frozen BK1072.out 4) | ((with_reducible refine gate_store (t := 52) (p := 42) rfl ?_); refine store_event (t := 52) (p := 42) (v := ?vo_w63) (w1 := (w60.setCell ⟨gb1072, 4, none⟩ (.slice Ao61 y1085.length co61))) ?hg ?ho ?hn ?hr ?_; (case ho => rfl); (case hg => rfl); (case hn => rfl); (case hr => first | (go_simp; done) | (go_simp; rfl)); intro w63 hw; have n0_ : Aside0 (Kd.R k_Mark 118 w63 w.heap.size (fun _ => True) (.slice Ao61 y1085.length co61) y1085) := ⟨(by rw [hw]; exact (by (with_reducible repeat (first | apply Kd.R_alloc | apply Kd.R_drewN | apply Kd.R_drew)); exact Kd.R_mono (Kd.R_far (p := ⟨gb1072, 4, none⟩) (Kd.R_types HO1087.out BK1072.out (by decide)) (fun _ hk => hk.2) (.slice Ao61 y1085.length co61)) (fun _ hk => trivial)))⟩; have n1_ : Aside0 (w63.heap[gb1063]? = some (.cells #[.int .i64 a0_0, .int .i64 a0_1, .int .i64 a0_2, .int .i64 a0_3, .slice A0_4 l0_4.length c0_4] 54 (0, 0))) := ⟨(by rw [hw]; exact (bf_ NB1063_1072.out BK1063.out))⟩; have n2_ : Aside0 (w63.heap[gb1064]? = some (.cells #[.int .i64 x1065000_7, .int .i64 x1065001_7, .int .i64 x1065002_7, .int .i64 x1065003_7, .slice none 0 0] 54 (0, 0))) := ⟨(by rw [hw]; exact (bf_ NB1064_1072.out BK1064.out))⟩; have n3_ : Aside0 (w63.heap[gb1072]? = some (.cells #[.int .i64 t1065, .int .i64 t1066, .int .i64 a2, .int .i64 a3, .slice Ao61 y1085.length co61] 54 (0, 0))) := ⟨(by rw [hw]; exact (bp_ BK1072.out))⟩; have n4_ : Aside0 (Below w.heap.size w w63) := ⟨(by rw [hw]; exact (hb_ HB.out))⟩; clear hw; clear HO1087; clear BK1063; clear BK1064; clear BK1072; clear HB; have HO1087 := n0_; have BK1063 := n1_; have BK1064 := n2_; have BK1072 := n3_; have HB := n4_; clear n0_ n1_ n2_ n3_ n4_; have hcz64_0 : w63.cell? ⟨gb1072, 0, none⟩ = some (.int .i64 t1065) := (blk_cell BK1072.out 0).trans rfl; have hcz64_1 : w63.cell? ⟨gb1072, 1, none⟩ = some (.int .i64 t1066) := (blk_cell BK1072.out 1).trans rfl; have hcz64_2 : w63.cell? ⟨gb1072, 2, none⟩ = some (.int .i64 a2) := (blk_cell BK1072.out 2).trans rfl; have hcz64_3 : w63.cell? ⟨gb1072, 3, none⟩ = some (.int .i64 a3) := (blk_cell BK1072.out 3).trans rfl; have hcz64_4 : w63.cell? ⟨gb1072, 4, none⟩ = some (.slice Ao61 y1085.length co61) := (blk_cell BK1072.out 4).trans rfl; have hfz64_0 := blk_frozen BK1072.out 0; have hfz64_1 := blk_frozen BK1072.out 1; have hfz64_2 := blk_frozen BK1072.out 2; have hfz64_3 := blk_frozen BK1072.out 3; have hfz64_4 := blk_frozen BK1072.out 4; have q65 : ((ji51) : Int) ≤ ((y1085.length : Int) : Int) := of_decide_eq_true (by first | (with_reducible assumption) | assumption); obtain ⟨i065, hi065, _, hsz65, _⟩ := info_parts info118; have hroom65 : y1085.length ≤ co61 := (Kd.R_reads' HO1087.out).2.1; have hC65 : Kd.C k_Mark _ Ao61 y1085.length y1085 := (Kd.R_reads' HO1087.out).2.2; have q065 : (0 : Int) ≤ ((ji51) : Int) := of_decide_eq_true (by first | (with_reducible assumption) | assumption); have hcut65 := cut_from (P := Try.prog) 52 118 .i64 Try.underlying52 hi065 2 hsz65 Ao61 y1085.length co61 (ji51) q065 q65; have hr65 := Kd.C_drop (m := ((ji51) : Int).toNat) (c := co61) hC65 (by omega) hroom65; obtain ⟨A65, hA65⟩ : ∃ A1, A1 = (if co61 = ((ji51) : Int).toNat then Ao61 else (Ao61 : Option Addr).map (·.add (((ji51) : Int).toNat * 2))) := ⟨_, rfl⟩; obtain ⟨c65, hc65⟩ : ∃ c1, c1 = co61 - ((ji51) : Int).toNat := ⟨_, rfl⟩; have hy65 : y1088.length = y1085.length - ((ji51) : Int).toNat := (by rw [Ny1088.out, List.length_drop] <;> omega); rw [show (y1085).drop ((ji51) : Int).toNat = y1088 from Ny1088.out.symm] at hr65; replace hr65 : Kd.C k_Mark _ A65 y1088.length y1088 := (by rw [hA65]; exact hr65); rw [← hy65, ← hA65, ← hc65] at hcut65; have HR1091 := Aside0.mk hr65; have HC1091 := Aside0.mk (show y1088.length ≤ c65 from by rw [hy65, hc65]; exact Nat.sub_le_sub_right hroom65 _); clear hr65 hC65 hroom65 hi065 hsz65 hc65; have KY65 := Aside0.mk hy65; have KA65 := Aside0.mk hA65; clear hy65 hA65; have KL65 := Aside0.mk (show ((ji51) : Int).toNat ≤ y1085.length from by omega); replace q65 := eq_true q65) | ((with_reducible refine gate_builtin (b := .append) (xs := #[.const (.slice none 0 0), .tmp 52]) rfl ?_); at_builtin; refine Kd.R_append_rows k_Mark (w0 := w) w.heap.size rfl (.const (.slice none 0 0)) (.tmp 52) 52 118 (.agg #[(.int .i64 0), (.int .i64 0)]) 16 rfl Try.underlying52 info118 rfl (by decide) (by omega) (.slice none 0 0) ([] : List (S_Mark)) y1088 _ _ _ (fun k_ => some k_ ≠ (.slice Ao61 y1085.length co61 : Value).ownBlock) (fun _ => False) rfl rfl ?aO ?aR (fun _ _ h => h) (fun _ h => h.elim) ?aF ?aB ?aS ?aL ?_; (case aR => repeat (first | exact (by repeat (first | (with_reducible exact HR1091.out) | (with_reducible refine Kd.C_alloc ?_ _) | (with_reducible refine Kd.C_drewN ?_ _) | (with_reducible refine Kd.C_drew ?_) | exact HR1091.out)) | (with_reducible refine Kd.C_alloc ?_ _) | (with_reducible refine Kd.C_drewN ?_ _) | (with_reducible refine Kd.C_drew ?_))); (case aB => exact (hb_ HB.out)); (case aF => exact (fun k_ hk => Kd.fresh' (Kd.R_lt (rq_ HO1087.out)) k_ hk)); (case aO => exact ((Kd.R_nil _ _ _ _ (fun k_ => some k_ ≠ (.slice Ao61 y1085.length co61 : Value).ownBlock)))); (case aS => exact (below_size (hb_ HB.out))); (case aL => have := LMc54.out; omega); intro v1093 w66 ho hb hg hat; rw [← Ny1092.out] at ho; have n0_ := Aside0.mk (blk_grown (g := gb1063) (o := .cells #[.int .i64 a0_0, .int .i64 a0_1, .int .i64 a0_2, .int .i64 a0_3, .slice A0_4 l0_4.length c0_4] 54 (0, 0)) (bq_ BK1063.out) hg (by simp [Value.ownBlock])); have n1_ := Aside0.mk (blk_grown (g := gb1064) (o := .cells #[.int .i64 x1065000_7, .int .i64 x1065001_7, .int .i64 x1065002_7, .int .i64 x1065003_7, .slice none 0 0] 54 (0, 0)) (bq_ BK1064.out) hg (by simp [Value.ownBlock])); have n2_ := Aside0.mk (blk_grown (g := gb1072) (o := .cells #[.int .i64 t1065, .int .i64 t1066, .int .i64 a2, .int .i64 a3, .slice Ao61 y1085.length co61] 54 (0, 0)) (bq_ BK1072.out) hg (by simp [Value.ownBlock])); have n3_ := Aside0.mk (Kd.R_after (Kd.R_apart_nil (rq_ HO1087.out)) hg hat); have n4_ := Aside0.mk (hb); have n5_ := Aside0.mk ((show Kd.C k_Mark w66 A65 y1088.length y1088 from by rw [Ny1088.out, KA65.out]; exact Kd.C_drop (m := ((ji51) : Int).toNat) (c := co61) ((Kd.R_reads' (Kd.R_after (Kd.R_apart_nil (rq_ HO1087.out)) hg hat)).2.2) KL65.out ((Kd.R_reads' (Kd.R_after (Kd.R_apart_nil (rq_ HO1087.out)) hg hat)).2.1))); have n6_ := Aside0.mk (ho); clear BK1063; clear BK1064; clear BK1072; clear HO1087; clear HB; clear HR1091; have BK1063 := n0_; have BK1064 := n1_; have BK1072 := n2_; have HO1087 := n3_; have HB := n4_; have HR1091 := n5_; have HO1094 := n6_; clear n0_ n1_ n2_ n3_ n4_ n5_ n6_; clear ho hb hg hat; obtain ⟨Ao67, co67, eo67⟩ := Kd.R_slice HO1094.out; subst eo67; have hcz68_0 : w66.cell? ⟨gb1072, 0, none⟩ = some (.int .i64 t1065) := (blk_cell BK1072.out 0).trans rfl; have hcz68_1 : w66.cell? ⟨gb1072, 1, none⟩ = some (.int .i64 t1066) := (blk_cell BK1072.out 1).trans rfl; have hcz68_2 : w66.cell? ⟨gb1072, 2, none⟩ = some (.int .i64 a2) := (blk_cell BK1072.out 2).trans rfl; have hcz68_3 : w66.cell? ⟨gb1072, 3, none⟩ = some (.int .i64 a3) := (blk_cell BK1072.out 3).trans rfl; have hcz68_4 : w66.cell? ⟨gb1072, 4, none⟩ = some (.slice Ao61 y1085.length co61) := (blk_cell BK1072.out 4).trans rfl; have hfz68_0 := blk_frozen BK1072.out 0; have hfz68_1 := blk_frozen BK1072.out 1; have hfz68_2 := blk_frozen BK1072.out 2; have hfz68_3 := blk_frozen BK1072.out 3; have hfz68_4 := blk_frozen BK1072.out 4; have hcz69_0 : w66.cell? ⟨gb1064, 0, none⟩ = some (.int .i64 x1065000_7) := (blk_cell BK1064.out 0).trans rfl; have hcz69_1 : w66.cell? ⟨gb1064, 1, none⟩ = some (.int .i64 x1065001_7) := (blk_cell BK1064.out 1).trans rfl; have hcz69_2 : w66.cell? ⟨gb1064, 2, none⟩ = some (.int .i64 x1065002_7) := (blk_cell BK1064.out 2).trans rfl; have hcz69_3 : w66.cell? ⟨gb1064, 3, none⟩ = some (.int .i64 x1065003_7) := (blk_cell BK1064.out 3).trans rfl; have hcz69_4 : w66.cell? ⟨gb1064, 4, none⟩ = some (.slice none 0 0) := (blk_cell BK1064.out 4).trans rfl; have hfz69_0 := blk_frozen BK1064.out 0; have hfz69_1 := blk_frozen BK1064.out 1; have hfz69_2 := blk_frozen BK1064.out 2; have hfz69_3 := blk_frozen BK1064.out 3; have hfz69_4 := blk_frozen BK1064.out 4))
        refine bodyPost_ret (results_cell_row rfl _ _ gb1064 54 #[.int .i64 t1065, .int .i64 t1066, .int .i64 a2, .int .i64 a3, .slice Ao67 y1092.length co67] (0, 0) _ rfl (by (with_reducible repeat (first | refine blk_drewN ?_ _ | refine blk_drew ?_ | refine blk_alloc ?_ _)); refine blk_put (cs := #[.int .i64 t1065, .int .i64 t1066, .int .i64 a2, .int .i64 a3, .slice none 0 0]) ?_ 4 _ rfl; (with_reducible repeat (first | refine blk_drewN ?_ _ | refine blk_drew ?_ | refine blk_alloc ?_ _)); refine blk_put (cs := #[.int .i64 t1065, .int .i64 t1066, .int .i64 a2, .int .i64 x1065003_7, .slice none 0 0]) ?_ 3 _ rfl; (with_reducible repeat (first | refine blk_drewN ?_ _ | refine blk_drew ?_ | refine blk_alloc ?_ _)); refine blk_put (cs := #[.int .i64 t1065, .int .i64 t1066, .int .i64 x1065002_7, .int .i64 x1065003_7, .slice none 0 0]) ?_ 2 _ rfl; (with_reducible repeat (first | refine blk_drewN ?_ _ | refine blk_drew ?_ | refine blk_alloc ?_ _)); refine blk_put (cs := #[.int .i64 t1065, .int .i64 x1065001_7, .int .i64 x1065002_7, .int .i64 x1065003_7, .slice none 0 0]) ?_ 1 _ rfl; (with_reducible repeat (first | refine blk_drewN ?_ _ | refine blk_drew ?_ | refine blk_alloc ?_ _)); refine blk_put (cs := #[.int .i64 x1065000_7, .int .i64 x1065001_7, .int .i64 x1065002_7, .int .i64 x1065003_7, .slice none 0 0]) ?_ 0 _ rfl; (with_reducible repeat (first | refine blk_drewN ?_ _ | refine blk_drew ?_ | refine blk_alloc ?_ _)); refine blk_far ?_ NB1064_1072.out _; (with_reducible repeat (first | refine blk_drewN ?_ _ | refine blk_drew ?_ | refine blk_alloc ?_ _)); exact BK1064.out) Try.underlying54 rfl (by kernel_rfl)) rfl ?_
        exact ⟨_, by first | rfl | (simp [errW_none, errW_some] <;> rfl) | (simp only [← hji50, ← hji51]; first | rfl | (simp [errW_none, errW_some] <;> rfl)) | (simp [*, errW_none, errW_some] <;> rfl), by (with_reducible repeat (first | apply Kd.R_alloc | apply Kd.R_drewN | apply Kd.R_drew)); exact Kd.R_mono (Kd.R_far (p := ⟨gb1064, 4, none⟩) (Kd.R_far (p := ⟨gb1064, 3, none⟩) (Kd.R_far (p := ⟨gb1064, 2, none⟩) (Kd.R_far (p := ⟨gb1064, 1, none⟩) (Kd.R_far (p := ⟨gb1064, 0, none⟩) (Kd.R_far (p := ⟨gb1072, 4, none⟩) (Kd.R_types (Kd.R_types HO1094.out BK1072.out (by decide)) BK1064.out (by decide)) (fun _ hk => hk.1.2) (.slice Ao67 y1092.length co67)) (fun _ hk => hk.2) (.int .i64 t1065)) (fun _ hk => hk.2) (.int .i64 t1066)) (fun _ hk => hk.2) (.int .i64 a2)) (fun _ hk => hk.2) (.int .i64 a3)) (fun _ hk => hk.2) (.slice Ao67 y1092.length co67)) (fun _ hk => trivial), hb_ HB.out⟩
       ·
        rw [if_neg c54] at H
        exact absurd H (by simp)
      ·
       rw [if_neg c53] at H
       exact absurd H (by simp)
     ·
      rw [if_neg c52] at H
      exact absurd H (by simp)
    ·
     rw [if_neg c49] at H
     exact absurd H (by simp)
/-! ### spec_l1Max: function 113 -/
def spec_l1Max.f (a0 : Int) (a1 : Int) : Option (Int) := if a0 > a1 then (some a0) else (some a1)
set_option maxHeartbeats 8000000 in
set_option maxRecDepth 100000 in
theorem spec_l1Max.calls (a0 : Int) (a1 : Int) (r : Int) (w : World) (h : spec_l1Max.f a0 a1 = some r) :
    Calls Try.prog 113 #[.int .i64 a0, .int .i64 a1] w fun e w' => e = .returned (.int .i64 r) ∧ Drawn0 w w' := by
  have H : (if a0 > a1 then (some a0) else (some a1)) = some r := h
  clear h
  by_cases c3 : a0 > a1
  · rw [if_pos c3] at H
    have c3b0 : decide (a1 < a0) = true := decide_eq_true c3
    clear c3
    obtain rfl := Option.some.inj H
    go_enter Try.func113, Try.ntmps113
    go_wp2
    go_ret
    exact ⟨by first | rfl | (simp; done) | (simp [*]; done), by repeat (first | exact Drawn0.refl _ | apply Drawn0.step)⟩
  · rw [if_neg c3] at H
    have c3b0 : decide (a1 < a0) = false := decide_eq_false c3
    clear c3
    obtain rfl := Option.some.inj H
    go_enter Try.func113, Try.ntmps113
    go_wp2
    go_ret
    exact ⟨by first | rfl | (simp; done) | (simp [*]; done), by repeat (first | exact Drawn0.refl _ | apply Drawn0.step)⟩

section
attribute [local go_sem high] eqA_Mark
/-! ### laws_sameMaker: function 62 -/
mutual
def laws_sameMaker.j0 : Nat → Bool → Int → Int → Int → Int → List (S_Mark) → Int → Int → Int → Int → List (S_Mark) → Option (Bool)
  | 0, _, _, _, _, _, _, _, _, _, _, _ => none
  | k + 1, x40, x1379000, x1379001, x1379002, x1379003, x1379004, x1380000, x1380001, x1380002, x1380003, x1380004 => if x40 = true then (some false) else (laws_sameMaker.l0 k 0 x1379000 x1379001 x1379002 x1379003 x1379004 x1380000 x1380001 x1380002 x1380003 x1380004)
def laws_sameMaker.l0 : Nat → Int → Int → Int → Int → Int → List (S_Mark) → Int → Int → Int → Int → List (S_Mark) → Option (Bool)
  | 0, _, _, _, _, _, _, _, _, _, _, _ => none
  | k + 1, x5, x1379000, x1379001, x1379002, x1379003, x1379004, x1380000, x1380001, x1380002, x1380003, x1380004 => if x5 < (x1379004.length : Int) then (if 0 ≤ x5 then (if x5 < (x1380004.length : Int) then (if (!(((rd_Mark x1379004 x5).f0) == ((rd_Mark x1380004 x5).f0)) || (!(((rd_Mark x1379004 x5).f1) == ((rd_Mark x1380004 x5).f1)))) = true then (some false) else (laws_sameMaker.l0 k (wrap64 (x5 + 1)) x1379000 x1379001 x1379002 x1379003 x1379004 x1380000 x1380001 x1380002 x1380003 x1380004)) else (none)) else (none)) else (some true)
end
def laws_sameMaker.f (k : Nat) (a0_0 : Int) (a0_1 : Int) (a0_2 : Int) (a0_3 : Int) (l0_4 : List (S_Mark)) (a1_0 : Int) (a1_1 : Int) (a1_2 : Int) (a1_3 : Int) (l1_4 : List (S_Mark)) : Option (Bool) := if a0_0 = a1_0 then (if a0_1 = a1_1 then (if a0_2 = a1_2 then (if a0_3 = a1_3 then (laws_sameMaker.j0 k ((l0_4.length : Int) != (l1_4.length : Int)) a0_0 a0_1 a0_2 a0_3 l0_4 a1_0 a1_1 a1_2 a1_3 l1_4) else (laws_sameMaker.j0 k true a0_0 a0_1 a0_2 a0_3 l0_4 a1_0 a1_1 a1_2 a1_3 l1_4)) else (laws_sameMaker.j0 k true a0_0 a0_1 a0_2 a0_3 l0_4 a1_0 a1_1 a1_2 a1_3 l1_4)) else (laws_sameMaker.j0 k true a0_0 a0_1 a0_2 a0_3 l0_4 a1_0 a1_1 a1_2 a1_3 l1_4)) else (laws_sameMaker.j0 k true a0_0 a0_1 a0_2 a0_3 l0_4 a1_0 a1_1 a1_2 a1_3 l1_4)
theorem laws_sameMaker.mono_l : ∀ k, (∀ y0 y1 y2 y3 y4 y5 y6 y7 y8 y9 y10, LeO (laws_sameMaker.j0 k y0 y1 y2 y3 y4 y5 y6 y7 y8 y9 y10) (laws_sameMaker.j0 (k + 1) y0 y1 y2 y3 y4 y5 y6 y7 y8 y9 y10)) ∧ (∀ y0 y1 y2 y3 y4 y5 y6 y7 y8 y9 y10, LeO (laws_sameMaker.l0 k y0 y1 y2 y3 y4 y5 y6 y7 y8 y9 y10) (laws_sameMaker.l0 (k + 1) y0 y1 y2 y3 y4 y5 y6 y7 y8 y9 y10))
  | 0 => ⟨fun _ _ _ _ _ _ _ _ _ _ _ r h => by simp [laws_sameMaker.j0] at h, fun _ _ _ _ _ _ _ _ _ _ _ r h => by simp [laws_sameMaker.l0] at h⟩
  | k + 1 => by
    obtain ⟨ih0, ih1⟩ := laws_sameMaker.mono_l k
    refine ⟨?_, ?_⟩
    · intro y0 y1 y2 y3 y4 y5 y6 y7 y8 y9 y10
      unfold laws_sameMaker.j0
      repeat' first
      | (with_reducible exact ih0 _ _ _ _ _ _ _ _ _ _ _)
      | (with_reducible exact ih1 _ _ _ _ _ _ _ _ _ _ _)
      | (with_reducible exact LeO.refl _)
      | (with_reducible exact LeO.none _)
      | (with_reducible refine LeO.ite ?_ ?_)
      | (with_reducible refine LeO.bind ?_ (fun _ => ?_))
      | exact ih0 _ _ _ _ _ _ _ _ _ _ _
      | exact ih1 _ _ _ _ _ _ _ _ _ _ _
      | exact LeO.none _
      | refine LeO.ite ?_ ?_
      | refine LeO.bind ?_ (fun _ => ?_)
    · intro y0 y1 y2 y3 y4 y5 y6 y7 y8 y9 y10
      unfold laws_sameMaker.l0
      repeat' first
      | (with_reducible exact ih0 _ _ _ _ _ _ _ _ _ _ _)
      | (with_reducible exact ih1 _ _ _ _ _ _ _ _ _ _ _)
      | (with_reducible exact LeO.refl _)
      | (with_reducible exact LeO.none _)
      | (with_reducible refine LeO.ite ?_ ?_)
      | (with_reducible refine LeO.bind ?_ (fun _ => ?_))
      | exact ih0 _ _ _ _ _ _ _ _ _ _ _
      | exact ih1 _ _ _ _ _ _ _ _ _ _ _
      | exact LeO.none _
      | refine LeO.ite ?_ ?_
      | refine LeO.bind ?_ (fun _ => ?_)
theorem laws_sameMaker.mono : ∀ a0 a1 a2 a3 a4 a5 a6 a7 a8 a9 k, LeO (laws_sameMaker.f k a0 a1 a2 a3 a4 a5 a6 a7 a8 a9) (laws_sameMaker.f (k + 1) a0 a1 a2 a3 a4 a5 a6 a7 a8 a9) := by
  intro a0 a1 a2 a3 a4 a5 a6 a7 a8 a9 k
  obtain ⟨ih0, ih1⟩ := laws_sameMaker.mono_l k
  unfold laws_sameMaker.f
  repeat' first
      | (with_reducible exact ih0 _ _ _ _ _ _ _ _ _ _ _)
      | (with_reducible exact ih1 _ _ _ _ _ _ _ _ _ _ _)
      | (with_reducible exact LeO.refl _)
      | (with_reducible exact LeO.none _)
      | (with_reducible refine LeO.ite ?_ ?_)
      | (with_reducible refine LeO.bind ?_ (fun _ => ?_))
      | exact ih0 _ _ _ _ _ _ _ _ _ _ _
      | exact ih1 _ _ _ _ _ _ _ _ _ _ _
      | exact LeO.none _
      | refine LeO.ite ?_ ?_
      | refine LeO.bind ?_ (fun _ => ?_)
set_option maxHeartbeats 8000000 in
set_option maxRecDepth 100000 in
theorem laws_sameMaker.calls (k : Nat) (a0_0 : Int) (a0_1 : Int) (a0_2 : Int) (a0_3 : Int) (A0_4 : Option Addr) (c0_4 : Nat) (l0_4 : List (S_Mark)) (a1_0 : Int) (a1_1 : Int) (a1_2 : Int) (a1_3 : Int) (A1_4 : Option Addr) (c1_4 : Nat) (l1_4 : List (S_Mark)) (r : Bool) (w : World) (hr0_4 : Kd.C k_Mark w A0_4 l0_4.length l0_4) (hc0_4 : l0_4.length ≤ c0_4) (hr1_4 : Kd.C k_Mark w A1_4 l1_4.length l1_4) (hc1_4 : l1_4.length ≤ c1_4) (h : laws_sameMaker.f k a0_0 a0_1 a0_2 a0_3 l0_4 a1_0 a1_1 a1_2 a1_3 l1_4 = some r) :
    Calls Try.prog 62 #[.agg #[.int .i64 a0_0, .int .i64 a0_1, .int .i64 a0_2, .int .i64 a0_3, .slice A0_4 l0_4.length c0_4], .agg #[.int .i64 a1_0, .int .i64 a1_1, .int .i64 a1_2, .int .i64 a1_3, .slice A1_4 l1_4.length c1_4]] w fun e w' => e = .returned (.bool r) ∧ Below w.heap.size w w' := by
  have hu54 := Try.underlying54
  have hu118 := Try.underlying118
  have HR0_4 := Aside0.mk hr0_4
  have HC0_4 := Aside0.mk hc0_4
  clear hr0_4 hc0_4
  have HR1_4 := Aside0.mk hr1_4
  have HC1_4 := Aside0.mk hc1_4
  clear hr1_4 hc1_4
  have HB := Aside0.mk (Below.refl w.heap.size w)
  have H : (if a0_0 = a1_0 then (if a0_1 = a1_1 then (if a0_2 = a1_2 then (if a0_3 = a1_3 then (laws_sameMaker.j0 k ((l0_4.length : Int) != (l1_4.length : Int)) a0_0 a0_1 a0_2 a0_3 l0_4 a1_0 a1_1 a1_2 a1_3 l1_4) else (laws_sameMaker.j0 k true a0_0 a0_1 a0_2 a0_3 l0_4 a1_0 a1_1 a1_2 a1_3 l1_4)) else (laws_sameMaker.j0 k true a0_0 a0_1 a0_2 a0_3 l0_4 a1_0 a1_1 a1_2 a1_3 l1_4)) else (laws_sameMaker.j0 k true a0_0 a0_1 a0_2 a0_3 l0_4 a1_0 a1_1 a1_2 a1_3 l1_4)) else (laws_sameMaker.j0 k true a0_0 a0_1 a0_2 a0_3 l0_4 a1_0 a1_1 a1_2 a1_3 l1_4)) = some r := h
  clear h
  have HC3 := Aside0.mk H
  clear H
  go_enter Try.func62, Try.ntmps62
  go_upto_region 1 with (first | ((with_reducible refine gate_dst (N := 2) rfl ?_); (try (refine gate_guard (by rfl) ?_; dsimp only)); refine box_event ?hg (N := 2) ?hd (cs := #[.int .i64 a0_0, .int .i64 a0_1, .int .i64 a0_2, .int .i64 a0_3, .slice A0_4 l0_4.length c0_4]) (t := 54) ?hr ?_; (case hd => rfl); (case hg => rfl); (case hr => first | (go_simp; done) | (go_simp; rfl)); intro gb1378 hg w4 hbox hb; have n0_ := Aside0.mk (below_step (by repeat (first | (with_reducible first | exact HB.out | apply below_alloc | apply pw_below_drewN | apply below_drew1) | exact HB.out)) hb); have n1_ := Aside0.mk (hbox); have n2_ := Aside0.mk ((by rw [hg]; exact (below_size (by repeat (first | (with_reducible first | exact HB.out | apply below_alloc | apply pw_below_drewN | apply below_drew1) | exact HB.out))) : w.heap.size ≤ gb1378)); have n3_ := Aside0.mk ((by rw [hg]; exact (below_size (by repeat (first | (with_reducible first | exact HB.out | apply below_alloc | apply pw_below_drewN | apply below_drew1) | exact HB.out))) : w.heap.size ≤ gb1378)); clear HB; have HB := n0_; have BK1378 := n1_; have GW1378 := n2_; have GE1378 := n3_; clear n0_ n1_ n2_ n3_; clear hb hbox hg) | ((with_reducible refine gate_dst (N := 3) rfl ?_); (try (refine gate_guard (by rfl) ?_; dsimp only)); refine box_event ?hg (N := 3) ?hd (cs := #[.int .i64 a1_0, .int .i64 a1_1, .int .i64 a1_2, .int .i64 a1_3, .slice A1_4 l1_4.length c1_4]) (t := 54) ?hr ?_; (case hd => rfl); (case hg => rfl); (case hr => first | (go_simp; done) | (go_simp; rfl)); intro gb1379 hg w5 hbox hb; have n0_ := Aside0.mk (blk_below (g := gb1378) (o := .cells #[.int .i64 a0_0, .int .i64 a0_1, .int .i64 a0_2, .int .i64 a0_3, .slice A0_4 l0_4.length c0_4] 54 (0, 0)) (by (with_reducible repeat (first | refine blk_drewN ?_ _ | refine blk_drew ?_ | refine blk_alloc ?_ _)); exact BK1378.out) hb); have n1_ := Aside0.mk (below_step (by repeat (first | (with_reducible first | exact HB.out | apply below_alloc | apply pw_below_drewN | apply below_drew1 | refine below_set ?_ GE1378.out) | exact HB.out)) hb); have n2_ := Aside0.mk (hbox); have n3_ := Aside0.mk ((by rw [hg]; exact (below_size (by repeat (first | (with_reducible first | exact HB.out | apply below_alloc | apply pw_below_drewN | apply below_drew1 | refine below_set ?_ GE1378.out) | exact HB.out))) : w.heap.size ≤ gb1379)); have n4_ := Aside0.mk ((by rw [hg]; exact (below_size (by repeat (first | (with_reducible first | exact HB.out | apply below_alloc | apply pw_below_drewN | apply below_drew1 | refine below_set ?_ GE1378.out) | exact HB.out))) : w.heap.size ≤ gb1379)); have n5_ := Aside0.mk ((by rw [hg]; exact Nat.ne_of_lt (blk_lt (g := gb1378) (o := .cells #[.int .i64 a0_0, .int .i64 a0_1, .int .i64 a0_2, .int .i64 a0_3, .slice A0_4 l0_4.length c0_4] 54 (0, 0)) (by (with_reducible repeat (first | refine blk_drewN ?_ _ | refine blk_drew ?_ | refine blk_alloc ?_ _)); exact BK1378.out)) : gb1378 ≠ gb1379)); have n6_ := Aside0.mk ((by rw [hg]; exact Nat.ne_of_gt (blk_lt (g := gb1378) (o := .cells #[.int .i64 a0_0, .int .i64 a0_1, .int .i64 a0_2, .int .i64 a0_3, .slice A0_4 l0_4.length c0_4] 54 (0, 0)) (by (with_reducible repeat (first | refine blk_drewN ?_ _ | refine blk_drew ?_ | refine blk_alloc ?_ _)); exact BK1378.out)) : gb1379 ≠ gb1378)); clear BK1378; clear HB; have BK1378 := n0_; have HB := n1_; have BK1379 := n2_; have GW1379 := n3_; have GE1379 := n4_; have NB1378_1379 := n5_; have NB1379_1378 := n6_; clear n0_ n1_ n2_ n3_ n4_ n5_ n6_; clear hb hbox hg))
  repeat (go_quiet (first | ((with_reducible refine gate_dst (N := 2) rfl ?_); (try (refine gate_guard (by rfl) ?_; dsimp only)); refine box_event ?hg (N := 2) ?hd (cs := #[.int .i64 a0_0, .int .i64 a0_1, .int .i64 a0_2, .int .i64 a0_3, .slice A0_4 l0_4.length c0_4]) (t := 54) ?hr ?_; (case hd => rfl); (case hg => rfl); (case hr => first | (go_simp; done) | (go_simp; rfl)); intro gb1378 hg w4 hbox hb; have n0_ := Aside0.mk (below_step (by repeat (first | (with_reducible first | exact HB.out | apply below_alloc | apply pw_below_drewN | apply below_drew1) | exact HB.out)) hb); have n1_ := Aside0.mk (hbox); have n2_ := Aside0.mk ((by rw [hg]; exact (below_size (by repeat (first | (with_reducible first | exact HB.out | apply below_alloc | apply pw_below_drewN | apply below_drew1) | exact HB.out))) : w.heap.size ≤ gb1378)); have n3_ := Aside0.mk ((by rw [hg]; exact (below_size (by repeat (first | (with_reducible first | exact HB.out | apply below_alloc | apply pw_below_drewN | apply below_drew1) | exact HB.out))) : w.heap.size ≤ gb1378)); clear HB; have HB := n0_; have BK1378 := n1_; have GW1378 := n2_; have GE1378 := n3_; clear n0_ n1_ n2_ n3_; clear hb hbox hg) | ((with_reducible refine gate_dst (N := 3) rfl ?_); (try (refine gate_guard (by rfl) ?_; dsimp only)); refine box_event ?hg (N := 3) ?hd (cs := #[.int .i64 a1_0, .int .i64 a1_1, .int .i64 a1_2, .int .i64 a1_3, .slice A1_4 l1_4.length c1_4]) (t := 54) ?hr ?_; (case hd => rfl); (case hg => rfl); (case hr => first | (go_simp; done) | (go_simp; rfl)); intro gb1379 hg w5 hbox hb; have n0_ := Aside0.mk (blk_below (g := gb1378) (o := .cells #[.int .i64 a0_0, .int .i64 a0_1, .int .i64 a0_2, .int .i64 a0_3, .slice A0_4 l0_4.length c0_4] 54 (0, 0)) (by (with_reducible repeat (first | refine blk_drewN ?_ _ | refine blk_drew ?_ | refine blk_alloc ?_ _)); exact BK1378.out) hb); have n1_ := Aside0.mk (below_step (by repeat (first | (with_reducible first | exact HB.out | apply below_alloc | apply pw_below_drewN | apply below_drew1 | refine below_set ?_ GE1378.out) | exact HB.out)) hb); have n2_ := Aside0.mk (hbox); have n3_ := Aside0.mk ((by rw [hg]; exact (below_size (by repeat (first | (with_reducible first | exact HB.out | apply below_alloc | apply pw_below_drewN | apply below_drew1 | refine below_set ?_ GE1378.out) | exact HB.out))) : w.heap.size ≤ gb1379)); have n4_ := Aside0.mk ((by rw [hg]; exact (below_size (by repeat (first | (with_reducible first | exact HB.out | apply below_alloc | apply pw_below_drewN | apply below_drew1 | refine below_set ?_ GE1378.out) | exact HB.out))) : w.heap.size ≤ gb1379)); have n5_ := Aside0.mk ((by rw [hg]; exact Nat.ne_of_lt (blk_lt (g := gb1378) (o := .cells #[.int .i64 a0_0, .int .i64 a0_1, .int .i64 a0_2, .int .i64 a0_3, .slice A0_4 l0_4.length c0_4] 54 (0, 0)) (by (with_reducible repeat (first | refine blk_drewN ?_ _ | refine blk_drew ?_ | refine blk_alloc ?_ _)); exact BK1378.out)) : gb1378 ≠ gb1379)); have n6_ := Aside0.mk ((by rw [hg]; exact Nat.ne_of_gt (blk_lt (g := gb1378) (o := .cells #[.int .i64 a0_0, .int .i64 a0_1, .int .i64 a0_2, .int .i64 a0_3, .slice A0_4 l0_4.length c0_4] 54 (0, 0)) (by (with_reducible repeat (first | refine blk_drewN ?_ _ | refine blk_drew ?_ | refine blk_alloc ?_ _)); exact BK1378.out)) : gb1379 ≠ gb1378)); clear BK1378; clear HB; have BK1378 := n0_; have HB := n1_; have BK1379 := n2_; have GW1379 := n3_; have GE1379 := n4_; have NB1378_1379 := n5_; have NB1379_1378 := n6_; clear n0_ n1_ n2_ n3_ n4_ n5_ n6_; clear hb hbox hg)); go_upto_region 1 with (first | ((with_reducible refine gate_dst (N := 2) rfl ?_); (try (refine gate_guard (by rfl) ?_; dsimp only)); refine box_event ?hg (N := 2) ?hd (cs := #[.int .i64 a0_0, .int .i64 a0_1, .int .i64 a0_2, .int .i64 a0_3, .slice A0_4 l0_4.length c0_4]) (t := 54) ?hr ?_; (case hd => rfl); (case hg => rfl); (case hr => first | (go_simp; done) | (go_simp; rfl)); intro gb1378 hg w4 hbox hb; have n0_ := Aside0.mk (below_step (by repeat (first | (with_reducible first | exact HB.out | apply below_alloc | apply pw_below_drewN | apply below_drew1) | exact HB.out)) hb); have n1_ := Aside0.mk (hbox); have n2_ := Aside0.mk ((by rw [hg]; exact (below_size (by repeat (first | (with_reducible first | exact HB.out | apply below_alloc | apply pw_below_drewN | apply below_drew1) | exact HB.out))) : w.heap.size ≤ gb1378)); have n3_ := Aside0.mk ((by rw [hg]; exact (below_size (by repeat (first | (with_reducible first | exact HB.out | apply below_alloc | apply pw_below_drewN | apply below_drew1) | exact HB.out))) : w.heap.size ≤ gb1378)); clear HB; have HB := n0_; have BK1378 := n1_; have GW1378 := n2_; have GE1378 := n3_; clear n0_ n1_ n2_ n3_; clear hb hbox hg) | ((with_reducible refine gate_dst (N := 3) rfl ?_); (try (refine gate_guard (by rfl) ?_; dsimp only)); refine box_event ?hg (N := 3) ?hd (cs := #[.int .i64 a1_0, .int .i64 a1_1, .int .i64 a1_2, .int .i64 a1_3, .slice A1_4 l1_4.length c1_4]) (t := 54) ?hr ?_; (case hd => rfl); (case hg => rfl); (case hr => first | (go_simp; done) | (go_simp; rfl)); intro gb1379 hg w5 hbox hb; have n0_ := Aside0.mk (blk_below (g := gb1378) (o := .cells #[.int .i64 a0_0, .int .i64 a0_1, .int .i64 a0_2, .int .i64 a0_3, .slice A0_4 l0_4.length c0_4] 54 (0, 0)) (by (with_reducible repeat (first | refine blk_drewN ?_ _ | refine blk_drew ?_ | refine blk_alloc ?_ _)); exact BK1378.out) hb); have n1_ := Aside0.mk (below_step (by repeat (first | (with_reducible first | exact HB.out | apply below_alloc | apply pw_below_drewN | apply below_drew1 | refine below_set ?_ GE1378.out) | exact HB.out)) hb); have n2_ := Aside0.mk (hbox); have n3_ := Aside0.mk ((by rw [hg]; exact (below_size (by repeat (first | (with_reducible first | exact HB.out | apply below_alloc | apply pw_below_drewN | apply below_drew1 | refine below_set ?_ GE1378.out) | exact HB.out))) : w.heap.size ≤ gb1379)); have n4_ := Aside0.mk ((by rw [hg]; exact (below_size (by repeat (first | (with_reducible first | exact HB.out | apply below_alloc | apply pw_below_drewN | apply below_drew1 | refine below_set ?_ GE1378.out) | exact HB.out))) : w.heap.size ≤ gb1379)); have n5_ := Aside0.mk ((by rw [hg]; exact Nat.ne_of_lt (blk_lt (g := gb1378) (o := .cells #[.int .i64 a0_0, .int .i64 a0_1, .int .i64 a0_2, .int .i64 a0_3, .slice A0_4 l0_4.length c0_4] 54 (0, 0)) (by (with_reducible repeat (first | refine blk_drewN ?_ _ | refine blk_drew ?_ | refine blk_alloc ?_ _)); exact BK1378.out)) : gb1378 ≠ gb1379)); have n6_ := Aside0.mk ((by rw [hg]; exact Nat.ne_of_gt (blk_lt (g := gb1378) (o := .cells #[.int .i64 a0_0, .int .i64 a0_1, .int .i64 a0_2, .int .i64 a0_3, .slice A0_4 l0_4.length c0_4] 54 (0, 0)) (by (with_reducible repeat (first | refine blk_drewN ?_ _ | refine blk_drew ?_ | refine blk_alloc ?_ _)); exact BK1378.out)) : gb1379 ≠ gb1378)); clear BK1378; clear HB; have BK1378 := n0_; have HB := n1_; have BK1379 := n2_; have GW1379 := n3_; have GE1379 := n4_; have NB1378_1379 := n5_; have NB1379_1378 := n6_; clear n0_ n1_ n2_ n3_ n4_ n5_ n6_; clear hb hbox hg)))
  (try simp only [Act.put, List.setIfInBounds_toArray, List.set_cons_zero, List.set_cons_succ])
  go_cut [40] (fun v40 wc => ∃ (kq : Nat) (x40_2 : Bool), v40 = .bool x40_2 ∧ Aside0 (laws_sameMaker.j0 kq x40_2 a0_0 a0_1 a0_2 a0_3 l0_4 a1_0 a1_1 a1_2 a1_3 l1_4 = some r) ∧ Aside0 (kq ≤ k) ∧ Aside0 (wc.heap[gb1378]? = some (.cells #[.int .i64 a0_0, .int .i64 a0_1, .int .i64 a0_2, .int .i64 a0_3, (.slice A0_4 l0_4.length c0_4)] 54 (0, 0))) ∧ Aside0 (wc.heap[gb1379]? = some (.cells #[.int .i64 a1_0, .int .i64 a1_1, .int .i64 a1_2, .int .i64 a1_3, (.slice A1_4 l1_4.length c1_4)] 54 (0, 0))) ∧ Aside0 (Below w.heap.size w wc))
  case first =>
    have H := HC3.out
    clear HC3
    by_cases c6 : a0_0 = a1_0
    · rw [if_pos c6] at H
      have c6b0 : (a0_0 == a1_0) = true := beq_iff_eq.mpr c6
      have c6b1 : (a0_0 != a1_0) = false := bne_eq_false_iff_eq.mpr c6
      clear c6
      (first | rw [c6b0] | (simp only [i64_w, i32_w]; rw [c6b0]) | rw [c6b4] | rw [c6b3] | skip)
      by_cases c7 : a0_1 = a1_1
      · rw [if_pos c7] at H
        have c7b0 : (a0_1 == a1_1) = true := beq_iff_eq.mpr c7
        have c7b1 : (a0_1 != a1_1) = false := bne_eq_false_iff_eq.mpr c7
        clear c7
        by_cases c8 : a0_2 = a1_2
        · rw [if_pos c8] at H
          have c8b0 : (a0_2 == a1_2) = true := beq_iff_eq.mpr c8
          have c8b1 : (a0_2 != a1_2) = false := bne_eq_false_iff_eq.mpr c8
          clear c8
          by_cases c9 : a0_3 = a1_3
          · rw [if_pos c9] at H
            have c9b0 : (a0_3 == a1_3) = true := beq_iff_eq.mpr c9
            have c9b1 : (a0_3 != a1_3) = false := bne_eq_false_iff_eq.mpr c9
            clear c9
            have H' := Aside0.mk H
            clear H
            have hnb10 := NB1378_1379.out
            have hnc10 := NB1379_1378.out
            have hcz11_0 : w5.cell? ⟨gb1378, 0, none⟩ = some (.int .i64 a0_0) := (blk_cell BK1378.out 0).trans rfl
            have hcz11_1 : w5.cell? ⟨gb1378, 1, none⟩ = some (.int .i64 a0_1) := (blk_cell BK1378.out 1).trans rfl
            have hcz11_2 : w5.cell? ⟨gb1378, 2, none⟩ = some (.int .i64 a0_2) := (blk_cell BK1378.out 2).trans rfl
            have hcz11_3 : w5.cell? ⟨gb1378, 3, none⟩ = some (.int .i64 a0_3) := (blk_cell BK1378.out 3).trans rfl
            have hcz11_4 : w5.cell? ⟨gb1378, 4, none⟩ = some (.slice A0_4 l0_4.length c0_4) := (blk_cell BK1378.out 4).trans rfl
            have hfz11_0 := blk_frozen BK1378.out 0
            have hfz11_1 := blk_frozen BK1378.out 1
            have hfz11_2 := blk_frozen BK1378.out 2
            have hfz11_3 := blk_frozen BK1378.out 3
            have hfz11_4 := blk_frozen BK1378.out 4
            have hcz12_0 : w5.cell? ⟨gb1379, 0, none⟩ = some (.int .i64 a1_0) := (blk_cell BK1379.out 0).trans rfl
            have hcz12_1 : w5.cell? ⟨gb1379, 1, none⟩ = some (.int .i64 a1_1) := (blk_cell BK1379.out 1).trans rfl
            have hcz12_2 : w5.cell? ⟨gb1379, 2, none⟩ = some (.int .i64 a1_2) := (blk_cell BK1379.out 2).trans rfl
            have hcz12_3 : w5.cell? ⟨gb1379, 3, none⟩ = some (.int .i64 a1_3) := (blk_cell BK1379.out 3).trans rfl
            have hcz12_4 : w5.cell? ⟨gb1379, 4, none⟩ = some (.slice A1_4 l1_4.length c1_4) := (blk_cell BK1379.out 4).trans rfl
            have hfz12_0 := blk_frozen BK1379.out 0
            have hfz12_1 := blk_frozen BK1379.out 1
            have hfz12_2 := blk_frozen BK1379.out 2
            have hfz12_3 := blk_frozen BK1379.out 3
            have hfz12_4 := blk_frozen BK1379.out 4
            go_wp2
            repeat (go_quiet (fail); try go_wp2)
            go_meet
            case rel => exact ⟨_, (((l0_4.length : Int) != (l1_4.length : Int))), (by first | rfl | (simp; done) | (simp [*]; done)), H', ⟨by first | omega | exact Nat.le_refl _⟩, ⟨by (with_reducible repeat (first | refine blk_drewN ?_ _ | refine blk_drew ?_ | refine blk_alloc ?_ _)); exact BK1378.out⟩, ⟨by (with_reducible repeat (first | refine blk_drewN ?_ _ | refine blk_drew ?_ | refine blk_alloc ?_ _)); exact BK1379.out⟩, ⟨by repeat (first | (with_reducible first | exact HB.out | apply below_alloc | apply pw_below_drewN | apply below_drew1 | refine below_set ?_ GE1378.out | refine below_set ?_ GE1379.out) | exact HB.out)⟩⟩
          · rw [if_neg c9] at H
            have c9b0 : (a0_3 == a1_3) = false := beq_eq_false_iff_ne.mpr c9
            have c9b1 : (a0_3 != a1_3) = true := bne_iff_ne.mpr c9
            have H' := Aside0.mk H
            clear H
            have hnb13 := NB1378_1379.out
            have hnc13 := NB1379_1378.out
            have hcz14_0 : w5.cell? ⟨gb1378, 0, none⟩ = some (.int .i64 a0_0) := (blk_cell BK1378.out 0).trans rfl
            have hcz14_1 : w5.cell? ⟨gb1378, 1, none⟩ = some (.int .i64 a0_1) := (blk_cell BK1378.out 1).trans rfl
            have hcz14_2 : w5.cell? ⟨gb1378, 2, none⟩ = some (.int .i64 a0_2) := (blk_cell BK1378.out 2).trans rfl
            have hcz14_3 : w5.cell? ⟨gb1378, 3, none⟩ = some (.int .i64 a0_3) := (blk_cell BK1378.out 3).trans rfl
            have hcz14_4 : w5.cell? ⟨gb1378, 4, none⟩ = some (.slice A0_4 l0_4.length c0_4) := (blk_cell BK1378.out 4).trans rfl
            have hfz14_0 := blk_frozen BK1378.out 0
            have hfz14_1 := blk_frozen BK1378.out 1
            have hfz14_2 := blk_frozen BK1378.out 2
            have hfz14_3 := blk_frozen BK1378.out 3
            have hfz14_4 := blk_frozen BK1378.out 4
            have hcz15_0 : w5.cell? ⟨gb1379, 0, none⟩ = some (.int .i64 a1_0) := (blk_cell BK1379.out 0).trans rfl
            have hcz15_1 : w5.cell? ⟨gb1379, 1, none⟩ = some (.int .i64 a1_1) := (blk_cell BK1379.out 1).trans rfl
            have hcz15_2 : w5.cell? ⟨gb1379, 2, none⟩ = some (.int .i64 a1_2) := (blk_cell BK1379.out 2).trans rfl
            have hcz15_3 : w5.cell? ⟨gb1379, 3, none⟩ = some (.int .i64 a1_3) := (blk_cell BK1379.out 3).trans rfl
            have hcz15_4 : w5.cell? ⟨gb1379, 4, none⟩ = some (.slice A1_4 l1_4.length c1_4) := (blk_cell BK1379.out 4).trans rfl
            have hfz15_0 := blk_frozen BK1379.out 0
            have hfz15_1 := blk_frozen BK1379.out 1
            have hfz15_2 := blk_frozen BK1379.out 2
            have hfz15_3 := blk_frozen BK1379.out 3
            have hfz15_4 := blk_frozen BK1379.out 4
            go_wp2
            repeat (go_quiet (fail); try go_wp2)
            go_meet
            case rel => exact ⟨_, (true), (by first | rfl | (simp; done) | (simp [*]; done)), H', ⟨by first | omega | exact Nat.le_refl _⟩, ⟨by (with_reducible repeat (first | refine blk_drewN ?_ _ | refine blk_drew ?_ | refine blk_alloc ?_ _)); exact BK1378.out⟩, ⟨by (with_reducible repeat (first | refine blk_drewN ?_ _ | refine blk_drew ?_ | refine blk_alloc ?_ _)); exact BK1379.out⟩, ⟨by repeat (first | (with_reducible first | exact HB.out | apply below_alloc | apply pw_below_drewN | apply below_drew1 | refine below_set ?_ GE1378.out | refine below_set ?_ GE1379.out) | exact HB.out)⟩⟩
        · rw [if_neg c8] at H
          have c8b0 : (a0_2 == a1_2) = false := beq_eq_false_iff_ne.mpr c8
          have c8b1 : (a0_2 != a1_2) = true := bne_iff_ne.mpr c8
          have H' := Aside0.mk H
          clear H
          have hnb16 := NB1378_1379.out
          have hnc16 := NB1379_1378.out
          have hcz17_0 : w5.cell? ⟨gb1378, 0, none⟩ = some (.int .i64 a0_0) := (blk_cell BK1378.out 0).trans rfl
          have hcz17_1 : w5.cell? ⟨gb1378, 1, none⟩ = some (.int .i64 a0_1) := (blk_cell BK1378.out 1).trans rfl
          have hcz17_2 : w5.cell? ⟨gb1378, 2, none⟩ = some (.int .i64 a0_2) := (blk_cell BK1378.out 2).trans rfl
          have hcz17_3 : w5.cell? ⟨gb1378, 3, none⟩ = some (.int .i64 a0_3) := (blk_cell BK1378.out 3).trans rfl
          have hcz17_4 : w5.cell? ⟨gb1378, 4, none⟩ = some (.slice A0_4 l0_4.length c0_4) := (blk_cell BK1378.out 4).trans rfl
          have hfz17_0 := blk_frozen BK1378.out 0
          have hfz17_1 := blk_frozen BK1378.out 1
          have hfz17_2 := blk_frozen BK1378.out 2
          have hfz17_3 := blk_frozen BK1378.out 3
          have hfz17_4 := blk_frozen BK1378.out 4
          have hcz18_0 : w5.cell? ⟨gb1379, 0, none⟩ = some (.int .i64 a1_0) := (blk_cell BK1379.out 0).trans rfl
          have hcz18_1 : w5.cell? ⟨gb1379, 1, none⟩ = some (.int .i64 a1_1) := (blk_cell BK1379.out 1).trans rfl
          have hcz18_2 : w5.cell? ⟨gb1379, 2, none⟩ = some (.int .i64 a1_2) := (blk_cell BK1379.out 2).trans rfl
          have hcz18_3 : w5.cell? ⟨gb1379, 3, none⟩ = some (.int .i64 a1_3) := (blk_cell BK1379.out 3).trans rfl
          have hcz18_4 : w5.cell? ⟨gb1379, 4, none⟩ = some (.slice A1_4 l1_4.length c1_4) := (blk_cell BK1379.out 4).trans rfl
          have hfz18_0 := blk_frozen BK1379.out 0
          have hfz18_1 := blk_frozen BK1379.out 1
          have hfz18_2 := blk_frozen BK1379.out 2
          have hfz18_3 := blk_frozen BK1379.out 3
          have hfz18_4 := blk_frozen BK1379.out 4
          go_wp2
          repeat (go_quiet (fail); try go_wp2)
          go_meet
          case rel => exact ⟨_, (true), (by first | rfl | (simp; done) | (simp [*]; done)), H', ⟨by first | omega | exact Nat.le_refl _⟩, ⟨by (with_reducible repeat (first | refine blk_drewN ?_ _ | refine blk_drew ?_ | refine blk_alloc ?_ _)); exact BK1378.out⟩, ⟨by (with_reducible repeat (first | refine blk_drewN ?_ _ | refine blk_drew ?_ | refine blk_alloc ?_ _)); exact BK1379.out⟩, ⟨by repeat (first | (with_reducible first | exact HB.out | apply below_alloc | apply pw_below_drewN | apply below_drew1 | refine below_set ?_ GE1378.out | refine below_set ?_ GE1379.out) | exact HB.out)⟩⟩
      · rw [if_neg c7] at H
        have c7b0 : (a0_1 == a1_1) = false := beq_eq_false_iff_ne.mpr c7
        have c7b1 : (a0_1 != a1_1) = true := bne_iff_ne.mpr c7
        have H' := Aside0.mk H
        clear H
        have hnb19 := NB1378_1379.out
        have hnc19 := NB1379_1378.out
        have hcz20_0 : w5.cell? ⟨gb1378, 0, none⟩ = some (.int .i64 a0_0) := (blk_cell BK1378.out 0).trans rfl
        have hcz20_1 : w5.cell? ⟨gb1378, 1, none⟩ = some (.int .i64 a0_1) := (blk_cell BK1378.out 1).trans rfl
        have hcz20_2 : w5.cell? ⟨gb1378, 2, none⟩ = some (.int .i64 a0_2) := (blk_cell BK1378.out 2).trans rfl
        have hcz20_3 : w5.cell? ⟨gb1378, 3, none⟩ = some (.int .i64 a0_3) := (blk_cell BK1378.out 3).trans rfl
        have hcz20_4 : w5.cell? ⟨gb1378, 4, none⟩ = some (.slice A0_4 l0_4.length c0_4) := (blk_cell BK1378.out 4).trans rfl
        have hfz20_0 := blk_frozen BK1378.out 0
        have hfz20_1 := blk_frozen BK1378.out 1
        have hfz20_2 := blk_frozen BK1378.out 2
        have hfz20_3 := blk_frozen BK1378.out 3
        have hfz20_4 := blk_frozen BK1378.out 4
        have hcz21_0 : w5.cell? ⟨gb1379, 0, none⟩ = some (.int .i64 a1_0) := (blk_cell BK1379.out 0).trans rfl
        have hcz21_1 : w5.cell? ⟨gb1379, 1, none⟩ = some (.int .i64 a1_1) := (blk_cell BK1379.out 1).trans rfl
        have hcz21_2 : w5.cell? ⟨gb1379, 2, none⟩ = some (.int .i64 a1_2) := (blk_cell BK1379.out 2).trans rfl
        have hcz21_3 : w5.cell? ⟨gb1379, 3, none⟩ = some (.int .i64 a1_3) := (blk_cell BK1379.out 3).trans rfl
        have hcz21_4 : w5.cell? ⟨gb1379, 4, none⟩ = some (.slice A1_4 l1_4.length c1_4) := (blk_cell BK1379.out 4).trans rfl
        have hfz21_0 := blk_frozen BK1379.out 0
        have hfz21_1 := blk_frozen BK1379.out 1
        have hfz21_2 := blk_frozen BK1379.out 2
        have hfz21_3 := blk_frozen BK1379.out 3
        have hfz21_4 := blk_frozen BK1379.out 4
        go_wp2
        repeat (go_quiet (fail); try go_wp2)
        go_meet
        case rel => exact ⟨_, (true), (by first | rfl | (simp; done) | (simp [*]; done)), H', ⟨by first | omega | exact Nat.le_refl _⟩, ⟨by (with_reducible repeat (first | refine blk_drewN ?_ _ | refine blk_drew ?_ | refine blk_alloc ?_ _)); exact BK1378.out⟩, ⟨by (with_reducible repeat (first | refine blk_drewN ?_ _ | refine blk_drew ?_ | refine blk_alloc ?_ _)); exact BK1379.out⟩, ⟨by repeat (first | (with_reducible first | exact HB.out | apply below_alloc | apply pw_below_drewN | apply below_drew1 | refine below_set ?_ GE1378.out | refine below_set ?_ GE1379.out) | exact HB.out)⟩⟩
    · rw [if_neg c6] at H
      have c6b0 : (a0_0 == a1_0) = false := beq_eq_false_iff_ne.mpr c6
      have c6b1 : (a0_0 != a1_0) = true := bne_iff_ne.mpr c6
      (first | rw [c6b0] | (simp only [i64_w, i32_w]; rw [c6b0]) | rw [c6b4] | rw [c6b3] | skip)
      have H' := Aside0.mk H
      clear H
      have hnb22 := NB1378_1379.out
      have hnc22 := NB1379_1378.out
      have hcz23_0 : w5.cell? ⟨gb1378, 0, none⟩ = some (.int .i64 a0_0) := (blk_cell BK1378.out 0).trans rfl
      have hcz23_1 : w5.cell? ⟨gb1378, 1, none⟩ = some (.int .i64 a0_1) := (blk_cell BK1378.out 1).trans rfl
      have hcz23_2 : w5.cell? ⟨gb1378, 2, none⟩ = some (.int .i64 a0_2) := (blk_cell BK1378.out 2).trans rfl
      have hcz23_3 : w5.cell? ⟨gb1378, 3, none⟩ = some (.int .i64 a0_3) := (blk_cell BK1378.out 3).trans rfl
      have hcz23_4 : w5.cell? ⟨gb1378, 4, none⟩ = some (.slice A0_4 l0_4.length c0_4) := (blk_cell BK1378.out 4).trans rfl
      have hfz23_0 := blk_frozen BK1378.out 0
      have hfz23_1 := blk_frozen BK1378.out 1
      have hfz23_2 := blk_frozen BK1378.out 2
      have hfz23_3 := blk_frozen BK1378.out 3
      have hfz23_4 := blk_frozen BK1378.out 4
      have hcz24_0 : w5.cell? ⟨gb1379, 0, none⟩ = some (.int .i64 a1_0) := (blk_cell BK1379.out 0).trans rfl
      have hcz24_1 : w5.cell? ⟨gb1379, 1, none⟩ = some (.int .i64 a1_1) := (blk_cell BK1379.out 1).trans rfl
      have hcz24_2 : w5.cell? ⟨gb1379, 2, none⟩ = some (.int .i64 a1_2) := (blk_cell BK1379.out 2).trans rfl
      have hcz24_3 : w5.cell? ⟨gb1379, 3, none⟩ = some (.int .i64 a1_3) := (blk_cell BK1379.out 3).trans rfl
      have hcz24_4 : w5.cell? ⟨gb1379, 4, none⟩ = some (.slice A1_4 l1_4.length c1_4) := (blk_cell BK1379.out 4).trans rfl
      have hfz24_0 := blk_frozen BK1379.out 0
      have hfz24_1 := blk_frozen BK1379.out 1
      have hfz24_2 := blk_frozen BK1379.out 2
      have hfz24_3 := blk_frozen BK1379.out 3
      have hfz24_4 := blk_frozen BK1379.out 4
      go_wp2
      repeat (go_quiet (fail); try go_wp2)
      go_meet
      case rel => exact ⟨_, (true), (by first | rfl | (simp; done) | (simp [*]; done)), H', ⟨by first | omega | exact Nat.le_refl _⟩, ⟨by (with_reducible repeat (first | refine blk_drewN ?_ _ | refine blk_drew ?_ | refine blk_alloc ?_ _)); exact BK1378.out⟩, ⟨by (with_reducible repeat (first | refine blk_drewN ?_ _ | refine blk_drew ?_ | refine blk_alloc ?_ _)); exact BK1379.out⟩, ⟨by repeat (first | (with_reducible first | exact HB.out | apply below_alloc | apply pw_below_drewN | apply below_drew1 | refine below_set ?_ GE1378.out | refine below_set ?_ GE1379.out) | exact HB.out)⟩⟩
  case rest =>
    clear HC3
    try clear c1
    try clear c2
    try clear p2
    try clear c6
    try clear c6b0
    try clear c6b1
    try clear c7
    try clear c7b0
    try clear c7b1
    try clear c8
    try clear c8b0
    try clear c8b1
    try clear c9
    try clear c9b0
    try clear c9b1
    try clear c10
    try clear c13
    try clear c16
    try clear c19
    try clear c22
    try clear hcz11_0
    try clear hcz11_1
    try clear hcz11_2
    try clear hcz11_3
    try clear hcz11_4
    try clear hcz12_0
    try clear hcz12_1
    try clear hcz12_2
    try clear hcz12_3
    try clear hcz12_4
    try clear hcz14_0
    try clear hcz14_1
    try clear hcz14_2
    try clear hcz14_3
    try clear hcz14_4
    try clear hcz15_0
    try clear hcz15_1
    try clear hcz15_2
    try clear hcz15_3
    try clear hcz15_4
    try clear hcz17_0
    try clear hcz17_1
    try clear hcz17_2
    try clear hcz17_3
    try clear hcz17_4
    try clear hcz18_0
    try clear hcz18_1
    try clear hcz18_2
    try clear hcz18_3
    try clear hcz18_4
    try clear hcz20_0
    try clear hcz20_1
    try clear hcz20_2
    try clear hcz20_3
    try clear hcz20_4
    try clear hcz21_0
    try clear hcz21_1
    try clear hcz21_2
    try clear hcz21_3
    try clear hcz21_4
    try clear hcz23_0
    try clear hcz23_1
    try clear hcz23_2
    try clear hcz23_3
    try clear hcz23_4
    try clear hcz24_0
    try clear hcz24_1
    try clear hcz24_2
    try clear hcz24_3
    try clear hcz24_4
    try clear hfz11_0
    try clear hfz11_1
    try clear hfz11_2
    try clear hfz11_3
    try clear hfz11_4
    try clear hfz12_0
    try clear hfz12_1
    try clear hfz12_2
    try clear hfz12_3
    try clear hfz12_4
    try clear hfz14_0
    try clear hfz14_1
    try clear hfz14_2
    try clear hfz14_3
    try clear hfz14_4
    try clear hfz15_0
    try clear hfz15_1
    try clear hfz15_2
    try clear hfz15_3
    try clear hfz15_4
    try clear hfz17_0
    try clear hfz17_1
    try clear hfz17_2
    try clear hfz17_3
    try clear hfz17_4
    try clear hfz18_0
    try clear hfz18_1
    try clear hfz18_2
    try clear hfz18_3
    try clear hfz18_4
    try clear hfz20_0
    try clear hfz20_1
    try clear hfz20_2
    try clear hfz20_3
    try clear hfz20_4
    try clear hfz21_0
    try clear hfz21_1
    try clear hfz21_2
    try clear hfz21_3
    try clear hfz21_4
    try clear hfz23_0
    try clear hfz23_1
    try clear hfz23_2
    try clear hfz23_3
    try clear hfz23_4
    try clear hfz24_0
    try clear hfz24_1
    try clear hfz24_2
    try clear hfz24_3
    try clear hfz24_4
    obtain ⟨kq, x40_2, rfl, HA, HJ2, BK1378, BK1379, HB⟩ := hcut
    cases kq with
    | zero => exact absurd HA.out (by simp [laws_sameMaker.j0])
    | succ kj2 =>
      have H := HA.out
      clear HA
      simp only [laws_sameMaker.j0] at H
      by_cases c25 : x40_2 = true
      · subst c25
        have H1 : (some false) = some r := by rw [if_pos rfl] at H; exact H
        clear H
        have H := H1
        clear H1
        obtain rfl := Option.some.inj H
        go_wp2
        repeat (go_quiet (fail); try go_wp2)
        go_ret
        exact ⟨by first | rfl | (simp [errW_none, errW_some] <;> rfl) | (simp [*, errW_none, errW_some] <;> rfl), by repeat (first | (with_reducible first | exact HB.out | apply below_alloc | apply pw_below_drewN | apply below_drew1 | refine below_set ?_ GE1378.out | refine below_set ?_ GE1379.out) | exact HB.out)⟩
      · replace c25 := Bool.eq_false_iff.mpr c25
        subst c25
        have H1 : (laws_sameMaker.l0 kj2 0 a0_0 a0_1 a0_2 a0_3 l0_4 a1_0 a1_1 a1_2 a1_3 l1_4) = some r := by rw [if_neg (show ¬ (false = true) by decide)] at H; exact H
        clear H
        have H := H1
        clear H1
        have H' := Aside0.mk H
        clear H
        go_wp2
        repeat (go_quiet (fail); try go_wp2)
        go_loopg [5] kj2 (fun kq v5 w' => ∃ (x5_2 : Int), v5 = .int .i64 x5_2 ∧ Aside0 (laws_sameMaker.l0 kq x5_2 a0_0 a0_1 a0_2 a0_3 l0_4 a1_0 a1_1 a1_2 a1_3 l1_4 = some r) ∧ Aside0 (kq ≤ kj2) ∧ Aside0 (w'.heap[gb1378]? = some (.cells #[.int .i64 a0_0, .int .i64 a0_1, .int .i64 a0_2, .int .i64 a0_3, (.slice A0_4 l0_4.length c0_4)] 54 (0, 0))) ∧ Aside0 (w'.heap[gb1379]? = some (.cells #[.int .i64 a1_0, .int .i64 a1_1, .int .i64 a1_2, .int .i64 a1_3, (.slice A1_4 l1_4.length c1_4)] 54 (0, 0))) ∧ Aside0 (Below w.heap.size w w'))
        case atStart => exact ⟨(0), (by first | rfl | (simp; done) | (simp [*]; done)), H', ⟨Nat.le_refl _⟩, ⟨by (with_reducible repeat (first | refine blk_drewN ?_ _ | refine blk_drew ?_ | refine blk_alloc ?_ _)); exact BK1378.out⟩, ⟨by (with_reducible repeat (first | refine blk_drewN ?_ _ | refine blk_drew ?_ | refine blk_alloc ?_ _)); exact BK1379.out⟩, ⟨by repeat (first | (with_reducible first | exact HB.out | apply below_alloc | apply pw_below_drewN | apply below_drew1 | refine below_set ?_ GE1378.out | refine below_set ?_ GE1379.out) | exact HB.out)⟩⟩
        case round =>
          clear H'
          try clear c1
          try clear c2
          try clear p2
          try clear c6
          try clear c6b0
          try clear c6b1
          try clear c7
          try clear c7b0
          try clear c7b1
          try clear c8
          try clear c8b0
          try clear c8b1
          try clear c9
          try clear c9b0
          try clear c9b1
          try clear c10
          try clear c13
          try clear c16
          try clear c19
          try clear c22
          try clear c25
          try clear hcz11_0
          try clear hcz11_1
          try clear hcz11_2
          try clear hcz11_3
          try clear hcz11_4
          try clear hcz12_0
          try clear hcz12_1
          try clear hcz12_2
          try clear hcz12_3
          try clear hcz12_4
          try clear hcz14_0
          try clear hcz14_1
          try clear hcz14_2
          try clear hcz14_3
          try clear hcz14_4
          try clear hcz15_0
          try clear hcz15_1
          try clear hcz15_2
          try clear hcz15_3
          try clear hcz15_4
          try clear hcz17_0
          try clear hcz17_1
          try clear hcz17_2
          try clear hcz17_3
          try clear hcz17_4
          try clear hcz18_0
          try clear hcz18_1
          try clear hcz18_2
          try clear hcz18_3
          try clear hcz18_4
          try clear hcz20_0
          try clear hcz20_1
          try clear hcz20_2
          try clear hcz20_3
          try clear hcz20_4
          try clear hcz21_0
          try clear hcz21_1
          try clear hcz21_2
          try clear hcz21_3
          try clear hcz21_4
          try clear hcz23_0
          try clear hcz23_1
          try clear hcz23_2
          try clear hcz23_3
          try clear hcz23_4
          try clear hcz24_0
          try clear hcz24_1
          try clear hcz24_2
          try clear hcz24_3
          try clear hcz24_4
          try clear hfz11_0
          try clear hfz11_1
          try clear hfz11_2
          try clear hfz11_3
          try clear hfz11_4
          try clear hfz12_0
          try clear hfz12_1
          try clear hfz12_2
          try clear hfz12_3
          try clear hfz12_4
          try clear hfz14_0
          try clear hfz14_1
          try clear hfz14_2
          try clear hfz14_3
          try clear hfz14_4
          try clear hfz15_0
          try clear hfz15_1
          try clear hfz15_2
          try clear hfz15_3
          try clear hfz15_4
          try clear hfz17_0
          try clear hfz17_1
          try clear hfz17_2
          try clear hfz17_3
          try clear hfz17_4
          try clear hfz18_0
          try clear hfz18_1
          try clear hfz18_2
          try clear hfz18_3
          try clear hfz18_4
          try clear hfz20_0
          try clear hfz20_1
          try clear hfz20_2
          try clear hfz20_3
          try clear hfz20_4
          try clear hfz21_0
          try clear hfz21_1
          try clear hfz21_2
          try clear hfz21_3
          try clear hfz21_4
          try clear hfz23_0
          try clear hfz23_1
          try clear hfz23_2
          try clear hfz23_3
          try clear hfz23_4
          try clear hfz24_0
          try clear hfz24_1
          try clear hfz24_2
          try clear hfz24_3
          try clear hfz24_4
          try clear p2
          obtain ⟨x5_2, rfl, HA, HK2, BK1378, BK1379, HB⟩ := hrel
          cases gk with
          | zero => exact absurd HA.out (by simp [laws_sameMaker.l0])
          | succ k2 =>
            have H := HA.out
            clear HA
            simp only [laws_sameMaker.l0] at H
            by_cases c26 : x5_2 < (l0_4.length : Int)
            · rw [if_pos c26] at H
              have c26b0 : decide (x5_2 < (l0_4.length : Int)) = true := decide_eq_true c26
              clear c26
              by_cases c27 : 0 ≤ x5_2
              · rw [if_pos c27] at H
                have c27b0 : decide (0 ≤ x5_2) = true := decide_eq_true c27
                clear c27
                by_cases c28 : x5_2 < (l1_4.length : Int)
                · rw [if_pos c28] at H
                  have c28b0 : decide (x5_2 < (l1_4.length : Int)) = true := decide_eq_true c28
                  clear c28
                  by_cases c29 : (!(((rd_Mark l0_4 x5_2).f0) == ((rd_Mark l1_4 x5_2).f0)) || (!(((rd_Mark l0_4 x5_2).f1) == ((rd_Mark l1_4 x5_2).f1)))) = true
                  · rw [if_pos c29] at H
                    have c29b0 : (!(((rd_Mark l0_4 x5_2).f0) == ((rd_Mark l1_4 x5_2).f0)) || (!(((rd_Mark l0_4 x5_2).f1) == ((rd_Mark l1_4 x5_2).f1)))) = true := c29
                    clear c29
                    obtain rfl := Option.some.inj H
                    have hnb30 := NB1378_1379.out
                    have hnc30 := NB1379_1378.out
                    have hcz31_0 : wr.cell? ⟨gb1378, 0, none⟩ = some (.int .i64 a0_0) := (blk_cell BK1378.out 0).trans rfl
                    have hcz31_1 : wr.cell? ⟨gb1378, 1, none⟩ = some (.int .i64 a0_1) := (blk_cell BK1378.out 1).trans rfl
                    have hcz31_2 : wr.cell? ⟨gb1378, 2, none⟩ = some (.int .i64 a0_2) := (blk_cell BK1378.out 2).trans rfl
                    have hcz31_3 : wr.cell? ⟨gb1378, 3, none⟩ = some (.int .i64 a0_3) := (blk_cell BK1378.out 3).trans rfl
                    have hcz31_4 : wr.cell? ⟨gb1378, 4, none⟩ = some (.slice A0_4 l0_4.length c0_4) := (blk_cell BK1378.out 4).trans rfl
                    have hfz31_0 := blk_frozen BK1378.out 0
                    have hfz31_1 := blk_frozen BK1378.out 1
                    have hfz31_2 := blk_frozen BK1378.out 2
                    have hfz31_3 := blk_frozen BK1378.out 3
                    have hfz31_4 := blk_frozen BK1378.out 4
                    have p1380 : 0 ≤ (x5_2 : Int) := of_decide_eq_true (by first | (with_reducible assumption) | assumption)
                    have q1380 : x5_2 < (l0_4.length : Int) := of_decide_eq_true (by first | (with_reducible assumption) | assumption)
                    obtain ⟨ad1380, e1380, hx1380_0, hx1380_1⟩ := at_Mark HR0_4.out x5_2 p1380 q1380
                    cases e1380
                    replace hx1380_0 := (HB.out.cell (World.block_lt_of_cell? w _ hx1380_0)).trans hx1380_0
                    replace hx1380_1 := (HB.out.cell (World.block_lt_of_cell? w _ hx1380_1)).trans hx1380_1
                    replace p1380 := eq_true p1380
                    replace q1380 := eq_true q1380
                    have hcz32_0 : wr.cell? ⟨gb1379, 0, none⟩ = some (.int .i64 a1_0) := (blk_cell BK1379.out 0).trans rfl
                    have hcz32_1 : wr.cell? ⟨gb1379, 1, none⟩ = some (.int .i64 a1_1) := (blk_cell BK1379.out 1).trans rfl
                    have hcz32_2 : wr.cell? ⟨gb1379, 2, none⟩ = some (.int .i64 a1_2) := (blk_cell BK1379.out 2).trans rfl
                    have hcz32_3 : wr.cell? ⟨gb1379, 3, none⟩ = some (.int .i64 a1_3) := (blk_cell BK1379.out 3).trans rfl
                    have hcz32_4 : wr.cell? ⟨gb1379, 4, none⟩ = some (.slice A1_4 l1_4.length c1_4) := (blk_cell BK1379.out 4).trans rfl
                    have hfz32_0 := blk_frozen BK1379.out 0
                    have hfz32_1 := blk_frozen BK1379.out 1
                    have hfz32_2 := blk_frozen BK1379.out 2
                    have hfz32_3 := blk_frozen BK1379.out 3
                    have hfz32_4 := blk_frozen BK1379.out 4
                    have p1381 : 0 ≤ (x5_2 : Int) := of_decide_eq_true (by first | (with_reducible assumption) | assumption)
                    have q1381 : x5_2 < (l1_4.length : Int) := of_decide_eq_true (by first | (with_reducible assumption) | assumption)
                    obtain ⟨ad1381, e1381, hx1381_0, hx1381_1⟩ := at_Mark HR1_4.out x5_2 p1381 q1381
                    cases e1381
                    replace hx1381_0 := (HB.out.cell (World.block_lt_of_cell? w _ hx1381_0)).trans hx1381_0
                    replace hx1381_1 := (HB.out.cell (World.block_lt_of_cell? w _ hx1381_1)).trans hx1381_1
                    replace p1381 := eq_true p1381
                    replace q1381 := eq_true q1381
                    go_wp2
                    repeat (go_quiet (fail); try go_wp2)
                    go_ret
                    exact ⟨by first | rfl | (simp [errW_none, errW_some] <;> rfl) | (simp [*, errW_none, errW_some] <;> rfl), by repeat (first | (with_reducible first | exact HB.out | apply below_alloc | apply pw_below_drewN | apply below_drew1 | refine below_set ?_ GE1378.out | refine below_set ?_ GE1379.out) | exact HB.out)⟩
                  · rw [if_neg c29] at H
                    have c29b0 : (!(((rd_Mark l0_4 x5_2).f0) == ((rd_Mark l1_4 x5_2).f0)) || (!(((rd_Mark l0_4 x5_2).f1) == ((rd_Mark l1_4 x5_2).f1)))) = false := by simpa using c29
                    clear c29
                    have H' := Aside0.mk H
                    clear H
                    have hnb33 := NB1378_1379.out
                    have hnc33 := NB1379_1378.out
                    have hcz34_0 : wr.cell? ⟨gb1378, 0, none⟩ = some (.int .i64 a0_0) := (blk_cell BK1378.out 0).trans rfl
                    have hcz34_1 : wr.cell? ⟨gb1378, 1, none⟩ = some (.int .i64 a0_1) := (blk_cell BK1378.out 1).trans rfl
                    have hcz34_2 : wr.cell? ⟨gb1378, 2, none⟩ = some (.int .i64 a0_2) := (blk_cell BK1378.out 2).trans rfl
                    have hcz34_3 : wr.cell? ⟨gb1378, 3, none⟩ = some (.int .i64 a0_3) := (blk_cell BK1378.out 3).trans rfl
                    have hcz34_4 : wr.cell? ⟨gb1378, 4, none⟩ = some (.slice A0_4 l0_4.length c0_4) := (blk_cell BK1378.out 4).trans rfl
                    have hfz34_0 := blk_frozen BK1378.out 0
                    have hfz34_1 := blk_frozen BK1378.out 1
                    have hfz34_2 := blk_frozen BK1378.out 2
                    have hfz34_3 := blk_frozen BK1378.out 3
                    have hfz34_4 := blk_frozen BK1378.out 4
                    have p1380 : 0 ≤ (x5_2 : Int) := of_decide_eq_true (by first | (with_reducible assumption) | assumption)
                    have q1380 : x5_2 < (l0_4.length : Int) := of_decide_eq_true (by first | (with_reducible assumption) | assumption)
                    obtain ⟨ad1380, e1380, hx1380_0, hx1380_1⟩ := at_Mark HR0_4.out x5_2 p1380 q1380
                    cases e1380
                    replace hx1380_0 := (HB.out.cell (World.block_lt_of_cell? w _ hx1380_0)).trans hx1380_0
                    replace hx1380_1 := (HB.out.cell (World.block_lt_of_cell? w _ hx1380_1)).trans hx1380_1
                    replace p1380 := eq_true p1380
                    replace q1380 := eq_true q1380
                    have hcz35_0 : wr.cell? ⟨gb1379, 0, none⟩ = some (.int .i64 a1_0) := (blk_cell BK1379.out 0).trans rfl
                    have hcz35_1 : wr.cell? ⟨gb1379, 1, none⟩ = some (.int .i64 a1_1) := (blk_cell BK1379.out 1).trans rfl
                    have hcz35_2 : wr.cell? ⟨gb1379, 2, none⟩ = some (.int .i64 a1_2) := (blk_cell BK1379.out 2).trans rfl
                    have hcz35_3 : wr.cell? ⟨gb1379, 3, none⟩ = some (.int .i64 a1_3) := (blk_cell BK1379.out 3).trans rfl
                    have hcz35_4 : wr.cell? ⟨gb1379, 4, none⟩ = some (.slice A1_4 l1_4.length c1_4) := (blk_cell BK1379.out 4).trans rfl
                    have hfz35_0 := blk_frozen BK1379.out 0
                    have hfz35_1 := blk_frozen BK1379.out 1
                    have hfz35_2 := blk_frozen BK1379.out 2
                    have hfz35_3 := blk_frozen BK1379.out 3
                    have hfz35_4 := blk_frozen BK1379.out 4
                    have p1381 : 0 ≤ (x5_2 : Int) := of_decide_eq_true (by first | (with_reducible assumption) | assumption)
                    have q1381 : x5_2 < (l1_4.length : Int) := of_decide_eq_true (by first | (with_reducible assumption) | assumption)
                    obtain ⟨ad1381, e1381, hx1381_0, hx1381_1⟩ := at_Mark HR1_4.out x5_2 p1381 q1381
                    cases e1381
                    replace hx1381_0 := (HB.out.cell (World.block_lt_of_cell? w _ hx1381_0)).trans hx1381_0
                    replace hx1381_1 := (HB.out.cell (World.block_lt_of_cell? w _ hx1381_1)).trans hx1381_1
                    replace p1381 := eq_true p1381
                    replace q1381 := eq_true q1381
                    go_wp2
                    repeat (go_quiet (fail); try go_wp2)
                    go_roundg k2
                    case measure => have := HJ2.out; have := HK2.out; omega
                    case rel => exact ⟨(wrap64 (x5_2 + 1)), (by first | rfl | (simp; done) | (simp [*]; done)), H', ⟨by have := HJ2.out; have := HK2.out; omega⟩, ⟨by (with_reducible repeat (first | refine blk_drewN ?_ _ | refine blk_drew ?_ | refine blk_alloc ?_ _)); exact BK1378.out⟩, ⟨by (with_reducible repeat (first | refine blk_drewN ?_ _ | refine blk_drew ?_ | refine blk_alloc ?_ _)); exact BK1379.out⟩, ⟨by repeat (first | (with_reducible first | exact HB.out | apply below_alloc | apply pw_below_drewN | apply below_drew1 | refine below_set ?_ GE1378.out | refine below_set ?_ GE1379.out) | exact HB.out)⟩⟩
                · rw [if_neg c28] at H
                  exact absurd H (by simp)
              · rw [if_neg c27] at H
                exact absurd H (by simp)
            · rw [if_neg c26] at H
              have c26b0 : decide (x5_2 < (l0_4.length : Int)) = false := decide_eq_false c26
              clear c26
              obtain rfl := Option.some.inj H
              have hnb36 := NB1378_1379.out
              have hnc36 := NB1379_1378.out
              have hcz37_0 : wr.cell? ⟨gb1378, 0, none⟩ = some (.int .i64 a0_0) := (blk_cell BK1378.out 0).trans rfl
              have hcz37_1 : wr.cell? ⟨gb1378, 1, none⟩ = some (.int .i64 a0_1) := (blk_cell BK1378.out 1).trans rfl
              have hcz37_2 : wr.cell? ⟨gb1378, 2, none⟩ = some (.int .i64 a0_2) := (blk_cell BK1378.out 2).trans rfl
              have hcz37_3 : wr.cell? ⟨gb1378, 3, none⟩ = some (.int .i64 a0_3) := (blk_cell BK1378.out 3).trans rfl
              have hcz37_4 : wr.cell? ⟨gb1378, 4, none⟩ = some (.slice A0_4 l0_4.length c0_4) := (blk_cell BK1378.out 4).trans rfl
              have hfz37_0 := blk_frozen BK1378.out 0
              have hfz37_1 := blk_frozen BK1378.out 1
              have hfz37_2 := blk_frozen BK1378.out 2
              have hfz37_3 := blk_frozen BK1378.out 3
              have hfz37_4 := blk_frozen BK1378.out 4
              go_wp2
              repeat (go_quiet (fail); try go_wp2)
              go_ret
              exact ⟨by first | rfl | (simp [errW_none, errW_some] <;> rfl) | (simp [*, errW_none, errW_some] <;> rfl), by repeat (first | (with_reducible first | exact HB.out | apply below_alloc | apply pw_below_drewN | apply below_drew1 | refine below_set ?_ GE1378.out | refine below_set ?_ GE1379.out) | exact HB.out)⟩
end
end Go.Proofs.Ytgkeapbeogmfjaa.Q
