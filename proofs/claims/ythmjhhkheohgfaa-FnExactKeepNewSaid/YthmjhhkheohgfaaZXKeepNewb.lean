/- Made by a program of ours out of the print of the loaded functions: for each of some functions a plain function, and the walk that shows that a call comes to what it says. No condition but those of each theorem. -/
import Derived.Test.YthmjhhkheohgfaaZXKeepNew0
import Derived.Test.YthmjhhkheohgfaaZXKeepNewa
namespace Go.Proofs.Ythmjhhkheohgfaa.Q
open Go.RowKit Go.Proofs.YthmjhhkheohgfaaW.PrintWords Go.Proofs.YthmjhhkheohgfaaW.PrintLast Go.Proofs.YthmjhhkheohgfaaW.PrintMore
attribute [local go_sem] max2_int min2_int max_two min_two max_three min_three max_four min_four   -- for this text's walks alone
set_option linter.unusedVariables false
set_option linter.unusedSimpArgs false
theorem qb0_ {P : Prop} (h : P := by first | (simp only [putAll, Act.put, List.setIfInBounds_toArray, List.set_cons_zero, List.set_cons_succ]; done) | (simp only [putAll, Act.put, List.setIfInBounds_toArray, List.set_cons_zero, List.set_cons_succ]; rfl)) : P := h
theorem qb1_ {P : Prop} (h : P := by repeat (first | (with_reducible first | exact HB.out | apply below_alloc | apply pw_below_drewN | apply below_drew1) | exact HB.out)) : P := h
theorem qb2_ {P : Prop} (h : P := by (with_reducible repeat (first | apply Kd.S_alloc | apply Kd.S_drewN | apply Kd.S_drew)); exact HO155.out) : P := h
theorem qb3_ {P : Prop} (h : P := by repeat (first | (with_reducible first | exact HB.out | apply below_alloc | apply pw_below_drewN | apply below_drew1 | refine below_set ?_ GE176.out) | exact HB.out)) : P := h
theorem qb4_ {P : Prop} (h : P := by first | exact Kd.R_nil _ _ _ _ _ | exact Kd.N_nil _ _ _ _ _ | exact Kd.V_nil _ _ _ _ _ | exact Kd.Q_nil _ _ _ _ _ | exact Kd.S_nil _ _ _ _ _) : P := h
theorem qb5_ {P : Prop} (h : P := by repeat (first | (with_reducible first | exact HB.out | apply below_alloc | apply pw_below_drewN | apply below_drew1 | refine below_set ?_ GE145.out) | exact HB.out)) : P := h
theorem qb6_ {P : Prop} (h : P := by first | rfl | (simp [errW_none, errW_some] <;> rfl) | (simp [*, errW_none, errW_some] <;> rfl)) : P := h
theorem qb7_ {P : Prop} (h : P := by (try simp only [List.map_toArray, List.map_cons, List.map_nil]); first | done | rfl | (simp only [List.length_drop, List.length_take]; rfl)) : P := h
theorem qb8_ {P : Prop} (h : P := by first | exact Kd.S_nil _ _ _ _ _ | exact Kd.N_nil _ _ _ _ _ | exact Kd.V_nil _ _ _ _ _ | exact Kd.Q_nil _ _ _ _ _ | exact Kd.R_nil _ _ _ _ _) : P := h
theorem qb9_ {P : Prop} (h : P := by repeat (first | (with_reducible first | exact HB.out | apply below_alloc | apply pw_below_drewN | apply below_drew1 | refine below_set ?_ GE140.out) | exact HB.out)) : P := h
theorem qb10_ {P : Prop} (h : P := by repeat (first | (with_reducible first | exact HB.out | apply below_alloc | apply pw_below_drewN | apply below_drew1 | refine below_set ?_ GE176.out | refine below_set ?_ GE177.out) | exact HB.out)) : P := h
theorem qb11_ {P : Prop} (h : P := by (with_reducible repeat (first | apply Kd.S_alloc | apply Kd.S_drewN | apply Kd.S_drew)); exact HO_163002.out) : P := h
theorem qbh0_ {P : Prop} (h : P := by repeat' first | (with_reducible exact ih0 _ _ _ _ _ _ _ _ _ _) | (with_reducible exact LeO.refl _) | (with_reducible exact LeO.none _) | (with_reducible refine LeO.ite ?_ ?_) | (with_reducible refine LeO.bind ?_ (fun _ => ?_)) | exact ih0 _ _ _ _ _ _ _ _ _ _ | exact LeO.none _ | refine LeO.ite ?_ ?_ | refine LeO.bind ?_ (fun _ => ?_)) : P := h

/-! ### impl_SetupOk: function 82 -/
def impl_SetupOk.f (a0_0 : Int) (a0_1 : Int) (a0_2 : Int) (a0_3 : Int) : Option (Bool) := (impl_within.f a0_0 1 4).bind fun t141 => (if t141 = true then ((impl_within.f a0_1 1 5).bind fun t142 => (if t142 = true then ((impl_within.f a0_2 1 8).bind fun t143 => (if t143 = true then ((impl_within.f a0_3 0 60).bind fun t144 => (some t144)) else (some false))) else (some false))) else (some false))
set_option maxHeartbeats 8000000 in
set_option maxRecDepth 100000 in
theorem impl_SetupOk.calls (a0_0 : Int) (a0_1 : Int) (a0_2 : Int) (a0_3 : Int) (r : Bool) (w : World) (h : impl_SetupOk.f a0_0 a0_1 a0_2 a0_3 = some r) :
    Calls Try.prog 82 #[.agg #[.int .i64 a0_0, .int .i64 a0_1, .int .i64 a0_2, .int .i64 a0_3]] w fun e w' => e = .returned (.bool r) ∧ Below w.heap.size w w' := by
  have hu82 := Try.underlying82
  have HB := Aside0.mk (Below.refl w.heap.size w)
  have H : ((impl_within.f a0_0 1 4).bind fun t141 => (if t141 = true then ((impl_within.f a0_1 1 5).bind fun t142 => (if t142 = true then ((impl_within.f a0_2 1 8).bind fun t143 => (if t143 = true then ((impl_within.f a0_3 0 60).bind fun t144 => (some t144)) else (some false))) else (some false))) else (some false))) = some r := h
  clear h
  replace H := Option.bind_eq_some_iff.mp H
  obtain ⟨t141, A20, H⟩ := H
  replace H : (if t141 = true then ((impl_within.f a0_1 1 5).bind fun t142 => (if t142 = true then ((impl_within.f a0_2 1 8).bind fun t143 => (if t143 = true then ((impl_within.f a0_3 0 60).bind fun t144 => (some t144)) else (some false))) else (some false))) else (some false)) = some r := H
  have A2 := Aside0.mk A20
  clear A20
  by_cases c3 : t141 = true
  · subst c3
    have H1 : ((impl_within.f a0_1 1 5).bind fun t142 => (if t142 = true then ((impl_within.f a0_2 1 8).bind fun t143 => (if t143 = true then ((impl_within.f a0_3 0 60).bind fun t144 => (some t144)) else (some false))) else (some false))) = some r := by rw [if_pos rfl] at H; exact H
    clear H
    have H := H1
    clear H1
    replace H := Option.bind_eq_some_iff.mp H
    obtain ⟨t142, A40, H⟩ := H
    replace H : (if t142 = true then ((impl_within.f a0_2 1 8).bind fun t143 => (if t143 = true then ((impl_within.f a0_3 0 60).bind fun t144 => (some t144)) else (some false))) else (some false)) = some r := H
    have A4 := Aside0.mk A40
    clear A40
    by_cases c5 : t142 = true
    · subst c5
      have H1 : ((impl_within.f a0_2 1 8).bind fun t143 => (if t143 = true then ((impl_within.f a0_3 0 60).bind fun t144 => (some t144)) else (some false))) = some r := by rw [if_pos rfl] at H; exact H
      clear H
      have H := H1
      clear H1
      replace H := Option.bind_eq_some_iff.mp H
      obtain ⟨t143, A60, H⟩ := H
      replace H : (if t143 = true then ((impl_within.f a0_3 0 60).bind fun t144 => (some t144)) else (some false)) = some r := H
      have A6 := Aside0.mk A60
      clear A60
      by_cases c7 : t143 = true
      · subst c7
        have H1 : ((impl_within.f a0_3 0 60).bind fun t144 => (some t144)) = some r := by rw [if_pos rfl] at H; exact H
        clear H
        have H := H1
        clear H1
        replace H := Option.bind_eq_some_iff.mp H
        obtain ⟨t144, A80, H⟩ := H
        replace H : (some t144) = some r := H
        have A8 := Aside0.mk A80
        clear A80
        obtain rfl := Option.some.inj H
        go_enter Try.func82, Try.ntmps82
        go_wp2_with (first | ((with_reducible refine gate_dst (N := 1) rfl ?_); refine box_event ?hg (N := 1) ?hd (cs := #[.int .i64 a0_0, .int .i64 a0_1, .int .i64 a0_2, .int .i64 a0_3]) (t := 82) ?hr ?_; (case hd => rfl); (case hg => rfl); (case hr => first | (go_simp; done) | (go_simp; rfl)); intro gb140 hg w9 hbox hb; have BK140 := Aside0.mk (hbox); have GW140 := Aside0.mk ((by rw [hg]; exact (below_size (qb1_)) : w.heap.size ≤ gb140)); have GE140 := Aside0.mk ((by rw [hg]; exact (below_size (qb1_)) : w.heap.size ≤ gb140)); replace HB := Aside0.mk (below_step (qb1_) hb); clear hb hbox hg; have hcz10_0 : w9.cell? ⟨gb140, 0, none⟩ = some (.int .i64 a0_0) := bc_ BK140 0; have hcz10_1 : w9.cell? ⟨gb140, 1, none⟩ = some (.int .i64 a0_1) := bc_ BK140 1; have hcz10_2 : w9.cell? ⟨gb140, 2, none⟩ = some (.int .i64 a0_2) := bc_ BK140 2; have hcz10_3 : w9.cell? ⟨gb140, 3, none⟩ = some (.int .i64 a0_3) := bc_ BK140 3; have hfz10_0 := blk_frozen BK140.out 0; have hfz10_1 := blk_frozen BK140.out 1; have hfz10_2 := blk_frozen BK140.out 2; have hfz10_3 := blk_frozen BK140.out 3) | ((with_reducible refine gate_callee (f := 58) rfl ?_); refine goesL_ (some 5) rfl rfl Try.func58 (by kernel_rfl) rfl #[.int .i64 a0_0, .int .i64 1, .int .i64 4] rfl (qb7_) ?_; (with_reducible refine (impl_within.calls a0_0 1 4 true _ A2.out).mono ?_); rintro e w' ⟨rfl, ⟨nd, rfl⟩⟩; refine ⟨_, rfl, ?_⟩) | (go_at_call 58; (with_reducible refine (impl_within.calls a0_1 1 5 true _ A4.out).mono ?_); rintro e w' ⟨rfl, ⟨nd, rfl⟩⟩) | (go_at_call 58; (with_reducible refine (impl_within.calls a0_2 1 8 true _ A6.out).mono ?_); rintro e w' ⟨rfl, ⟨nd, rfl⟩⟩) | (go_at_call 58; (with_reducible refine (impl_within.calls a0_3 0 60 t144 _ A8.out).mono ?_); rintro e w' ⟨rfl, ⟨nd, rfl⟩⟩))
        go_ret
        exact ⟨qb6_, qb9_⟩
      · replace c7 := Bool.eq_false_iff.mpr c7
        subst c7
        have H1 : (some false) = some r := by rw [if_neg (show ¬ (false = true) by decide)] at H; exact H
        clear H
        have H := H1
        clear H1
        obtain rfl := Option.some.inj H
        go_enter Try.func82, Try.ntmps82
        go_wp2_with (first | ((with_reducible refine gate_dst (N := 1) rfl ?_); refine box_event ?hg (N := 1) ?hd (cs := #[.int .i64 a0_0, .int .i64 a0_1, .int .i64 a0_2, .int .i64 a0_3]) (t := 82) ?hr ?_; (case hd => rfl); (case hg => rfl); (case hr => first | (go_simp; done) | (go_simp; rfl)); intro gb140 hg w11 hbox hb; have BK140 := Aside0.mk (hbox); have GW140 := Aside0.mk ((by rw [hg]; exact (below_size (qb1_)) : w.heap.size ≤ gb140)); have GE140 := Aside0.mk ((by rw [hg]; exact (below_size (qb1_)) : w.heap.size ≤ gb140)); replace HB := Aside0.mk (below_step (qb1_) hb); clear hb hbox hg; have hcz12_0 : w11.cell? ⟨gb140, 0, none⟩ = some (.int .i64 a0_0) := bc_ BK140 0; have hcz12_1 : w11.cell? ⟨gb140, 1, none⟩ = some (.int .i64 a0_1) := bc_ BK140 1; have hcz12_2 : w11.cell? ⟨gb140, 2, none⟩ = some (.int .i64 a0_2) := bc_ BK140 2; have hcz12_3 : w11.cell? ⟨gb140, 3, none⟩ = some (.int .i64 a0_3) := bc_ BK140 3; have hfz12_0 := blk_frozen BK140.out 0; have hfz12_1 := blk_frozen BK140.out 1; have hfz12_2 := blk_frozen BK140.out 2; have hfz12_3 := blk_frozen BK140.out 3) | ((with_reducible refine gate_callee (f := 58) rfl ?_); refine goesL_ (some 5) rfl rfl Try.func58 (by kernel_rfl) rfl #[.int .i64 a0_0, .int .i64 1, .int .i64 4] rfl (qb7_) ?_; (with_reducible refine (impl_within.calls a0_0 1 4 true _ A2.out).mono ?_); rintro e w' ⟨rfl, ⟨nd, rfl⟩⟩; refine ⟨_, rfl, ?_⟩) | (go_at_call 58; (with_reducible refine (impl_within.calls a0_1 1 5 true _ A4.out).mono ?_); rintro e w' ⟨rfl, ⟨nd, rfl⟩⟩) | (go_at_call 58; (with_reducible refine (impl_within.calls a0_2 1 8 false _ A6.out).mono ?_); rintro e w' ⟨rfl, ⟨nd, rfl⟩⟩))
        go_ret
        exact ⟨qb6_, qb9_⟩
    · replace c5 := Bool.eq_false_iff.mpr c5
      subst c5
      have H1 : (some false) = some r := by rw [if_neg (show ¬ (false = true) by decide)] at H; exact H
      clear H
      have H := H1
      clear H1
      obtain rfl := Option.some.inj H
      go_enter Try.func82, Try.ntmps82
      go_wp2_with (first | ((with_reducible refine gate_dst (N := 1) rfl ?_); refine box_event ?hg (N := 1) ?hd (cs := #[.int .i64 a0_0, .int .i64 a0_1, .int .i64 a0_2, .int .i64 a0_3]) (t := 82) ?hr ?_; (case hd => rfl); (case hg => rfl); (case hr => first | (go_simp; done) | (go_simp; rfl)); intro gb140 hg w13 hbox hb; have BK140 := Aside0.mk (hbox); have GW140 := Aside0.mk ((by rw [hg]; exact (below_size (qb1_)) : w.heap.size ≤ gb140)); have GE140 := Aside0.mk ((by rw [hg]; exact (below_size (qb1_)) : w.heap.size ≤ gb140)); replace HB := Aside0.mk (below_step (qb1_) hb); clear hb hbox hg; have hcz14_0 : w13.cell? ⟨gb140, 0, none⟩ = some (.int .i64 a0_0) := bc_ BK140 0; have hcz14_1 : w13.cell? ⟨gb140, 1, none⟩ = some (.int .i64 a0_1) := bc_ BK140 1; have hcz14_2 : w13.cell? ⟨gb140, 2, none⟩ = some (.int .i64 a0_2) := bc_ BK140 2; have hcz14_3 : w13.cell? ⟨gb140, 3, none⟩ = some (.int .i64 a0_3) := bc_ BK140 3; have hfz14_0 := blk_frozen BK140.out 0; have hfz14_1 := blk_frozen BK140.out 1; have hfz14_2 := blk_frozen BK140.out 2; have hfz14_3 := blk_frozen BK140.out 3) | ((with_reducible refine gate_callee (f := 58) rfl ?_); refine goesL_ (some 5) rfl rfl Try.func58 (by kernel_rfl) rfl #[.int .i64 a0_0, .int .i64 1, .int .i64 4] rfl (qb7_) ?_; (with_reducible refine (impl_within.calls a0_0 1 4 true _ A2.out).mono ?_); rintro e w' ⟨rfl, ⟨nd, rfl⟩⟩; refine ⟨_, rfl, ?_⟩) | (go_at_call 58; (with_reducible refine (impl_within.calls a0_1 1 5 false _ A4.out).mono ?_); rintro e w' ⟨rfl, ⟨nd, rfl⟩⟩))
      go_ret
      exact ⟨qb6_, qb9_⟩
  · replace c3 := Bool.eq_false_iff.mpr c3
    subst c3
    have H1 : (some false) = some r := by rw [if_neg (show ¬ (false = true) by decide)] at H; exact H
    clear H
    have H := H1
    clear H1
    obtain rfl := Option.some.inj H
    go_enter Try.func82, Try.ntmps82
    go_wp2_with (first | ((with_reducible refine gate_dst (N := 1) rfl ?_); refine box_event ?hg (N := 1) ?hd (cs := #[.int .i64 a0_0, .int .i64 a0_1, .int .i64 a0_2, .int .i64 a0_3]) (t := 82) ?hr ?_; (case hd => rfl); (case hg => rfl); (case hr => first | (go_simp; done) | (go_simp; rfl)); intro gb140 hg w15 hbox hb; have BK140 := Aside0.mk (hbox); have GW140 := Aside0.mk ((by rw [hg]; exact (below_size (qb1_)) : w.heap.size ≤ gb140)); have GE140 := Aside0.mk ((by rw [hg]; exact (below_size (qb1_)) : w.heap.size ≤ gb140)); replace HB := Aside0.mk (below_step (qb1_) hb); clear hb hbox hg; have hcz16_0 : w15.cell? ⟨gb140, 0, none⟩ = some (.int .i64 a0_0) := bc_ BK140 0; have hcz16_1 : w15.cell? ⟨gb140, 1, none⟩ = some (.int .i64 a0_1) := bc_ BK140 1; have hcz16_2 : w15.cell? ⟨gb140, 2, none⟩ = some (.int .i64 a0_2) := bc_ BK140 2; have hcz16_3 : w15.cell? ⟨gb140, 3, none⟩ = some (.int .i64 a0_3) := bc_ BK140 3; have hfz16_0 := blk_frozen BK140.out 0; have hfz16_1 := blk_frozen BK140.out 1; have hfz16_2 := blk_frozen BK140.out 2; have hfz16_3 := blk_frozen BK140.out 3) | ((with_reducible refine gate_callee (f := 58) rfl ?_); refine goesL_ (some 5) rfl rfl Try.func58 (by kernel_rfl) rfl #[.int .i64 a0_0, .int .i64 1, .int .i64 4] rfl (qb7_) ?_; (with_reducible refine (impl_within.calls a0_0 1 4 false _ A2.out).mono ?_); rintro e w' ⟨rfl, ⟨nd, rfl⟩⟩; refine ⟨_, rfl, ?_⟩))
    go_ret
    exact ⟨qb6_, qb9_⟩

/-! ### impl_GroupNew: function 83 -/
def impl_GroupNew.f (a0 : Int) : Option (Int × List Int × List Int × List Int) := (impl_within.f a0 1 4).bind fun t146 => (if t146 = true then (if 0 ≤ a0 then (if (a0 : Int).toNat ≤ 35184372088832 then (some (0, ([] : List Int), ([] : List Int), (List.replicate (a0 : Int).toNat 0))) else (none)) else (none)) else (some (0, ([] : List Int), ([] : List Int), ([] : List Int))))
set_option maxHeartbeats 8000000 in
set_option maxRecDepth 100000 in
theorem impl_GroupNew.calls (a0 : Int) (r1 : Int) (r2 : List Int) (r3 : List Int) (r4 : List Int) (w : World) (h : impl_GroupNew.f a0 = some (r1, r2, r3, r4)) :
    Calls Try.prog 83 #[.int .i64 a0] w fun e w' => ∃ v1_ v2_ v3_ : Value, e = .returned (.agg #[.int .i64 r1, v1_, v2_, v3_]) ∧ Kd.R (Kd.int .i64) 3 w' w.heap.size (fun k_ => some k_ ≠ (v2_ : Value).ownBlock ∧ some k_ ≠ (v3_ : Value).ownBlock) v1_ r2 ∧ Kd.R (Kd.int .i64) 3 w' w.heap.size (fun k_ => some k_ ≠ (v1_ : Value).ownBlock ∧ some k_ ≠ (v3_ : Value).ownBlock) v2_ r3 ∧ Kd.R (Kd.int .i64) 3 w' w.heap.size (fun k_ => some k_ ≠ (v1_ : Value).ownBlock ∧ some k_ ≠ (v2_ : Value).ownBlock) v3_ r4 ∧ Below w.heap.size w w' := by
  have hu115 := Try.underlying115
  have HB := Aside0.mk (Below.refl w.heap.size w)
  have H : ((impl_within.f a0 1 4).bind fun t146 => (if t146 = true then (if 0 ≤ a0 then (if (a0 : Int).toNat ≤ 35184372088832 then (some (0, ([] : List Int), ([] : List Int), (List.replicate (a0 : Int).toNat 0))) else (none)) else (none)) else (some (0, ([] : List Int), ([] : List Int), ([] : List Int))))) = some (r1, r2, r3, r4) := h
  clear h
  replace H := Option.bind_eq_some_iff.mp H
  obtain ⟨t146, A20, H⟩ := H
  replace H : (if t146 = true then (if 0 ≤ a0 then (if (a0 : Int).toNat ≤ 35184372088832 then (some (0, ([] : List Int), ([] : List Int), (List.replicate (a0 : Int).toNat 0))) else (none)) else (none)) else (some (0, ([] : List Int), ([] : List Int), ([] : List Int)))) = some (r1, r2, r3, r4) := H
  have A2 := Aside0.mk A20
  clear A20
  by_cases c3 : t146 = true
  · subst c3
    have H1 : (if 0 ≤ a0 then (if (a0 : Int).toNat ≤ 35184372088832 then (some (0, ([] : List Int), ([] : List Int), (List.replicate (a0 : Int).toNat 0))) else (none)) else (none)) = some (r1, r2, r3, r4) := by rw [if_pos rfl] at H; exact H
    clear H
    have H := H1
    clear H1
    by_cases c4 : 0 ≤ a0
    · rw [if_pos c4] at H
      have c4b0 := eq_true c4
      have c4b1 : decide (0 ≤ a0) = true := decide_eq_true c4
      clear c4
      by_cases c5 : (a0 : Int).toNat ≤ 35184372088832
      · rw [if_pos c5] at H
        have c5b0 := eq_true c5
        have c5b1 : decide ((a0 : Int).toNat ≤ 35184372088832) = true := decide_eq_true c5
        clear c5
        obtain ⟨y147, hy147⟩ : ∃ y_ : List Int, y_ = (List.replicate (a0 : Int).toNat 0) := ⟨_, rfl⟩
        replace H : (some (0, ([] : List Int), ([] : List Int), y147)) = some (r1, r2, r3, r4) := by first | (rw [hy147]; with_reducible exact H) | (have H2_ := (Option.bind_some _ _).symm.trans H; rw [hy147]; with_reducible exact H2_) | (have H2_ := (Option.bind_some _ _).symm.trans H; with_reducible exact H2_) | with_reducible exact H | (rw [hy147]; exact H) | exact H
        have Ny147 := Aside0.mk hy147
        clear hy147
        simp only [Option.some.injEq, Prod.mk.injEq] at H
        obtain ⟨rfl, rfl, rfl, rfl⟩ := H
        go_enter Try.func83, Try.ntmps83
        go_wp2_with (first | ((with_reducible refine gate_dst (N := 2) rfl ?_); refine box_event ?hg (N := 2) ?hd (cs := #[.int .i64 0, .slice none 0 0, .slice none 0 0, .slice none 0 0]) (t := 115) ?hr ?_; (case hd => rfl); (case hg => rfl); (case hr => first | (go_simp; done) | (go_simp; rfl)); intro gb145 hg w6 hbox hb; have BK145 := Aside0.mk (hbox); have GW145 := Aside0.mk ((by rw [hg]; exact (below_size (qb1_)) : w.heap.size ≤ gb145)); have GE145 := Aside0.mk ((by rw [hg]; exact (below_size (qb1_)) : w.heap.size ≤ gb145)); replace HB := Aside0.mk (below_step (qb1_) hb); clear hb hbox hg) | ((with_reducible refine gate_callee (f := 58) rfl ?_); refine goesL_ (some 4) rfl rfl Try.func58 (by kernel_rfl) rfl #[.int .i64 a0, .int .i64 1, .int .i64 4] rfl (qb7_) ?_; (with_reducible refine (impl_within.calls a0 1 4 true _ A2.out).mono ?_); rintro e w' ⟨rfl, ⟨nd, rfl⟩⟩; refine ⟨_, rfl, ?_⟩; (try (rw [drewN_self w6]; generalize hq_ : World.drewN w6 _ = w6; have n0_ : Aside0 (w6.heap[gb145]? = some (.cells #[.int .i64 0, .slice none 0 0, .slice none 0 0, .slice none 0 0] 115 (0, 0))) := ⟨by rw [← hq_]; exact (bq_ BK145.out)⟩; have n1_ : Aside0 (Below w.heap.size w w6) := ⟨by rw [← hq_]; exact (qb5_)⟩; clear BK145 HB hq_; have BK145 := n0_; have HB := n1_; clear n0_ n1_))) | ((with_reducible refine gate_dst (N := 8) rfl ?_); refine Kd.R_make (Kd.int .i64) _ 3 rfl (N := 8) rfl 77 _ _ rfl a0 rfl rfl Try.underlying77 (.int .i64 0) 8 info3 rfl (by decide) (by omega) 0 (ok := fun _ => True) (okp := fun _ => True) rfl (fun _ hk => hk) trivial (of_decide_eq_true dt_) (Nat.le_trans (Nat.mul_le_mul_right _ (of_decide_eq_true dt_ : a0.toNat ≤ 35184372088832)) (by omega)) (Below.refl _ _) (Nat.le_refl _) ?_; intro v148 w7 ho8 hb hg_ hnew_; clear hg_ hnew_; (first | rw [← Ny147.out] at ho8 | (simp only [Int.reduceToNat] at ho8; rw [← Ny147.out] at ho8)); have HO149 := Aside0.mk (Kd.R_lower ho8 (below_size (qb5_))); replace BK145 := Aside0.mk (blk_below (g := gb145) (o := .cells #[.int .i64 0, .slice none 0 0, .slice none 0 0, .slice none 0 0] 115 (0, 0)) (bq_ BK145.out) hb); replace HB := Aside0.mk (below_step (qb5_) hb); clear hb ho8; obtain ⟨Ao9, co9, eo9⟩ := Kd.R_slice HO149.out; subst eo9; have hcz10_0 : w7.cell? ⟨gb145, 0, none⟩ = some (.int .i64 0) := bc_ BK145 0; have hcz10_1 : w7.cell? ⟨gb145, 1, none⟩ = some (.slice none 0 0) := bc_ BK145 1; have hcz10_2 : w7.cell? ⟨gb145, 2, none⟩ = some (.slice none 0 0) := bc_ BK145 2; have hcz10_3 : w7.cell? ⟨gb145, 3, none⟩ = some (.slice none 0 0) := bc_ BK145 3; have hfz10_0 := blk_frozen BK145.out 0; have hfz10_1 := blk_frozen BK145.out 1; have hfz10_2 := blk_frozen BK145.out 2; have hfz10_3 := blk_frozen BK145.out 3))
        refine bodyPost_ret (results_cell_row rfl _ _ gb145 115 #[.int .i64 0, .slice none 0 0, .slice none 0 0, .slice Ao9 y147.length co9] (0, 0) _ rfl (bp_ BK145.out) Try.underlying115 rfl (by kernel_rfl)) rfl ?_
        exact ⟨_, _, _, qb6_, qb4_, qb4_, by (with_reducible repeat (first | apply Kd.R_alloc | apply Kd.R_drewN | apply Kd.R_drew)); exact Kd.R_mono (Kd.R_far (p := ⟨gb145, 3, none⟩) (Kd.R_far (p := ⟨gb145, 2, none⟩) (Kd.R_far (p := ⟨gb145, 1, none⟩) (Kd.R_far (p := ⟨gb145, 0, none⟩) (Kd.R_types HO149.out BK145.out (by decide)) (fun _ hk => hk.2) (.int .i64 0)) (fun _ hk => hk.2) (.slice none 0 0)) (fun _ hk => hk.2) (.slice none 0 0)) (fun _ hk => hk.2) (.slice Ao9 y147.length co9)) (fun _ hk => ⟨(by simp [Value.ownBlock]), (by simp [Value.ownBlock])⟩), qb5_⟩
      · rw [if_neg c5] at H
        exact absurd H (by simp)
    · rw [if_neg c4] at H
      exact absurd H (by simp)
  · replace c3 := Bool.eq_false_iff.mpr c3
    subst c3
    have H1 : (some (0, ([] : List Int), ([] : List Int), ([] : List Int))) = some (r1, r2, r3, r4) := by rw [if_neg (show ¬ (false = true) by decide)] at H; exact H
    clear H
    have H := H1
    clear H1
    simp only [Option.some.injEq, Prod.mk.injEq] at H
    obtain ⟨rfl, rfl, rfl, rfl⟩ := H
    go_enter Try.func83, Try.ntmps83
    go_wp2_with (first | ((with_reducible refine gate_dst (N := 2) rfl ?_); refine box_event ?hg (N := 2) ?hd (cs := #[.int .i64 0, .slice none 0 0, .slice none 0 0, .slice none 0 0]) (t := 115) ?hr ?_; (case hd => rfl); (case hg => rfl); (case hr => first | (go_simp; done) | (go_simp; rfl)); intro gb145 hg w11 hbox hb; have BK145 := Aside0.mk (hbox); have GW145 := Aside0.mk ((by rw [hg]; exact (below_size (qb1_)) : w.heap.size ≤ gb145)); have GE145 := Aside0.mk ((by rw [hg]; exact (below_size (qb1_)) : w.heap.size ≤ gb145)); replace HB := Aside0.mk (below_step (qb1_) hb); clear hb hbox hg) | ((with_reducible refine gate_callee (f := 58) rfl ?_); refine goesL_ (some 4) rfl rfl Try.func58 (by kernel_rfl) rfl #[.int .i64 a0, .int .i64 1, .int .i64 4] rfl (qb7_) ?_; (with_reducible refine (impl_within.calls a0 1 4 false _ A2.out).mono ?_); rintro e w' ⟨rfl, ⟨nd, rfl⟩⟩; refine ⟨_, rfl, ?_⟩; (try (rw [drewN_self w11]; generalize hq_ : World.drewN w11 _ = w11; have n0_ : Aside0 (w11.heap[gb145]? = some (.cells #[.int .i64 0, .slice none 0 0, .slice none 0 0, .slice none 0 0] 115 (0, 0))) := ⟨by rw [← hq_]; exact (bq_ BK145.out)⟩; have n1_ : Aside0 (Below w.heap.size w w11) := ⟨by rw [← hq_]; exact (qb5_)⟩; clear BK145 HB hq_; have BK145 := n0_; have HB := n1_; clear n0_ n1_)); have hcz12_0 : w11.cell? ⟨gb145, 0, none⟩ = some (.int .i64 0) := bc_ BK145 0; have hcz12_1 : w11.cell? ⟨gb145, 1, none⟩ = some (.slice none 0 0) := bc_ BK145 1; have hcz12_2 : w11.cell? ⟨gb145, 2, none⟩ = some (.slice none 0 0) := bc_ BK145 2; have hcz12_3 : w11.cell? ⟨gb145, 3, none⟩ = some (.slice none 0 0) := bc_ BK145 3; have hfz12_0 := blk_frozen BK145.out 0; have hfz12_1 := blk_frozen BK145.out 1; have hfz12_2 := blk_frozen BK145.out 2; have hfz12_3 := blk_frozen BK145.out 3))
    refine bodyPost_ret (results_cell_row rfl _ _ gb145 115 #[.int .i64 0, .slice none 0 0, .slice none 0 0, .slice none 0 0] (0, 0) _ rfl (bp_ BK145.out) Try.underlying115 rfl (by kernel_rfl)) rfl ?_
    exact ⟨_, _, _, qb6_, qb4_, qb4_, qb4_, qb5_⟩
/-! ### impl_KeepNew: function 46 -/
def impl_KeepNew.l0 : Nat → Int → Int → Int → Int → Int → List (S_Row) → List (S_Group) → Int → List Int → List (S_Answer) → Option ((List (S_Row)) × (List (S_Maker)) × (List (S_Group)) × Int × List Int × (List (S_Answer)))
 | 0, _, _, _, _, _, _, _, _, _, _ => none
 | k + 1, x4, x151000, x151001, x151002, x151003, x163000, x163002, x163003, x163004, x163005 => if x4 < 2 then ((impl_GroupNew.f x151000).bind fun bt163 => (if x163002.length < 1759218604441 then (impl_KeepNew.l0 k (wrap64 (x4 + 1)) x151000 x151001 x151002 x151003 x163000 (x163002 ++ [(⟨bt163.1, bt163.2.1, bt163.2.2.1, bt163.2.2.2⟩ : S_Group)]) x163003 x163004 x163005) else (none))) else (some (x163000, ([] : List (S_Maker)), x163002, x163003, x163004, x163005))
def impl_KeepNew.f (k : Nat) (a0_0 : Int) (a0_1 : Int) (a0_2 : Int) (a0_3 : Int) : Option ((List (S_Row)) × (List (S_Maker)) × (List (S_Group)) × Int × List Int × (List (S_Answer))) := (impl_SetupOk.f a0_0 a0_1 a0_2 a0_3).bind fun t152 => (if t152 = true then (if 0 ≤ a0_0 then (if (a0_0 : Int).toNat ≤ 7036874417766 then (if 4 ≤ 35184372088832 then (if 4 ≤ 5864062014805 then (impl_KeepNew.l0 k 0 a0_0 a0_1 a0_2 a0_3 (List.replicate (a0_0 : Int).toNat z_Row) ([] : List (S_Group)) 0 (List.replicate 4 0) (List.replicate 4 z_Answer)) else (none)) else (none)) else (none)) else (none)) else (some (([] : List (S_Row)), ([] : List (S_Maker)), ([] : List (S_Group)), 0, ([] : List Int), ([] : List (S_Answer)))))
theorem impl_KeepNew.mono_l : ∀ k, (∀ y0 y1 y2 y3 y4 y5 y6 y7 y8 y9, LeO (impl_KeepNew.l0 k y0 y1 y2 y3 y4 y5 y6 y7 y8 y9) (impl_KeepNew.l0 (k + 1) y0 y1 y2 y3 y4 y5 y6 y7 y8 y9))
 | 0 => fun _ _ _ _ _ _ _ _ _ _ r h => by simp [impl_KeepNew.l0] at h
 | k + 1 => by
  have ih0 := impl_KeepNew.mono_l k
  ·
   intro y0 y1 y2 y3 y4 y5 y6 y7 y8 y9
   unfold impl_KeepNew.l0
   exact qbh0_
theorem impl_KeepNew.mono : ∀ a0 a1 a2 a3 k, LeO (impl_KeepNew.f k a0 a1 a2 a3) (impl_KeepNew.f (k + 1) a0 a1 a2 a3) := by
 intro a0 a1 a2 a3 k
 have ih0 := impl_KeepNew.mono_l k
 unfold impl_KeepNew.f
 exact qbh0_
def impl_KeepNew.T3 : Bool × List (List Nat × List Nat) := (true, [([], []), ([0], [0]), ([1, 1], [1]), ([], []), ([], []), ([2, 3, 4], [2, 3, 4]), ([], []), ([6, 5, 0, 1, 2, 3, 4, 5, 6], [5, 6])])
def impl_KeepNew.B3 : List Nat := [0, 1, 3, 0, 0, 31, 0, 127]
theorem impl_KeepNew.tab3 : rtab .any (opsOf Try.f46 3) = impl_KeepNew.T3 := by kernel_rfl
theorem impl_KeepNew.bits3 : waitsOk impl_KeepNew.T3.2 impl_KeepNew.B3 = true := by kernel_rfl
def impl_KeepNew.T7 : Bool × List (List Nat × List Nat) := (true, [([], []), ([0], [0]), ([], []), ([2], [2]), ([3], [3]), ([4], [4]), ([1, 5, 4], [1, 5]), ([0, 1, 2, 3, 4, 5, 6], []), ([7, 6, 6, 0, 1, 2, 3, 4, 5, 6], [6, 7])])
def impl_KeepNew.B7 : List Nat := [0, 1, 0, 4, 12, 28, 63, 127, 255]
theorem impl_KeepNew.tab7 : rtab .any (opsOf Try.f46 7) = impl_KeepNew.T7 := by kernel_rfl
theorem impl_KeepNew.bits7 : waitsOk impl_KeepNew.T7.2 impl_KeepNew.B7 = true := by kernel_rfl
set_option maxHeartbeats 8000000 in
set_option maxRecDepth 100000 in
theorem impl_KeepNew.calls (k : Nat) (a0_0 : Int) (a0_1 : Int) (a0_2 : Int) (a0_3 : Int) (r1 : List (S_Row)) (r2 : List (S_Maker)) (r3 : List (S_Group)) (r4 : Int) (r5 : List Int) (r6 : List (S_Answer)) (w : World) (h : impl_KeepNew.f k a0_0 a0_1 a0_2 a0_3 = some (r1, r2, r3, r4, r5, r6)) :
 Calls Try.prog 46 #[.agg #[.int .i64 a0_0, .int .i64 a0_1, .int .i64 a0_2, .int .i64 a0_3]] w fun e w' => ∃ v0_ v1_ v2_ v4_ v5_ : Value, e = .returned (.agg #[v0_, v1_, v2_, .int .i64 r4, v4_, v5_]) ∧ Kd.S k_Row 26 w' w.heap.size (fun _ => True) v0_ r1 ∧ Kd.S k_Maker 38 w' w.heap.size (fun _ => True) v1_ r2 ∧ Kd.S k_Group 115 w' w.heap.size (fun k_ => some k_ ≠ (v4_ : Value).ownBlock) v2_ r3 ∧ Kd.R (Kd.int .i64) 3 w' w.heap.size (fun _ => True) v4_ r5 ∧ Kd.R k_Answer 144 w' w.heap.size (fun _ => True) v5_ r6 ∧ Below w.heap.size w w' := by
 have hu82 := Try.underlying82
 have hu80 := Try.underlying80
 have HB := Aside0.mk (Below.refl w.heap.size w)
 have H : ((impl_SetupOk.f a0_0 a0_1 a0_2 a0_3).bind fun t152 => (if t152 = true then (if 0 ≤ a0_0 then (if (a0_0 : Int).toNat ≤ 7036874417766 then (if 4 ≤ 35184372088832 then (if 4 ≤ 5864062014805 then (impl_KeepNew.l0 k 0 a0_0 a0_1 a0_2 a0_3 (List.replicate (a0_0 : Int).toNat z_Row) ([] : List (S_Group)) 0 (List.replicate 4 0) (List.replicate 4 z_Answer)) else (none)) else (none)) else (none)) else (none)) else (some (([] : List (S_Row)), ([] : List (S_Maker)), ([] : List (S_Group)), 0, ([] : List Int), ([] : List (S_Answer)))))) = some (r1, r2, r3, r4, r5, r6) := h
 clear h
 replace H := Option.bind_eq_some_iff.mp H
 obtain ⟨t152, A20, H⟩ := H
 replace H : (if t152 = true then (if 0 ≤ a0_0 then (if (a0_0 : Int).toNat ≤ 7036874417766 then (if 4 ≤ 35184372088832 then (if 4 ≤ 5864062014805 then (impl_KeepNew.l0 k 0 a0_0 a0_1 a0_2 a0_3 (List.replicate (a0_0 : Int).toNat z_Row) ([] : List (S_Group)) 0 (List.replicate 4 0) (List.replicate 4 z_Answer)) else (none)) else (none)) else (none)) else (none)) else (some (([] : List (S_Row)), ([] : List (S_Maker)), ([] : List (S_Group)), 0, ([] : List Int), ([] : List (S_Answer))))) = some (r1, r2, r3, r4, r5, r6) := H
 have A2 := Aside0.mk A20
 clear A20
 by_cases c3 : t152 = true
 ·
  subst c3
  have H1 : (if 0 ≤ a0_0 then (if (a0_0 : Int).toNat ≤ 7036874417766 then (if 4 ≤ 35184372088832 then (if 4 ≤ 5864062014805 then (impl_KeepNew.l0 k 0 a0_0 a0_1 a0_2 a0_3 (List.replicate (a0_0 : Int).toNat z_Row) ([] : List (S_Group)) 0 (List.replicate 4 0) (List.replicate 4 z_Answer)) else (none)) else (none)) else (none)) else (none)) = some (r1, r2, r3, r4, r5, r6) := by rw [if_pos rfl] at H; exact H
  clear H
  have H := H1
  clear H1
  by_cases c4 : 0 ≤ a0_0
  ·
   rw [if_pos c4] at H
   have c4b0 := eq_true c4
   have c4b1 : decide (0 ≤ a0_0) = true := decide_eq_true c4
   clear c4
   by_cases c5 : (a0_0 : Int).toNat ≤ 7036874417766
   ·
    rw [if_pos c5] at H
    have c5b0 := eq_true c5
    have c5b1 : decide ((a0_0 : Int).toNat ≤ 7036874417766) = true := decide_eq_true c5
    clear c5
    obtain ⟨y153, hy153⟩ : ∃ y_ : List (S_Row), y_ = (List.replicate (a0_0 : Int).toNat z_Row) := ⟨_, rfl⟩
    replace H : (if 4 ≤ 35184372088832 then (if 4 ≤ 5864062014805 then (impl_KeepNew.l0 k 0 a0_0 a0_1 a0_2 a0_3 y153 ([] : List (S_Group)) 0 (List.replicate 4 0) (List.replicate 4 z_Answer)) else (none)) else (none)) = some (r1, r2, r3, r4, r5, r6) := by first | (rw [hy153]; with_reducible exact H) | (have H2_ := (Option.bind_some _ _).symm.trans H; rw [hy153]; with_reducible exact H2_) | (have H2_ := (Option.bind_some _ _).symm.trans H; with_reducible exact H2_) | with_reducible exact H | (rw [hy153]; exact H) | exact H
    have Ny153 := Aside0.mk hy153
    clear hy153
    by_cases c6 : 4 ≤ 35184372088832
    ·
     rw [if_pos c6] at H
     have c6b0 := eq_true c6
     have c6b1 : decide (4 ≤ 35184372088832) = true := decide_eq_true c6
     clear c6
     obtain ⟨y156, hy156⟩ : ∃ y_ : List Int, y_ = (List.replicate 4 0) := ⟨_, rfl⟩
     replace H : (if 4 ≤ 5864062014805 then (impl_KeepNew.l0 k 0 a0_0 a0_1 a0_2 a0_3 y153 ([] : List (S_Group)) 0 y156 (List.replicate 4 z_Answer)) else (none)) = some (r1, r2, r3, r4, r5, r6) := by first | (rw [hy156]; with_reducible exact H) | (have H2_ := (Option.bind_some _ _).symm.trans H; rw [hy156]; with_reducible exact H2_) | (have H2_ := (Option.bind_some _ _).symm.trans H; with_reducible exact H2_) | with_reducible exact H | (rw [hy156]; exact H) | exact H
     have Ny156 := Aside0.mk hy156
     clear hy156
     by_cases c7 : 4 ≤ 5864062014805
     ·
      rw [if_pos c7] at H
      have c7b0 := eq_true c7
      have c7b1 : decide (4 ≤ 5864062014805) = true := decide_eq_true c7
      clear c7
      obtain ⟨y159, hy159⟩ : ∃ y_ : List (S_Answer), y_ = (List.replicate 4 z_Answer) := ⟨_, rfl⟩
      replace H : (impl_KeepNew.l0 k 0 a0_0 a0_1 a0_2 a0_3 y153 ([] : List (S_Group)) 0 y156 y159) = some (r1, r2, r3, r4, r5, r6) := by first | (rw [hy159]; with_reducible exact H) | (have H2_ := (Option.bind_some _ _).symm.trans H; rw [hy159]; with_reducible exact H2_) | (have H2_ := (Option.bind_some _ _).symm.trans H; with_reducible exact H2_) | with_reducible exact H | (rw [hy159]; exact H) | exact H
      have Ny159 := Aside0.mk hy159
      clear hy159
      have H' := Aside0.mk H
      clear H
      go_enter Try.func46, Try.ntmps46
      try go_wp2_with (first | ((with_reducible refine gate_dst (N := 1) rfl ?_); refine box_event ?hg (N := 1) ?hd (cs := #[.int .i64 a0_0, .int .i64 a0_1, .int .i64 a0_2, .int .i64 a0_3]) (t := 82) ?hr ?_; (case hd => rfl); (case hg => rfl); (case hr => first | (go_simp; done) | (go_simp; rfl)); intro gb150 hg w8 hbox hb; have BK150 := Aside0.mk (hbox); have GW150 := cz_ HB hg; have GE150 := cz_ HB hg; replace HB := ch_ HB hb; clear hb hbox hg) | ((with_reducible refine gate_dst (N := 2) rfl ?_); refine box_event ?hg (N := 2) ?hd (cs := #[.slice none 0 0, .slice none 0 0, .slice none 0 0, .int .i64 0, .slice none 0 0, .slice none 0 0]) (t := 80) ?hr ?_; (case hd => rfl); (case hg => rfl); (case hr => first | (go_simp; done) | (go_simp; rfl)); intro gb151 hg w9 hbox hb; have BK151 := Aside0.mk (hbox); have GW151 := cz_ HB hg; have GE151 := cz_ HB hg; have NB150_151 := cn_ BK150 hg; have NB151_150 := cm_ BK150 hg; replace BK150 := cb_ BK150 hb; replace HB := ch_ HB hb; clear hb hbox hg; have hnb10 := NB150_151.out; have hnc10 := NB151_150.out; have hcz11_0 : w9.cell? ⟨gb150, 0, none⟩ = some (.int .i64 a0_0) := bc_ BK150 0; have hcz11_1 : w9.cell? ⟨gb150, 1, none⟩ = some (.int .i64 a0_1) := bc_ BK150 1; have hcz11_2 : w9.cell? ⟨gb150, 2, none⟩ = some (.int .i64 a0_2) := bc_ BK150 2; have hcz11_3 : w9.cell? ⟨gb150, 3, none⟩ = some (.int .i64 a0_3) := bc_ BK150 3; have hfz11_0 := blk_frozen BK150.out 0; have hfz11_1 := blk_frozen BK150.out 1; have hfz11_2 := blk_frozen BK150.out 2; have hfz11_3 := blk_frozen BK150.out 3) | ((with_reducible refine gate_callee (f := 82) rfl ?_); refine goesL_ (some 6) rfl rfl Try.func82 (by kernel_rfl) rfl #[.agg #[.int .i64 a0_0, .int .i64 a0_1, .int .i64 a0_2, .int .i64 a0_3]] rfl sm_ ?_; (with_reducible refine (impl_SetupOk.calls a0_0 a0_1 a0_2 a0_3 true _ A2.out).mono ?_); rintro e w12 ⟨rfl, hb⟩; refine ⟨_, rfl, ?_⟩; replace BK150 := cb_ BK150 hb; replace BK151 := cb_ BK151 hb; replace HB := ch_ HB hb; (try clear hb); (try clear hb2); (try clear hk); (try clear hi)))
      replace BK150 := Aside0.mk (blk_drew BK150.out)
      replace BK151 := Aside0.mk (blk_drew BK151.out)
      replace HB := Aside0.mk (below_drew1 HB.out)
      refine start_ (n := 8) (S := fun w' => w'.cell? ⟨gb150, 0, none⟩ = some (.int .i64 a0_0) ∧ w'.cell? ⟨gb150, 1, none⟩ = some (.int .i64 a0_1) ∧ w'.cell? ⟨gb150, 2, none⟩ = some (.int .i64 a0_2) ∧ w'.cell? ⟨gb150, 3, none⟩ = some (.int .i64 a0_3)) (ds := []) #[false, false, false, false, false, false, false, false] (by kernel_rfl) rfl rfl ⟨bc_ BK150 0, bc_ BK150 1, bc_ BK150 2, bc_ BK150 3⟩ (fun hHeld => ?_); refine with_tabW impl_KeepNew.tab3 impl_KeepNew.bits3 (fun HT_ HW_ => ?_)
      generalize w12.drew = w13 at BK150 BK151 HB hHeld ⊢
      refine pI_ 0 9 HT_ #[true, false, false, false, false, false, false, false] rfl rfl ?_
      refine tk_ 1 10 HT_ HW_ #[true, true, false, false, false, false, false, false] rfl rfl hHeld ?_
      refine join_ (σ := Value × Value × Value × Nat) 1 #[true, true, true, true, true, true, true, false] (fun s_ => [(11, s_.1), (12, s_.2.1), (13, s_.2.2.1), (3, .pointer (some ⟨s_.2.2.2, 0, none⟩)), (14, .agg #[s_.1, .slice none 0 0, .slice none 0 0, .int .i64 0, s_.2.1, s_.2.2.1])]) (fun s_ w' => (w'.cell? ⟨gb150, 0, none⟩ = some (.int .i64 a0_0) ∧ w'.cell? ⟨gb150, 1, none⟩ = some (.int .i64 a0_1) ∧ w'.cell? ⟨gb150, 2, none⟩ = some (.int .i64 a0_2) ∧ w'.cell? ⟨gb150, 3, none⟩ = some (.int .i64 a0_3)) ∧ (Kd.S k_Row 26 w' w.heap.size (fun _ => True) s_.1 y153) ∧ (Kd.R (Kd.int .i64) 3 w' w.heap.size (fun _ => True) s_.2.1 y156) ∧ (Kd.R k_Answer 144 w' w.heap.size (fun _ => True) s_.2.2.1 y159) ∧ (w'.heap[gb150]? = some (.cells #[.int .i64 a0_0, .int .i64 a0_1, .int .i64 a0_2, .int .i64 a0_3] 82 (0, 0))) ∧ (w'.heap[gb151]? = some (.cells #[.slice none 0 0, .slice none 0 0, .slice none 0 0, .int .i64 0, .slice none 0 0, .slice none 0 0] 80 (0, 0))) ∧ (w'.heap[s_.2.2.2]? = some (.cells #[.slice none 0 0, .slice none 0 0, .slice none 0 0, .int .i64 0, .slice none 0 0, .slice none 0 0] 80 (0, 0))) ∧ (w.heap.size ≤ s_.2.2.2) ∧ (w.heap.size ≤ s_.2.2.2) ∧ (gb150 ≠ s_.2.2.2) ∧ (s_.2.2.2 ≠ gb150) ∧ (gb151 ≠ s_.2.2.2) ∧ (s_.2.2.2 ≠ gb151) ∧ (Below w.heap.size w w')) ?_ ?_
      rotate_left
      ·
       intro hJ2_3_4_6
       refine join_ (σ := Value × Value × Value) 2 #[true, true, true, true, true, true, false, false] (fun s_ => [(11, s_.1), (12, s_.2.1), (13, s_.2.2), (14, .agg #[s_.1, .slice none 0 0, .slice none 0 0, .int .i64 0, s_.2.1, s_.2.2])]) (fun s_ w' => (w'.cell? ⟨gb150, 0, none⟩ = some (.int .i64 a0_0) ∧ w'.cell? ⟨gb150, 1, none⟩ = some (.int .i64 a0_1) ∧ w'.cell? ⟨gb150, 2, none⟩ = some (.int .i64 a0_2) ∧ w'.cell? ⟨gb150, 3, none⟩ = some (.int .i64 a0_3)) ∧ (Kd.S k_Row 26 w' w.heap.size (fun _ => True) s_.1 y153) ∧ (Kd.R (Kd.int .i64) 3 w' w.heap.size (fun _ => True) s_.2.1 y156) ∧ (Kd.R k_Answer 144 w' w.heap.size (fun _ => True) s_.2.2 y159) ∧ (w'.heap[gb150]? = some (.cells #[.int .i64 a0_0, .int .i64 a0_1, .int .i64 a0_2, .int .i64 a0_3] 82 (0, 0))) ∧ (w'.heap[gb151]? = some (.cells #[.slice none 0 0, .slice none 0 0, .slice none 0 0, .int .i64 0, .slice none 0 0, .slice none 0 0] 80 (0, 0))) ∧ (Below w.heap.size w w')) ?_ ?_
       rotate_left
       ·
        intro hJ2_3_4
        refine join_ (σ := Value × Value × Nat) 3 #[true, true, true, true, false, false, true, false] (fun s_ => [(11, s_.1), (12, s_.2.1), (3, .pointer (some ⟨s_.2.2, 0, none⟩))]) (fun s_ w' => (w'.cell? ⟨gb150, 0, none⟩ = some (.int .i64 a0_0) ∧ w'.cell? ⟨gb150, 1, none⟩ = some (.int .i64 a0_1) ∧ w'.cell? ⟨gb150, 2, none⟩ = some (.int .i64 a0_2) ∧ w'.cell? ⟨gb150, 3, none⟩ = some (.int .i64 a0_3)) ∧ (Kd.S k_Row 26 w' w.heap.size (fun _ => True) s_.1 y153) ∧ (Kd.R (Kd.int .i64) 3 w' w.heap.size (fun _ => True) s_.2.1 y156) ∧ (w'.heap[gb150]? = some (.cells #[.int .i64 a0_0, .int .i64 a0_1, .int .i64 a0_2, .int .i64 a0_3] 82 (0, 0))) ∧ (w'.heap[gb151]? = some (.cells #[.slice none 0 0, .slice none 0 0, .slice none 0 0, .int .i64 0, .slice none 0 0, .slice none 0 0] 80 (0, 0))) ∧ (w'.heap[s_.2.2]? = some (.cells #[.slice none 0 0, .slice none 0 0, .slice none 0 0, .int .i64 0, .slice none 0 0, .slice none 0 0] 80 (0, 0))) ∧ (w.heap.size ≤ s_.2.2) ∧ (w.heap.size ≤ s_.2.2) ∧ (gb150 ≠ s_.2.2) ∧ (s_.2.2 ≠ gb150) ∧ (gb151 ≠ s_.2.2) ∧ (s_.2.2 ≠ gb151) ∧ (Below w.heap.size w w')) ?_ ?_
        rotate_left
        ·
         intro hJ2_3_6
         refine join_ (σ := Value × Value × Nat) 3 #[true, true, true, false, true, false, true, false] (fun s_ => [(11, s_.1), (13, s_.2.1), (3, .pointer (some ⟨s_.2.2, 0, none⟩))]) (fun s_ w' => (w'.cell? ⟨gb150, 0, none⟩ = some (.int .i64 a0_0) ∧ w'.cell? ⟨gb150, 1, none⟩ = some (.int .i64 a0_1) ∧ w'.cell? ⟨gb150, 2, none⟩ = some (.int .i64 a0_2) ∧ w'.cell? ⟨gb150, 3, none⟩ = some (.int .i64 a0_3)) ∧ (Kd.S k_Row 26 w' w.heap.size (fun _ => True) s_.1 y153) ∧ (Kd.R k_Answer 144 w' w.heap.size (fun _ => True) s_.2.1 y159) ∧ (w'.heap[gb150]? = some (.cells #[.int .i64 a0_0, .int .i64 a0_1, .int .i64 a0_2, .int .i64 a0_3] 82 (0, 0))) ∧ (w'.heap[gb151]? = some (.cells #[.slice none 0 0, .slice none 0 0, .slice none 0 0, .int .i64 0, .slice none 0 0, .slice none 0 0] 80 (0, 0))) ∧ (w'.heap[s_.2.2]? = some (.cells #[.slice none 0 0, .slice none 0 0, .slice none 0 0, .int .i64 0, .slice none 0 0, .slice none 0 0] 80 (0, 0))) ∧ (w.heap.size ≤ s_.2.2) ∧ (w.heap.size ≤ s_.2.2) ∧ (gb150 ≠ s_.2.2) ∧ (s_.2.2 ≠ gb150) ∧ (gb151 ≠ s_.2.2) ∧ (s_.2.2 ≠ gb151) ∧ (Below w.heap.size w w')) ?_ ?_
         rotate_left
         ·
          intro hJ2_4_6
          refine join_ (σ := Value × Value × Nat) 3 #[true, true, false, true, true, false, true, false] (fun s_ => [(12, s_.1), (13, s_.2.1), (3, .pointer (some ⟨s_.2.2, 0, none⟩))]) (fun s_ w' => (w'.cell? ⟨gb150, 0, none⟩ = some (.int .i64 a0_0) ∧ w'.cell? ⟨gb150, 1, none⟩ = some (.int .i64 a0_1) ∧ w'.cell? ⟨gb150, 2, none⟩ = some (.int .i64 a0_2) ∧ w'.cell? ⟨gb150, 3, none⟩ = some (.int .i64 a0_3)) ∧ (Kd.R (Kd.int .i64) 3 w' w.heap.size (fun _ => True) s_.1 y156) ∧ (Kd.R k_Answer 144 w' w.heap.size (fun _ => True) s_.2.1 y159) ∧ (w'.heap[gb150]? = some (.cells #[.int .i64 a0_0, .int .i64 a0_1, .int .i64 a0_2, .int .i64 a0_3] 82 (0, 0))) ∧ (w'.heap[gb151]? = some (.cells #[.slice none 0 0, .slice none 0 0, .slice none 0 0, .int .i64 0, .slice none 0 0, .slice none 0 0] 80 (0, 0))) ∧ (w'.heap[s_.2.2]? = some (.cells #[.slice none 0 0, .slice none 0 0, .slice none 0 0, .int .i64 0, .slice none 0 0, .slice none 0 0] 80 (0, 0))) ∧ (w.heap.size ≤ s_.2.2) ∧ (w.heap.size ≤ s_.2.2) ∧ (gb150 ≠ s_.2.2) ∧ (s_.2.2 ≠ gb150) ∧ (gb151 ≠ s_.2.2) ∧ (s_.2.2 ≠ gb151) ∧ (Below w.heap.size w w')) ?_ ?_
          rotate_left
          ·
           intro hJ3_4_6
           refine join_ (σ := Value × Value) 4 #[true, true, true, true, false, false, false, false] (fun s_ => [(11, s_.1), (12, s_.2)]) (fun s_ w' => (w'.cell? ⟨gb150, 0, none⟩ = some (.int .i64 a0_0) ∧ w'.cell? ⟨gb150, 1, none⟩ = some (.int .i64 a0_1) ∧ w'.cell? ⟨gb150, 2, none⟩ = some (.int .i64 a0_2) ∧ w'.cell? ⟨gb150, 3, none⟩ = some (.int .i64 a0_3)) ∧ (Kd.S k_Row 26 w' w.heap.size (fun _ => True) s_.1 y153) ∧ (Kd.R (Kd.int .i64) 3 w' w.heap.size (fun _ => True) s_.2 y156) ∧ (w'.heap[gb150]? = some (.cells #[.int .i64 a0_0, .int .i64 a0_1, .int .i64 a0_2, .int .i64 a0_3] 82 (0, 0))) ∧ (w'.heap[gb151]? = some (.cells #[.slice none 0 0, .slice none 0 0, .slice none 0 0, .int .i64 0, .slice none 0 0, .slice none 0 0] 80 (0, 0))) ∧ (Below w.heap.size w w')) ?_ ?_
           rotate_left
           ·
            intro hJ2_3
            refine join_ (σ := Value × Value) 4 #[true, true, true, false, true, false, false, false] (fun s_ => [(11, s_.1), (13, s_.2)]) (fun s_ w' => (w'.cell? ⟨gb150, 0, none⟩ = some (.int .i64 a0_0) ∧ w'.cell? ⟨gb150, 1, none⟩ = some (.int .i64 a0_1) ∧ w'.cell? ⟨gb150, 2, none⟩ = some (.int .i64 a0_2) ∧ w'.cell? ⟨gb150, 3, none⟩ = some (.int .i64 a0_3)) ∧ (Kd.S k_Row 26 w' w.heap.size (fun _ => True) s_.1 y153) ∧ (Kd.R k_Answer 144 w' w.heap.size (fun _ => True) s_.2 y159) ∧ (w'.heap[gb150]? = some (.cells #[.int .i64 a0_0, .int .i64 a0_1, .int .i64 a0_2, .int .i64 a0_3] 82 (0, 0))) ∧ (w'.heap[gb151]? = some (.cells #[.slice none 0 0, .slice none 0 0, .slice none 0 0, .int .i64 0, .slice none 0 0, .slice none 0 0] 80 (0, 0))) ∧ (Below w.heap.size w w')) ?_ ?_
            rotate_left
            ·
             intro hJ2_4
             refine join_ (σ := Value × Nat) 4 #[true, true, true, false, false, false, true, false] (fun s_ => [(11, s_.1), (3, .pointer (some ⟨s_.2, 0, none⟩))]) (fun s_ w' => (w'.cell? ⟨gb150, 0, none⟩ = some (.int .i64 a0_0) ∧ w'.cell? ⟨gb150, 1, none⟩ = some (.int .i64 a0_1) ∧ w'.cell? ⟨gb150, 2, none⟩ = some (.int .i64 a0_2) ∧ w'.cell? ⟨gb150, 3, none⟩ = some (.int .i64 a0_3)) ∧ (Kd.S k_Row 26 w' w.heap.size (fun _ => True) s_.1 y153) ∧ (w'.heap[gb150]? = some (.cells #[.int .i64 a0_0, .int .i64 a0_1, .int .i64 a0_2, .int .i64 a0_3] 82 (0, 0))) ∧ (w'.heap[gb151]? = some (.cells #[.slice none 0 0, .slice none 0 0, .slice none 0 0, .int .i64 0, .slice none 0 0, .slice none 0 0] 80 (0, 0))) ∧ (w'.heap[s_.2]? = some (.cells #[.slice none 0 0, .slice none 0 0, .slice none 0 0, .int .i64 0, .slice none 0 0, .slice none 0 0] 80 (0, 0))) ∧ (w.heap.size ≤ s_.2) ∧ (w.heap.size ≤ s_.2) ∧ (gb150 ≠ s_.2) ∧ (s_.2 ≠ gb150) ∧ (gb151 ≠ s_.2) ∧ (s_.2 ≠ gb151) ∧ (Below w.heap.size w w')) ?_ ?_
             rotate_left
             ·
              intro hJ2_6
              refine join_ (σ := Value × Value) 4 #[true, true, false, true, true, false, false, false] (fun s_ => [(12, s_.1), (13, s_.2)]) (fun s_ w' => (w'.cell? ⟨gb150, 0, none⟩ = some (.int .i64 a0_0) ∧ w'.cell? ⟨gb150, 1, none⟩ = some (.int .i64 a0_1) ∧ w'.cell? ⟨gb150, 2, none⟩ = some (.int .i64 a0_2) ∧ w'.cell? ⟨gb150, 3, none⟩ = some (.int .i64 a0_3)) ∧ (Kd.R (Kd.int .i64) 3 w' w.heap.size (fun _ => True) s_.1 y156) ∧ (Kd.R k_Answer 144 w' w.heap.size (fun _ => True) s_.2 y159) ∧ (w'.heap[gb150]? = some (.cells #[.int .i64 a0_0, .int .i64 a0_1, .int .i64 a0_2, .int .i64 a0_3] 82 (0, 0))) ∧ (w'.heap[gb151]? = some (.cells #[.slice none 0 0, .slice none 0 0, .slice none 0 0, .int .i64 0, .slice none 0 0, .slice none 0 0] 80 (0, 0))) ∧ (Below w.heap.size w w')) ?_ ?_
              rotate_left
              ·
               intro hJ3_4
               refine join_ (σ := Value × Nat) 4 #[true, true, false, true, false, false, true, false] (fun s_ => [(12, s_.1), (3, .pointer (some ⟨s_.2, 0, none⟩))]) (fun s_ w' => (w'.cell? ⟨gb150, 0, none⟩ = some (.int .i64 a0_0) ∧ w'.cell? ⟨gb150, 1, none⟩ = some (.int .i64 a0_1) ∧ w'.cell? ⟨gb150, 2, none⟩ = some (.int .i64 a0_2) ∧ w'.cell? ⟨gb150, 3, none⟩ = some (.int .i64 a0_3)) ∧ (Kd.R (Kd.int .i64) 3 w' w.heap.size (fun _ => True) s_.1 y156) ∧ (w'.heap[gb150]? = some (.cells #[.int .i64 a0_0, .int .i64 a0_1, .int .i64 a0_2, .int .i64 a0_3] 82 (0, 0))) ∧ (w'.heap[gb151]? = some (.cells #[.slice none 0 0, .slice none 0 0, .slice none 0 0, .int .i64 0, .slice none 0 0, .slice none 0 0] 80 (0, 0))) ∧ (w'.heap[s_.2]? = some (.cells #[.slice none 0 0, .slice none 0 0, .slice none 0 0, .int .i64 0, .slice none 0 0, .slice none 0 0] 80 (0, 0))) ∧ (w.heap.size ≤ s_.2) ∧ (w.heap.size ≤ s_.2) ∧ (gb150 ≠ s_.2) ∧ (s_.2 ≠ gb150) ∧ (gb151 ≠ s_.2) ∧ (s_.2 ≠ gb151) ∧ (Below w.heap.size w w')) ?_ ?_
               rotate_left
               ·
                intro hJ3_6
                refine join_ (σ := Value × Nat) 4 #[true, true, false, false, true, false, true, false] (fun s_ => [(13, s_.1), (3, .pointer (some ⟨s_.2, 0, none⟩))]) (fun s_ w' => (w'.cell? ⟨gb150, 0, none⟩ = some (.int .i64 a0_0) ∧ w'.cell? ⟨gb150, 1, none⟩ = some (.int .i64 a0_1) ∧ w'.cell? ⟨gb150, 2, none⟩ = some (.int .i64 a0_2) ∧ w'.cell? ⟨gb150, 3, none⟩ = some (.int .i64 a0_3)) ∧ (Kd.R k_Answer 144 w' w.heap.size (fun _ => True) s_.1 y159) ∧ (w'.heap[gb150]? = some (.cells #[.int .i64 a0_0, .int .i64 a0_1, .int .i64 a0_2, .int .i64 a0_3] 82 (0, 0))) ∧ (w'.heap[gb151]? = some (.cells #[.slice none 0 0, .slice none 0 0, .slice none 0 0, .int .i64 0, .slice none 0 0, .slice none 0 0] 80 (0, 0))) ∧ (w'.heap[s_.2]? = some (.cells #[.slice none 0 0, .slice none 0 0, .slice none 0 0, .int .i64 0, .slice none 0 0, .slice none 0 0] 80 (0, 0))) ∧ (w.heap.size ≤ s_.2) ∧ (w.heap.size ≤ s_.2) ∧ (gb150 ≠ s_.2) ∧ (s_.2 ≠ gb150) ∧ (gb151 ≠ s_.2) ∧ (s_.2 ≠ gb151) ∧ (Below w.heap.size w w')) ?_ ?_
                rotate_left
                ·
                 intro hJ4_6
                 refine join_ (σ := Value) 5 #[true, true, true, false, false, false, false, false] (fun s_ => [(11, s_)]) (fun s_ w' => (w'.cell? ⟨gb150, 0, none⟩ = some (.int .i64 a0_0) ∧ w'.cell? ⟨gb150, 1, none⟩ = some (.int .i64 a0_1) ∧ w'.cell? ⟨gb150, 2, none⟩ = some (.int .i64 a0_2) ∧ w'.cell? ⟨gb150, 3, none⟩ = some (.int .i64 a0_3)) ∧ (Kd.S k_Row 26 w' w.heap.size (fun _ => True) s_ y153) ∧ (w'.heap[gb150]? = some (.cells #[.int .i64 a0_0, .int .i64 a0_1, .int .i64 a0_2, .int .i64 a0_3] 82 (0, 0))) ∧ (w'.heap[gb151]? = some (.cells #[.slice none 0 0, .slice none 0 0, .slice none 0 0, .int .i64 0, .slice none 0 0, .slice none 0 0] 80 (0, 0))) ∧ (Below w.heap.size w w')) ?_ ?_
                 rotate_left
                 ·
                  intro hJ2
                  refine join_ (σ := Value) 5 #[true, true, false, true, false, false, false, false] (fun s_ => [(12, s_)]) (fun s_ w' => (w'.cell? ⟨gb150, 0, none⟩ = some (.int .i64 a0_0) ∧ w'.cell? ⟨gb150, 1, none⟩ = some (.int .i64 a0_1) ∧ w'.cell? ⟨gb150, 2, none⟩ = some (.int .i64 a0_2) ∧ w'.cell? ⟨gb150, 3, none⟩ = some (.int .i64 a0_3)) ∧ (Kd.R (Kd.int .i64) 3 w' w.heap.size (fun _ => True) s_ y156) ∧ (w'.heap[gb150]? = some (.cells #[.int .i64 a0_0, .int .i64 a0_1, .int .i64 a0_2, .int .i64 a0_3] 82 (0, 0))) ∧ (w'.heap[gb151]? = some (.cells #[.slice none 0 0, .slice none 0 0, .slice none 0 0, .int .i64 0, .slice none 0 0, .slice none 0 0] 80 (0, 0))) ∧ (Below w.heap.size w w')) ?_ ?_
                  rotate_left
                  ·
                   intro hJ3
                   refine join_ (σ := Value) 5 #[true, true, false, false, true, false, false, false] (fun s_ => [(13, s_)]) (fun s_ w' => (w'.cell? ⟨gb150, 0, none⟩ = some (.int .i64 a0_0) ∧ w'.cell? ⟨gb150, 1, none⟩ = some (.int .i64 a0_1) ∧ w'.cell? ⟨gb150, 2, none⟩ = some (.int .i64 a0_2) ∧ w'.cell? ⟨gb150, 3, none⟩ = some (.int .i64 a0_3)) ∧ (Kd.R k_Answer 144 w' w.heap.size (fun _ => True) s_ y159) ∧ (w'.heap[gb150]? = some (.cells #[.int .i64 a0_0, .int .i64 a0_1, .int .i64 a0_2, .int .i64 a0_3] 82 (0, 0))) ∧ (w'.heap[gb151]? = some (.cells #[.slice none 0 0, .slice none 0 0, .slice none 0 0, .int .i64 0, .slice none 0 0, .slice none 0 0] 80 (0, 0))) ∧ (Below w.heap.size w w')) ?_ ?_
                   rotate_left
                   ·
                    intro hJ4
                    refine join_ (σ := Nat) 5 #[true, true, false, false, false, false, true, false] (fun s_ => [(3, .pointer (some ⟨s_, 0, none⟩))]) (fun s_ w' => (w'.cell? ⟨gb150, 0, none⟩ = some (.int .i64 a0_0) ∧ w'.cell? ⟨gb150, 1, none⟩ = some (.int .i64 a0_1) ∧ w'.cell? ⟨gb150, 2, none⟩ = some (.int .i64 a0_2) ∧ w'.cell? ⟨gb150, 3, none⟩ = some (.int .i64 a0_3)) ∧ (w'.heap[gb150]? = some (.cells #[.int .i64 a0_0, .int .i64 a0_1, .int .i64 a0_2, .int .i64 a0_3] 82 (0, 0))) ∧ (w'.heap[gb151]? = some (.cells #[.slice none 0 0, .slice none 0 0, .slice none 0 0, .int .i64 0, .slice none 0 0, .slice none 0 0] 80 (0, 0))) ∧ (w'.heap[s_]? = some (.cells #[.slice none 0 0, .slice none 0 0, .slice none 0 0, .int .i64 0, .slice none 0 0, .slice none 0 0] 80 (0, 0))) ∧ (w.heap.size ≤ s_) ∧ (w.heap.size ≤ s_) ∧ (gb150 ≠ s_) ∧ (s_ ≠ gb150) ∧ (gb151 ≠ s_) ∧ (s_ ≠ gb151) ∧ (Below w.heap.size w w')) ?_ ?_
                    rotate_left
                    ·
                     intro hJ6
                     refine four_ (i := 2) (j := 3) (k := 4) (m := 6) (Ni := some 11) (Nj := some 12) (Nk := some 13) (Nm := some 3) #[true, true, true, false, false, false, false, false] #[true, true, false, true, false, false, false, false] #[true, true, false, false, true, false, false, false] #[true, true, false, false, false, false, true, false] rfl rfl rfl rfl rfl rfl rfl rfl (four_of HT_.out (by kernel_rfl)) (by decide) (by decide) (by decide) (by decide) (fun K hK => ?_) (fun K hK => ?_) (fun K hK => ?_) (fun K hK => ?_)
                     ·
                      skip
                      refine Kd.S_make_step k_Row _ 26 (by rfl) (N := 11) rfl 75 _ _ rfl a0_0 rfl rfl Try.underlying75 (.agg #[(.int .i64 0), (.int .i64 0), (.slice none 0 0)]) 40 info26 rfl (by decide) (by omega) z_Row (ok := fun _ => True) (okp := fun _ => True) (k_Row_mkM _ _ _ z_Row (Kd.R_nil _ _ _ _ _)) (fun _ hk => hk) trivial (of_decide_eq_true dt_) (Nat.le_trans (Nat.mul_le_mul_right _ (of_decide_eq_true dt_ : a0_0.toNat ≤ 7036874417766)) (by omega)) (Below.refl _ _) (Nat.le_refl _) ?_
                      intro v154 w14 ho15 hb hg_ hnew_
                      clear hg_ hnew_
                      (first | rw [← Ny153.out] at ho15 | (simp only [Int.reduceToNat] at ho15; rw [← Ny153.out] at ho15))
                      have HO155 := Aside0.mk (Kd.S_lower ho15 (below_size (hb_ HB.out)))
                      replace BK150 := cb_ BK150 hb
                      replace BK151 := cb_ BK151 hb
                      replace HB := ch_ HB hb
                      clear hb ho15
                      refine hK.out _ _ ⟨bc_ BK150 0, bc_ BK150 1, bc_ BK150 2, bc_ BK150 3⟩ (fun hHeld => ?_)
                      clear hK K
                      refine nm_ ?_
                      exact norm_ (qb0_) (hJ2 (v154) _ ⟨hHeld, (qb2_), (bq_ BK150.out), (bq_ BK151.out), (hb_ HB.out)⟩)
                     ·
                      skip
                      refine Kd.R_make_step (Kd.int .i64) _ 3 (by rfl) (N := 12) rfl 77 _ _ rfl 4 rfl rfl Try.underlying77 (.int .i64 0) 8 info3 rfl (by decide) (by omega) 0 (ok := fun _ => True) (okp := fun _ => True) rfl (fun _ hk => hk) trivial (by omega) (by omega) (Below.refl _ _) (Nat.le_refl _) ?_
                      intro v157 w14 ho15 hb hg_ hnew_
                      clear hg_ hnew_
                      (first | rw [← Ny156.out] at ho15 | (simp only [Int.reduceToNat] at ho15; rw [← Ny156.out] at ho15))
                      have HO158 := Aside0.mk (Kd.R_lower ho15 (below_size (hb_ HB.out)))
                      replace BK150 := cb_ BK150 hb
                      replace BK151 := cb_ BK151 hb
                      replace HB := ch_ HB hb
                      clear hb ho15
                      refine hK.out _ _ ⟨bc_ BK150 0, bc_ BK150 1, bc_ BK150 2, bc_ BK150 3⟩ (fun hHeld => ?_)
                      clear hK K
                      refine nm_ ?_
                      exact norm_ (qb0_) (hJ3 (v157) _ ⟨hHeld, (rq_ HO158.out), (bq_ BK150.out), (bq_ BK151.out), (hb_ HB.out)⟩)
                     ·
                      skip
                      refine Kd.R_make_step k_Answer _ 144 (by rfl) (N := 13) rfl 78 _ _ rfl 4 rfl rfl Try.underlying78 (.agg #[(.int .i64 0), (.int .i64 0), (.string ⟨#[]⟩), (.string ⟨#[]⟩)]) 48 info144 rfl (by decide) (by omega) z_Answer (ok := fun _ => True) (okp := fun _ => True) (k_Answer_mkM _ _ _ z_Answer ) (fun _ hk => hk) trivial (by omega) (by omega) (Below.refl _ _) (Nat.le_refl _) ?_
                      intro v160 w14 ho15 hb hg_ hnew_
                      clear hg_ hnew_
                      (first | rw [← Ny159.out] at ho15 | (simp only [Int.reduceToNat] at ho15; rw [← Ny159.out] at ho15))
                      have HO161 := Aside0.mk (Kd.R_lower ho15 (below_size (hb_ HB.out)))
                      replace BK150 := cb_ BK150 hb
                      replace BK151 := cb_ BK151 hb
                      replace HB := ch_ HB hb
                      clear hb ho15
                      refine hK.out _ _ ⟨bc_ BK150 0, bc_ BK150 1, bc_ BK150 2, bc_ BK150 3⟩ (fun hHeld => ?_)
                      clear hK K
                      refine nm_ ?_
                      exact norm_ (qb0_) (hJ4 (v160) _ ⟨hHeld, (rq_ HO161.out), (bq_ BK150.out), (bq_ BK151.out), (hb_ HB.out)⟩)
                     ·
                      skip
                      refine box_step ?hg (N := 3) ?hd (cs := #[.slice none 0 0, .slice none 0 0, .slice none 0 0, .int .i64 0, .slice none 0 0, .slice none 0 0]) (t := 80) ?hr ?_; (case hd => rfl); (case hg => rfl); (case hr => first | (go_simp; done) | (go_simp; rfl))
                      intro gb162 hg w14 hbox hb
                      have BK162 := Aside0.mk (hbox)
                      have GW162 := cz_ HB hg
                      have GE162 := cz_ HB hg
                      have NB150_162 := cn_ BK150 hg
                      have NB162_150 := cm_ BK150 hg
                      have NB151_162 := cn_ BK151 hg
                      have NB162_151 := cm_ BK151 hg
                      replace BK150 := cb_ BK150 hb
                      replace BK151 := cb_ BK151 hb
                      replace HB := ch_ HB hb
                      clear hb hbox hg
                      refine hK.out _ _ ⟨bc_ BK150 0, bc_ BK150 1, bc_ BK150 2, bc_ BK150 3⟩ (fun hHeld => ?_)
                      clear hK K
                      refine nm_ ?_
                      exact norm_ (qb0_) (hJ6 (gb162) _ ⟨hHeld, (bq_ BK150.out), (bq_ BK151.out), (bq_ BK162.out), GW162.out, GE162.out, NB150_162.out, NB162_150.out, NB151_162.out, NB162_151.out, (hb_ HB.out)⟩)
                    ·
                     skip
                     rintro gb162 w15 ⟨hS_, h0_, h1_, h2_, h3_, h4_, h5_, h6_, h7_, h8_, h9_⟩
                     have n0_ : Aside0 (w15.heap[gb150]? = some (.cells #[.int .i64 a0_0, .int .i64 a0_1, .int .i64 a0_2, .int .i64 a0_3] 82 (0, 0))) := ⟨h0_⟩
                     have n1_ : Aside0 (w15.heap[gb151]? = some (.cells #[.slice none 0 0, .slice none 0 0, .slice none 0 0, .int .i64 0, .slice none 0 0, .slice none 0 0] 80 (0, 0))) := ⟨h1_⟩
                     have n2_ : Aside0 (w15.heap[gb162]? = some (.cells #[.slice none 0 0, .slice none 0 0, .slice none 0 0, .int .i64 0, .slice none 0 0, .slice none 0 0] 80 (0, 0))) := ⟨h2_⟩
                     have n3_ : Aside0 (w.heap.size ≤ gb162) := ⟨h3_⟩
                     have n4_ : Aside0 (w.heap.size ≤ gb162) := ⟨h4_⟩
                     have n5_ : Aside0 (gb150 ≠ gb162) := ⟨h5_⟩
                     have n6_ : Aside0 (gb162 ≠ gb150) := ⟨h6_⟩
                     have n7_ : Aside0 (gb151 ≠ gb162) := ⟨h7_⟩
                     have n8_ : Aside0 (gb162 ≠ gb151) := ⟨h8_⟩
                     have n9_ : Aside0 (Below w.heap.size w w15) := ⟨h9_⟩
                     clear BK150
                     clear BK151
                     clear HB
                     clear h0_ h1_ h2_ h3_ h4_ h5_ h6_ h7_ h8_ h9_
                     have BK150 := n0_
                     have BK151 := n1_
                     have BK162 := n2_
                     have GW162 := n3_
                     have GE162 := n4_
                     have NB150_162 := n5_
                     have NB162_150 := n6_
                     have NB151_162 := n7_
                     have NB162_151 := n8_
                     have HB := n9_
                     clear n0_ n1_ n2_ n3_ n4_ n5_ n6_ n7_ n8_ n9_
                     have hHeld : w15.cell? ⟨gb150, 0, none⟩ = some (.int .i64 a0_0) ∧ w15.cell? ⟨gb150, 1, none⟩ = some (.int .i64 a0_1) ∧ w15.cell? ⟨gb150, 2, none⟩ = some (.int .i64 a0_2) ∧ w15.cell? ⟨gb150, 3, none⟩ = some (.int .i64 a0_3) := hS_
                     refine norm_ (a' := ?_) ?_ ?_
                     rotate_left; (focus simp only [putAll, Act.put, List.setIfInBounds_toArray, List.set_cons_zero, List.set_cons_succ]; rfl)
                     refine three_ (i := 2) (j := 3) (k := 4) (Ni := some 11) (Nj := some 12) (Nk := some 13) #[true, true, true, false, false, false, true, false] #[true, true, false, true, false, false, true, false] #[true, true, false, false, true, false, true, false] rfl rfl rfl rfl rfl rfl (three_of HT_.out (by kernel_rfl)) (by decide) (by decide) (by decide) (fun K hK => ?_) (fun K hK => ?_) (fun K hK => ?_)
                     ·
                      skip
                      refine Kd.S_make_step k_Row _ 26 (by rfl) (N := 11) rfl 75 _ _ rfl a0_0 rfl rfl Try.underlying75 (.agg #[(.int .i64 0), (.int .i64 0), (.slice none 0 0)]) 40 info26 rfl (by decide) (by omega) z_Row (ok := fun _ => True) (okp := fun _ => True) (k_Row_mkM _ _ _ z_Row (Kd.R_nil _ _ _ _ _)) (fun _ hk => hk) trivial (of_decide_eq_true dt_) (Nat.le_trans (Nat.mul_le_mul_right _ (of_decide_eq_true dt_ : a0_0.toNat ≤ 7036874417766)) (by omega)) (Below.refl _ _) (Nat.le_refl _) ?_
                      intro v154 w16 ho17 hb hg_ hnew_
                      clear hg_ hnew_
                      (first | rw [← Ny153.out] at ho17 | (simp only [Int.reduceToNat] at ho17; rw [← Ny153.out] at ho17))
                      have HO155 := Aside0.mk (Kd.S_lower ho17 (below_size (hb_ HB.out)))
                      replace BK150 := cb_ BK150 hb
                      replace BK151 := cb_ BK151 hb
                      replace BK162 := cb_ BK162 hb
                      replace HB := ch_ HB hb
                      clear hb ho17
                      refine hK.out _ _ ⟨bc_ BK150 0, bc_ BK150 1, bc_ BK150 2, bc_ BK150 3⟩ (fun hHeld => ?_)
                      clear hK K
                      refine nm_ ?_
                      exact norm_ (qb0_) (hJ2_6 (v154, gb162) _ ⟨hHeld, (qb2_), (bq_ BK150.out), (bq_ BK151.out), (bq_ BK162.out), GW162.out, GE162.out, NB150_162.out, NB162_150.out, NB151_162.out, NB162_151.out, (hb_ HB.out)⟩)
                     ·
                      skip
                      refine Kd.R_make_step (Kd.int .i64) _ 3 (by rfl) (N := 12) rfl 77 _ _ rfl 4 rfl rfl Try.underlying77 (.int .i64 0) 8 info3 rfl (by decide) (by omega) 0 (ok := fun _ => True) (okp := fun _ => True) rfl (fun _ hk => hk) trivial (by omega) (by omega) (Below.refl _ _) (Nat.le_refl _) ?_
                      intro v157 w16 ho17 hb hg_ hnew_
                      clear hg_ hnew_
                      (first | rw [← Ny156.out] at ho17 | (simp only [Int.reduceToNat] at ho17; rw [← Ny156.out] at ho17))
                      have HO158 := Aside0.mk (Kd.R_lower ho17 (below_size (hb_ HB.out)))
                      replace BK150 := cb_ BK150 hb
                      replace BK151 := cb_ BK151 hb
                      replace BK162 := cb_ BK162 hb
                      replace HB := ch_ HB hb
                      clear hb ho17
                      refine hK.out _ _ ⟨bc_ BK150 0, bc_ BK150 1, bc_ BK150 2, bc_ BK150 3⟩ (fun hHeld => ?_)
                      clear hK K
                      refine nm_ ?_
                      exact norm_ (qb0_) (hJ3_6 (v157, gb162) _ ⟨hHeld, (rq_ HO158.out), (bq_ BK150.out), (bq_ BK151.out), (bq_ BK162.out), GW162.out, GE162.out, NB150_162.out, NB162_150.out, NB151_162.out, NB162_151.out, (hb_ HB.out)⟩)
                     ·
                      skip
                      refine Kd.R_make_step k_Answer _ 144 (by rfl) (N := 13) rfl 78 _ _ rfl 4 rfl rfl Try.underlying78 (.agg #[(.int .i64 0), (.int .i64 0), (.string ⟨#[]⟩), (.string ⟨#[]⟩)]) 48 info144 rfl (by decide) (by omega) z_Answer (ok := fun _ => True) (okp := fun _ => True) (k_Answer_mkM _ _ _ z_Answer ) (fun _ hk => hk) trivial (by omega) (by omega) (Below.refl _ _) (Nat.le_refl _) ?_
                      intro v160 w16 ho17 hb hg_ hnew_
                      clear hg_ hnew_
                      (first | rw [← Ny159.out] at ho17 | (simp only [Int.reduceToNat] at ho17; rw [← Ny159.out] at ho17))
                      have HO161 := Aside0.mk (Kd.R_lower ho17 (below_size (hb_ HB.out)))
                      replace BK150 := cb_ BK150 hb
                      replace BK151 := cb_ BK151 hb
                      replace BK162 := cb_ BK162 hb
                      replace HB := ch_ HB hb
                      clear hb ho17
                      refine hK.out _ _ ⟨bc_ BK150 0, bc_ BK150 1, bc_ BK150 2, bc_ BK150 3⟩ (fun hHeld => ?_)
                      clear hK K
                      refine nm_ ?_
                      exact norm_ (qb0_) (hJ4_6 (v160, gb162) _ ⟨hHeld, (rq_ HO161.out), (bq_ BK150.out), (bq_ BK151.out), (bq_ BK162.out), GW162.out, GE162.out, NB150_162.out, NB162_150.out, NB151_162.out, NB162_151.out, (hb_ HB.out)⟩)
                   ·
                    skip
                    rintro v160 w16 ⟨hS_, h0_, h1_, h2_, h3_⟩
                    have n0_ : Aside0 (Kd.R k_Answer 144 w16 w.heap.size (fun _ => True) v160 y159) := ⟨h0_⟩
                    have n1_ : Aside0 (w16.heap[gb150]? = some (.cells #[.int .i64 a0_0, .int .i64 a0_1, .int .i64 a0_2, .int .i64 a0_3] 82 (0, 0))) := ⟨h1_⟩
                    have n2_ : Aside0 (w16.heap[gb151]? = some (.cells #[.slice none 0 0, .slice none 0 0, .slice none 0 0, .int .i64 0, .slice none 0 0, .slice none 0 0] 80 (0, 0))) := ⟨h2_⟩
                    have n3_ : Aside0 (Below w.heap.size w w16) := ⟨h3_⟩
                    clear BK150
                    clear BK151
                    clear HB
                    clear h0_ h1_ h2_ h3_
                    have HO161 := n0_
                    have BK150 := n1_
                    have BK151 := n2_
                    have HB := n3_
                    clear n0_ n1_ n2_ n3_
                    have hHeld : w16.cell? ⟨gb150, 0, none⟩ = some (.int .i64 a0_0) ∧ w16.cell? ⟨gb150, 1, none⟩ = some (.int .i64 a0_1) ∧ w16.cell? ⟨gb150, 2, none⟩ = some (.int .i64 a0_2) ∧ w16.cell? ⟨gb150, 3, none⟩ = some (.int .i64 a0_3) := hS_
                    refine norm_ (a' := ?_) ?_ ?_
                    rotate_left; (focus simp only [putAll, Act.put, List.setIfInBounds_toArray, List.set_cons_zero, List.set_cons_succ]; rfl)
                    refine three_ (i := 2) (j := 3) (k := 6) (Ni := some 11) (Nj := some 12) (Nk := some 3) #[true, true, true, false, true, false, false, false] #[true, true, false, true, true, false, false, false] #[true, true, false, false, true, false, true, false] rfl rfl rfl rfl rfl rfl (three_of HT_.out (by kernel_rfl)) (by decide) (by decide) (by decide) (fun K hK => ?_) (fun K hK => ?_) (fun K hK => ?_)
                    ·
                     skip
                     refine Kd.S_make_step k_Row _ 26 (by rfl) (N := 11) rfl 75 _ _ rfl a0_0 rfl rfl Try.underlying75 (.agg #[(.int .i64 0), (.int .i64 0), (.slice none 0 0)]) 40 info26 rfl (by decide) (by omega) z_Row (ok := fun _ => True) (okp := fun _ => True) (k_Row_mkM _ _ _ z_Row (Kd.R_nil _ _ _ _ _)) (fun _ hk => hk) trivial (of_decide_eq_true dt_) (Nat.le_trans (Nat.mul_le_mul_right _ (of_decide_eq_true dt_ : a0_0.toNat ≤ 7036874417766)) (by omega)) (Below.refl _ _) (Nat.le_refl _) ?_
                     intro v154 w17 ho18 hb hg_ hnew_
                     clear hg_ hnew_
                     (first | rw [← Ny153.out] at ho18 | (simp only [Int.reduceToNat] at ho18; rw [← Ny153.out] at ho18))
                     have HO155 := Aside0.mk (Kd.S_lower ho18 (below_size (hb_ HB.out)))
                     replace HO161 := cr_ HO161 hb
                     replace BK150 := cb_ BK150 hb
                     replace BK151 := cb_ BK151 hb
                     replace HB := ch_ HB hb
                     clear hb ho18
                     refine hK.out _ _ ⟨bc_ BK150 0, bc_ BK150 1, bc_ BK150 2, bc_ BK150 3⟩ (fun hHeld => ?_)
                     clear hK K
                     refine nm_ ?_
                     exact norm_ (qb0_) (hJ2_4 (v154, v160) _ ⟨hHeld, (qb2_), (rq_ HO161.out), (bq_ BK150.out), (bq_ BK151.out), (hb_ HB.out)⟩)
                    ·
                     skip
                     refine Kd.R_make_step (Kd.int .i64) _ 3 (by rfl) (N := 12) rfl 77 _ _ rfl 4 rfl rfl Try.underlying77 (.int .i64 0) 8 info3 rfl (by decide) (by omega) 0 (ok := fun _ => True) (okp := fun _ => True) rfl (fun _ hk => hk) trivial (by omega) (by omega) (Below.refl _ _) (Nat.le_refl _) ?_
                     intro v157 w17 ho18 hb hg_ hnew_
                     clear hg_ hnew_
                     (first | rw [← Ny156.out] at ho18 | (simp only [Int.reduceToNat] at ho18; rw [← Ny156.out] at ho18))
                     have HO158 := Aside0.mk (Kd.R_lower ho18 (below_size (hb_ HB.out)))
                     replace HO161 := cr_ HO161 hb
                     replace BK150 := cb_ BK150 hb
                     replace BK151 := cb_ BK151 hb
                     replace HB := ch_ HB hb
                     clear hb ho18
                     refine hK.out _ _ ⟨bc_ BK150 0, bc_ BK150 1, bc_ BK150 2, bc_ BK150 3⟩ (fun hHeld => ?_)
                     clear hK K
                     refine nm_ ?_
                     exact norm_ (qb0_) (hJ3_4 (v157, v160) _ ⟨hHeld, (rq_ HO158.out), (rq_ HO161.out), (bq_ BK150.out), (bq_ BK151.out), (hb_ HB.out)⟩)
                    ·
                     skip
                     refine box_step ?hg (N := 3) ?hd (cs := #[.slice none 0 0, .slice none 0 0, .slice none 0 0, .int .i64 0, .slice none 0 0, .slice none 0 0]) (t := 80) ?hr ?_; (case hd => rfl); (case hg => rfl); (case hr => first | (go_simp; done) | (go_simp; rfl))
                     intro gb162 hg w17 hbox hb
                     have BK162 := Aside0.mk (hbox)
                     have GW162 := cz_ HB hg
                     have GE162 := cz_ HB hg
                     have NB150_162 := cn_ BK150 hg
                     have NB162_150 := cm_ BK150 hg
                     have NB151_162 := cn_ BK151 hg
                     have NB162_151 := cm_ BK151 hg
                     replace HO161 := cr_ HO161 hb
                     replace BK150 := cb_ BK150 hb
                     replace BK151 := cb_ BK151 hb
                     replace HB := ch_ HB hb
                     clear hb hbox hg
                     refine hK.out _ _ ⟨bc_ BK150 0, bc_ BK150 1, bc_ BK150 2, bc_ BK150 3⟩ (fun hHeld => ?_)
                     clear hK K
                     refine nm_ ?_
                     exact norm_ (qb0_) (hJ4_6 (v160, gb162) _ ⟨hHeld, (rq_ HO161.out), (bq_ BK150.out), (bq_ BK151.out), (bq_ BK162.out), GW162.out, GE162.out, NB150_162.out, NB162_150.out, NB151_162.out, NB162_151.out, (hb_ HB.out)⟩)
                  ·
                   skip
                   rintro v157 w16 ⟨hS_, h0_, h1_, h2_, h3_⟩
                   have n0_ : Aside0 (Kd.R (Kd.int .i64) 3 w16 w.heap.size (fun _ => True) v157 y156) := ⟨h0_⟩
                   have n1_ : Aside0 (w16.heap[gb150]? = some (.cells #[.int .i64 a0_0, .int .i64 a0_1, .int .i64 a0_2, .int .i64 a0_3] 82 (0, 0))) := ⟨h1_⟩
                   have n2_ : Aside0 (w16.heap[gb151]? = some (.cells #[.slice none 0 0, .slice none 0 0, .slice none 0 0, .int .i64 0, .slice none 0 0, .slice none 0 0] 80 (0, 0))) := ⟨h2_⟩
                   have n3_ : Aside0 (Below w.heap.size w w16) := ⟨h3_⟩
                   clear BK150
                   clear BK151
                   clear HB
                   clear h0_ h1_ h2_ h3_
                   have HO158 := n0_
                   have BK150 := n1_
                   have BK151 := n2_
                   have HB := n3_
                   clear n0_ n1_ n2_ n3_
                   have hHeld : w16.cell? ⟨gb150, 0, none⟩ = some (.int .i64 a0_0) ∧ w16.cell? ⟨gb150, 1, none⟩ = some (.int .i64 a0_1) ∧ w16.cell? ⟨gb150, 2, none⟩ = some (.int .i64 a0_2) ∧ w16.cell? ⟨gb150, 3, none⟩ = some (.int .i64 a0_3) := hS_
                   refine norm_ (a' := ?_) ?_ ?_
                   rotate_left; (focus simp only [putAll, Act.put, List.setIfInBounds_toArray, List.set_cons_zero, List.set_cons_succ]; rfl)
                   refine three_ (i := 2) (j := 4) (k := 6) (Ni := some 11) (Nj := some 13) (Nk := some 3) #[true, true, true, true, false, false, false, false] #[true, true, false, true, true, false, false, false] #[true, true, false, true, false, false, true, false] rfl rfl rfl rfl rfl rfl (three_of HT_.out (by kernel_rfl)) (by decide) (by decide) (by decide) (fun K hK => ?_) (fun K hK => ?_) (fun K hK => ?_)
                   ·
                    skip
                    refine Kd.S_make_step k_Row _ 26 (by rfl) (N := 11) rfl 75 _ _ rfl a0_0 rfl rfl Try.underlying75 (.agg #[(.int .i64 0), (.int .i64 0), (.slice none 0 0)]) 40 info26 rfl (by decide) (by omega) z_Row (ok := fun _ => True) (okp := fun _ => True) (k_Row_mkM _ _ _ z_Row (Kd.R_nil _ _ _ _ _)) (fun _ hk => hk) trivial (of_decide_eq_true dt_) (Nat.le_trans (Nat.mul_le_mul_right _ (of_decide_eq_true dt_ : a0_0.toNat ≤ 7036874417766)) (by omega)) (Below.refl _ _) (Nat.le_refl _) ?_
                    intro v154 w17 ho18 hb hg_ hnew_
                    clear hg_ hnew_
                    (first | rw [← Ny153.out] at ho18 | (simp only [Int.reduceToNat] at ho18; rw [← Ny153.out] at ho18))
                    have HO155 := Aside0.mk (Kd.S_lower ho18 (below_size (hb_ HB.out)))
                    replace HO158 := cr_ HO158 hb
                    replace BK150 := cb_ BK150 hb
                    replace BK151 := cb_ BK151 hb
                    replace HB := ch_ HB hb
                    clear hb ho18
                    refine hK.out _ _ ⟨bc_ BK150 0, bc_ BK150 1, bc_ BK150 2, bc_ BK150 3⟩ (fun hHeld => ?_)
                    clear hK K
                    refine nm_ ?_
                    exact norm_ (qb0_) (hJ2_3 (v154, v157) _ ⟨hHeld, (qb2_), (rq_ HO158.out), (bq_ BK150.out), (bq_ BK151.out), (hb_ HB.out)⟩)
                   ·
                    skip
                    refine Kd.R_make_step k_Answer _ 144 (by rfl) (N := 13) rfl 78 _ _ rfl 4 rfl rfl Try.underlying78 (.agg #[(.int .i64 0), (.int .i64 0), (.string ⟨#[]⟩), (.string ⟨#[]⟩)]) 48 info144 rfl (by decide) (by omega) z_Answer (ok := fun _ => True) (okp := fun _ => True) (k_Answer_mkM _ _ _ z_Answer ) (fun _ hk => hk) trivial (by omega) (by omega) (Below.refl _ _) (Nat.le_refl _) ?_
                    intro v160 w17 ho18 hb hg_ hnew_
                    clear hg_ hnew_
                    (first | rw [← Ny159.out] at ho18 | (simp only [Int.reduceToNat] at ho18; rw [← Ny159.out] at ho18))
                    have HO161 := Aside0.mk (Kd.R_lower ho18 (below_size (hb_ HB.out)))
                    replace HO158 := cr_ HO158 hb
                    replace BK150 := cb_ BK150 hb
                    replace BK151 := cb_ BK151 hb
                    replace HB := ch_ HB hb
                    clear hb ho18
                    refine hK.out _ _ ⟨bc_ BK150 0, bc_ BK150 1, bc_ BK150 2, bc_ BK150 3⟩ (fun hHeld => ?_)
                    clear hK K
                    refine nm_ ?_
                    exact norm_ (qb0_) (hJ3_4 (v157, v160) _ ⟨hHeld, (rq_ HO158.out), (rq_ HO161.out), (bq_ BK150.out), (bq_ BK151.out), (hb_ HB.out)⟩)
                   ·
                    skip
                    refine box_step ?hg (N := 3) ?hd (cs := #[.slice none 0 0, .slice none 0 0, .slice none 0 0, .int .i64 0, .slice none 0 0, .slice none 0 0]) (t := 80) ?hr ?_; (case hd => rfl); (case hg => rfl); (case hr => first | (go_simp; done) | (go_simp; rfl))
                    intro gb162 hg w17 hbox hb
                    have BK162 := Aside0.mk (hbox)
                    have GW162 := cz_ HB hg
                    have GE162 := cz_ HB hg
                    have NB150_162 := cn_ BK150 hg
                    have NB162_150 := cm_ BK150 hg
                    have NB151_162 := cn_ BK151 hg
                    have NB162_151 := cm_ BK151 hg
                    replace HO158 := cr_ HO158 hb
                    replace BK150 := cb_ BK150 hb
                    replace BK151 := cb_ BK151 hb
                    replace HB := ch_ HB hb
                    clear hb hbox hg
                    refine hK.out _ _ ⟨bc_ BK150 0, bc_ BK150 1, bc_ BK150 2, bc_ BK150 3⟩ (fun hHeld => ?_)
                    clear hK K
                    refine nm_ ?_
                    exact norm_ (qb0_) (hJ3_6 (v157, gb162) _ ⟨hHeld, (rq_ HO158.out), (bq_ BK150.out), (bq_ BK151.out), (bq_ BK162.out), GW162.out, GE162.out, NB150_162.out, NB162_150.out, NB151_162.out, NB162_151.out, (hb_ HB.out)⟩)
                 ·
                  skip
                  rintro v154 w16 ⟨hS_, h0_, h1_, h2_, h3_⟩
                  have n0_ : Aside0 (Kd.S k_Row 26 w16 w.heap.size (fun _ => True) v154 y153) := ⟨h0_⟩
                  have n1_ : Aside0 (w16.heap[gb150]? = some (.cells #[.int .i64 a0_0, .int .i64 a0_1, .int .i64 a0_2, .int .i64 a0_3] 82 (0, 0))) := ⟨h1_⟩
                  have n2_ : Aside0 (w16.heap[gb151]? = some (.cells #[.slice none 0 0, .slice none 0 0, .slice none 0 0, .int .i64 0, .slice none 0 0, .slice none 0 0] 80 (0, 0))) := ⟨h2_⟩
                  have n3_ : Aside0 (Below w.heap.size w w16) := ⟨h3_⟩
                  clear BK150
                  clear BK151
                  clear HB
                  clear h0_ h1_ h2_ h3_
                  have HO155 := n0_
                  have BK150 := n1_
                  have BK151 := n2_
                  have HB := n3_
                  clear n0_ n1_ n2_ n3_
                  have hHeld : w16.cell? ⟨gb150, 0, none⟩ = some (.int .i64 a0_0) ∧ w16.cell? ⟨gb150, 1, none⟩ = some (.int .i64 a0_1) ∧ w16.cell? ⟨gb150, 2, none⟩ = some (.int .i64 a0_2) ∧ w16.cell? ⟨gb150, 3, none⟩ = some (.int .i64 a0_3) := hS_
                  refine norm_ (a' := ?_) ?_ ?_
                  rotate_left; (focus simp only [putAll, Act.put, List.setIfInBounds_toArray, List.set_cons_zero, List.set_cons_succ]; rfl)
                  refine three_ (i := 3) (j := 4) (k := 6) (Ni := some 12) (Nj := some 13) (Nk := some 3) #[true, true, true, true, false, false, false, false] #[true, true, true, false, true, false, false, false] #[true, true, true, false, false, false, true, false] rfl rfl rfl rfl rfl rfl (three_of HT_.out (by kernel_rfl)) (by decide) (by decide) (by decide) (fun K hK => ?_) (fun K hK => ?_) (fun K hK => ?_)
                  ·
                   skip
                   refine Kd.R_make_step (Kd.int .i64) _ 3 (by rfl) (N := 12) rfl 77 _ _ rfl 4 rfl rfl Try.underlying77 (.int .i64 0) 8 info3 rfl (by decide) (by omega) 0 (ok := fun _ => True) (okp := fun _ => True) rfl (fun _ hk => hk) trivial (by omega) (by omega) (Below.refl _ _) (Nat.le_refl _) ?_
                   intro v157 w17 ho18 hb hg_ hnew_
                   clear hg_ hnew_
                   (first | rw [← Ny156.out] at ho18 | (simp only [Int.reduceToNat] at ho18; rw [← Ny156.out] at ho18))
                   have HO158 := Aside0.mk (Kd.R_lower ho18 (below_size (hb_ HB.out)))
                   replace HO155 := Aside0.mk (Kd.S_below (qb2_) hb)
                   replace BK150 := cb_ BK150 hb
                   replace BK151 := cb_ BK151 hb
                   replace HB := ch_ HB hb
                   clear hb ho18
                   refine hK.out _ _ ⟨bc_ BK150 0, bc_ BK150 1, bc_ BK150 2, bc_ BK150 3⟩ (fun hHeld => ?_)
                   clear hK K
                   refine nm_ ?_
                   exact norm_ (qb0_) (hJ2_3 (v154, v157) _ ⟨hHeld, (qb2_), (rq_ HO158.out), (bq_ BK150.out), (bq_ BK151.out), (hb_ HB.out)⟩)
                  ·
                   skip
                   refine Kd.R_make_step k_Answer _ 144 (by rfl) (N := 13) rfl 78 _ _ rfl 4 rfl rfl Try.underlying78 (.agg #[(.int .i64 0), (.int .i64 0), (.string ⟨#[]⟩), (.string ⟨#[]⟩)]) 48 info144 rfl (by decide) (by omega) z_Answer (ok := fun _ => True) (okp := fun _ => True) (k_Answer_mkM _ _ _ z_Answer ) (fun _ hk => hk) trivial (by omega) (by omega) (Below.refl _ _) (Nat.le_refl _) ?_
                   intro v160 w17 ho18 hb hg_ hnew_
                   clear hg_ hnew_
                   (first | rw [← Ny159.out] at ho18 | (simp only [Int.reduceToNat] at ho18; rw [← Ny159.out] at ho18))
                   have HO161 := Aside0.mk (Kd.R_lower ho18 (below_size (hb_ HB.out)))
                   replace HO155 := Aside0.mk (Kd.S_below (qb2_) hb)
                   replace BK150 := cb_ BK150 hb
                   replace BK151 := cb_ BK151 hb
                   replace HB := ch_ HB hb
                   clear hb ho18
                   refine hK.out _ _ ⟨bc_ BK150 0, bc_ BK150 1, bc_ BK150 2, bc_ BK150 3⟩ (fun hHeld => ?_)
                   clear hK K
                   refine nm_ ?_
                   exact norm_ (qb0_) (hJ2_4 (v154, v160) _ ⟨hHeld, (qb2_), (rq_ HO161.out), (bq_ BK150.out), (bq_ BK151.out), (hb_ HB.out)⟩)
                  ·
                   skip
                   refine box_step ?hg (N := 3) ?hd (cs := #[.slice none 0 0, .slice none 0 0, .slice none 0 0, .int .i64 0, .slice none 0 0, .slice none 0 0]) (t := 80) ?hr ?_; (case hd => rfl); (case hg => rfl); (case hr => first | (go_simp; done) | (go_simp; rfl))
                   intro gb162 hg w17 hbox hb
                   have BK162 := Aside0.mk (hbox)
                   have GW162 := cz_ HB hg
                   have GE162 := cz_ HB hg
                   have NB150_162 := cn_ BK150 hg
                   have NB162_150 := cm_ BK150 hg
                   have NB151_162 := cn_ BK151 hg
                   have NB162_151 := cm_ BK151 hg
                   replace HO155 := Aside0.mk (Kd.S_below (qb2_) hb)
                   replace BK150 := cb_ BK150 hb
                   replace BK151 := cb_ BK151 hb
                   replace HB := ch_ HB hb
                   clear hb hbox hg
                   refine hK.out _ _ ⟨bc_ BK150 0, bc_ BK150 1, bc_ BK150 2, bc_ BK150 3⟩ (fun hHeld => ?_)
                   clear hK K
                   refine nm_ ?_
                   exact norm_ (qb0_) (hJ2_6 (v154, gb162) _ ⟨hHeld, (qb2_), (bq_ BK150.out), (bq_ BK151.out), (bq_ BK162.out), GW162.out, GE162.out, NB150_162.out, NB162_150.out, NB151_162.out, NB162_151.out, (hb_ HB.out)⟩)
                ·
                 skip
                 rintro ⟨v160, gb162⟩ w17 ⟨hS_, h0_, h1_, h2_, h3_, h4_, h5_, h6_, h7_, h8_, h9_, h10_⟩
                 have n0_ : Aside0 (Kd.R k_Answer 144 w17 w.heap.size (fun _ => True) v160 y159) := ⟨h0_⟩
                 have n1_ : Aside0 (w17.heap[gb150]? = some (.cells #[.int .i64 a0_0, .int .i64 a0_1, .int .i64 a0_2, .int .i64 a0_3] 82 (0, 0))) := ⟨h1_⟩
                 have n2_ : Aside0 (w17.heap[gb151]? = some (.cells #[.slice none 0 0, .slice none 0 0, .slice none 0 0, .int .i64 0, .slice none 0 0, .slice none 0 0] 80 (0, 0))) := ⟨h2_⟩
                 have n3_ : Aside0 (w17.heap[gb162]? = some (.cells #[.slice none 0 0, .slice none 0 0, .slice none 0 0, .int .i64 0, .slice none 0 0, .slice none 0 0] 80 (0, 0))) := ⟨h3_⟩
                 have n4_ : Aside0 (w.heap.size ≤ gb162) := ⟨h4_⟩
                 have n5_ : Aside0 (w.heap.size ≤ gb162) := ⟨h5_⟩
                 have n6_ : Aside0 (gb150 ≠ gb162) := ⟨h6_⟩
                 have n7_ : Aside0 (gb162 ≠ gb150) := ⟨h7_⟩
                 have n8_ : Aside0 (gb151 ≠ gb162) := ⟨h8_⟩
                 have n9_ : Aside0 (gb162 ≠ gb151) := ⟨h9_⟩
                 have n10_ : Aside0 (Below w.heap.size w w17) := ⟨h10_⟩
                 clear BK150
                 clear BK151
                 clear HB
                 clear h0_ h1_ h2_ h3_ h4_ h5_ h6_ h7_ h8_ h9_ h10_
                 have HO161 := n0_
                 have BK150 := n1_
                 have BK151 := n2_
                 have BK162 := n3_
                 have GW162 := n4_
                 have GE162 := n5_
                 have NB150_162 := n6_
                 have NB162_150 := n7_
                 have NB151_162 := n8_
                 have NB162_151 := n9_
                 have HB := n10_
                 clear n0_ n1_ n2_ n3_ n4_ n5_ n6_ n7_ n8_ n9_ n10_
                 have hHeld : w17.cell? ⟨gb150, 0, none⟩ = some (.int .i64 a0_0) ∧ w17.cell? ⟨gb150, 1, none⟩ = some (.int .i64 a0_1) ∧ w17.cell? ⟨gb150, 2, none⟩ = some (.int .i64 a0_2) ∧ w17.cell? ⟨gb150, 3, none⟩ = some (.int .i64 a0_3) := hS_
                 refine norm_ (a' := ?_) ?_ ?_
                 rotate_left; (focus simp only [putAll, Act.put, List.setIfInBounds_toArray, List.set_cons_zero, List.set_cons_succ]; rfl)
                 refine two_ (i := 2) (j := 3) (Ni := some 11) (Nj := some 12) #[true, true, true, false, true, false, true, false] #[true, true, false, true, true, false, true, false] rfl rfl rfl rfl (two_of HT_.out (by kernel_rfl)) (by decide) (by decide) (fun K hK => ?_) (fun K hK => ?_)
                 ·
                  skip
                  refine Kd.S_make_step k_Row _ 26 (by rfl) (N := 11) rfl 75 _ _ rfl a0_0 rfl rfl Try.underlying75 (.agg #[(.int .i64 0), (.int .i64 0), (.slice none 0 0)]) 40 info26 rfl (by decide) (by omega) z_Row (ok := fun _ => True) (okp := fun _ => True) (k_Row_mkM _ _ _ z_Row (Kd.R_nil _ _ _ _ _)) (fun _ hk => hk) trivial (of_decide_eq_true dt_) (Nat.le_trans (Nat.mul_le_mul_right _ (of_decide_eq_true dt_ : a0_0.toNat ≤ 7036874417766)) (by omega)) (Below.refl _ _) (Nat.le_refl _) ?_
                  intro v154 w18 ho19 hb hg_ hnew_
                  clear hg_ hnew_
                  (first | rw [← Ny153.out] at ho19 | (simp only [Int.reduceToNat] at ho19; rw [← Ny153.out] at ho19))
                  have HO155 := Aside0.mk (Kd.S_lower ho19 (below_size (hb_ HB.out)))
                  replace HO161 := cr_ HO161 hb
                  replace BK150 := cb_ BK150 hb
                  replace BK151 := cb_ BK151 hb
                  replace BK162 := cb_ BK162 hb
                  replace HB := ch_ HB hb
                  clear hb ho19
                  refine hK.out _ _ ⟨bc_ BK150 0, bc_ BK150 1, bc_ BK150 2, bc_ BK150 3⟩ (fun hHeld => ?_)
                  clear hK K
                  refine nm_ ?_
                  exact norm_ (qb0_) (hJ2_4_6 (v154, v160, gb162) _ ⟨hHeld, (qb2_), (rq_ HO161.out), (bq_ BK150.out), (bq_ BK151.out), (bq_ BK162.out), GW162.out, GE162.out, NB150_162.out, NB162_150.out, NB151_162.out, NB162_151.out, (hb_ HB.out)⟩)
                 ·
                  skip
                  refine Kd.R_make_step (Kd.int .i64) _ 3 (by rfl) (N := 12) rfl 77 _ _ rfl 4 rfl rfl Try.underlying77 (.int .i64 0) 8 info3 rfl (by decide) (by omega) 0 (ok := fun _ => True) (okp := fun _ => True) rfl (fun _ hk => hk) trivial (by omega) (by omega) (Below.refl _ _) (Nat.le_refl _) ?_
                  intro v157 w18 ho19 hb hg_ hnew_
                  clear hg_ hnew_
                  (first | rw [← Ny156.out] at ho19 | (simp only [Int.reduceToNat] at ho19; rw [← Ny156.out] at ho19))
                  have HO158 := Aside0.mk (Kd.R_lower ho19 (below_size (hb_ HB.out)))
                  replace HO161 := cr_ HO161 hb
                  replace BK150 := cb_ BK150 hb
                  replace BK151 := cb_ BK151 hb
                  replace BK162 := cb_ BK162 hb
                  replace HB := ch_ HB hb
                  clear hb ho19
                  refine hK.out _ _ ⟨bc_ BK150 0, bc_ BK150 1, bc_ BK150 2, bc_ BK150 3⟩ (fun hHeld => ?_)
                  clear hK K
                  refine nm_ ?_
                  exact norm_ (qb0_) (hJ3_4_6 (v157, v160, gb162) _ ⟨hHeld, (rq_ HO158.out), (rq_ HO161.out), (bq_ BK150.out), (bq_ BK151.out), (bq_ BK162.out), GW162.out, GE162.out, NB150_162.out, NB162_150.out, NB151_162.out, NB162_151.out, (hb_ HB.out)⟩)
               ·
                skip
                rintro ⟨v157, gb162⟩ w17 ⟨hS_, h0_, h1_, h2_, h3_, h4_, h5_, h6_, h7_, h8_, h9_, h10_⟩
                have n0_ : Aside0 (Kd.R (Kd.int .i64) 3 w17 w.heap.size (fun _ => True) v157 y156) := ⟨h0_⟩
                have n1_ : Aside0 (w17.heap[gb150]? = some (.cells #[.int .i64 a0_0, .int .i64 a0_1, .int .i64 a0_2, .int .i64 a0_3] 82 (0, 0))) := ⟨h1_⟩
                have n2_ : Aside0 (w17.heap[gb151]? = some (.cells #[.slice none 0 0, .slice none 0 0, .slice none 0 0, .int .i64 0, .slice none 0 0, .slice none 0 0] 80 (0, 0))) := ⟨h2_⟩
                have n3_ : Aside0 (w17.heap[gb162]? = some (.cells #[.slice none 0 0, .slice none 0 0, .slice none 0 0, .int .i64 0, .slice none 0 0, .slice none 0 0] 80 (0, 0))) := ⟨h3_⟩
                have n4_ : Aside0 (w.heap.size ≤ gb162) := ⟨h4_⟩
                have n5_ : Aside0 (w.heap.size ≤ gb162) := ⟨h5_⟩
                have n6_ : Aside0 (gb150 ≠ gb162) := ⟨h6_⟩
                have n7_ : Aside0 (gb162 ≠ gb150) := ⟨h7_⟩
                have n8_ : Aside0 (gb151 ≠ gb162) := ⟨h8_⟩
                have n9_ : Aside0 (gb162 ≠ gb151) := ⟨h9_⟩
                have n10_ : Aside0 (Below w.heap.size w w17) := ⟨h10_⟩
                clear BK150
                clear BK151
                clear HB
                clear h0_ h1_ h2_ h3_ h4_ h5_ h6_ h7_ h8_ h9_ h10_
                have HO158 := n0_
                have BK150 := n1_
                have BK151 := n2_
                have BK162 := n3_
                have GW162 := n4_
                have GE162 := n5_
                have NB150_162 := n6_
                have NB162_150 := n7_
                have NB151_162 := n8_
                have NB162_151 := n9_
                have HB := n10_
                clear n0_ n1_ n2_ n3_ n4_ n5_ n6_ n7_ n8_ n9_ n10_
                have hHeld : w17.cell? ⟨gb150, 0, none⟩ = some (.int .i64 a0_0) ∧ w17.cell? ⟨gb150, 1, none⟩ = some (.int .i64 a0_1) ∧ w17.cell? ⟨gb150, 2, none⟩ = some (.int .i64 a0_2) ∧ w17.cell? ⟨gb150, 3, none⟩ = some (.int .i64 a0_3) := hS_
                refine norm_ (a' := ?_) ?_ ?_
                rotate_left; (focus simp only [putAll, Act.put, List.setIfInBounds_toArray, List.set_cons_zero, List.set_cons_succ]; rfl)
                refine two_ (i := 2) (j := 4) (Ni := some 11) (Nj := some 13) #[true, true, true, true, false, false, true, false] #[true, true, false, true, true, false, true, false] rfl rfl rfl rfl (two_of HT_.out (by kernel_rfl)) (by decide) (by decide) (fun K hK => ?_) (fun K hK => ?_)
                ·
                 skip
                 refine Kd.S_make_step k_Row _ 26 (by rfl) (N := 11) rfl 75 _ _ rfl a0_0 rfl rfl Try.underlying75 (.agg #[(.int .i64 0), (.int .i64 0), (.slice none 0 0)]) 40 info26 rfl (by decide) (by omega) z_Row (ok := fun _ => True) (okp := fun _ => True) (k_Row_mkM _ _ _ z_Row (Kd.R_nil _ _ _ _ _)) (fun _ hk => hk) trivial (of_decide_eq_true dt_) (Nat.le_trans (Nat.mul_le_mul_right _ (of_decide_eq_true dt_ : a0_0.toNat ≤ 7036874417766)) (by omega)) (Below.refl _ _) (Nat.le_refl _) ?_
                 intro v154 w18 ho19 hb hg_ hnew_
                 clear hg_ hnew_
                 (first | rw [← Ny153.out] at ho19 | (simp only [Int.reduceToNat] at ho19; rw [← Ny153.out] at ho19))
                 have HO155 := Aside0.mk (Kd.S_lower ho19 (below_size (hb_ HB.out)))
                 replace HO158 := cr_ HO158 hb
                 replace BK150 := cb_ BK150 hb
                 replace BK151 := cb_ BK151 hb
                 replace BK162 := cb_ BK162 hb
                 replace HB := ch_ HB hb
                 clear hb ho19
                 refine hK.out _ _ ⟨bc_ BK150 0, bc_ BK150 1, bc_ BK150 2, bc_ BK150 3⟩ (fun hHeld => ?_)
                 clear hK K
                 refine nm_ ?_
                 exact norm_ (qb0_) (hJ2_3_6 (v154, v157, gb162) _ ⟨hHeld, (qb2_), (rq_ HO158.out), (bq_ BK150.out), (bq_ BK151.out), (bq_ BK162.out), GW162.out, GE162.out, NB150_162.out, NB162_150.out, NB151_162.out, NB162_151.out, (hb_ HB.out)⟩)
                ·
                 skip
                 refine Kd.R_make_step k_Answer _ 144 (by rfl) (N := 13) rfl 78 _ _ rfl 4 rfl rfl Try.underlying78 (.agg #[(.int .i64 0), (.int .i64 0), (.string ⟨#[]⟩), (.string ⟨#[]⟩)]) 48 info144 rfl (by decide) (by omega) z_Answer (ok := fun _ => True) (okp := fun _ => True) (k_Answer_mkM _ _ _ z_Answer ) (fun _ hk => hk) trivial (by omega) (by omega) (Below.refl _ _) (Nat.le_refl _) ?_
                 intro v160 w18 ho19 hb hg_ hnew_
                 clear hg_ hnew_
                 (first | rw [← Ny159.out] at ho19 | (simp only [Int.reduceToNat] at ho19; rw [← Ny159.out] at ho19))
                 have HO161 := Aside0.mk (Kd.R_lower ho19 (below_size (hb_ HB.out)))
                 replace HO158 := cr_ HO158 hb
                 replace BK150 := cb_ BK150 hb
                 replace BK151 := cb_ BK151 hb
                 replace BK162 := cb_ BK162 hb
                 replace HB := ch_ HB hb
                 clear hb ho19
                 refine hK.out _ _ ⟨bc_ BK150 0, bc_ BK150 1, bc_ BK150 2, bc_ BK150 3⟩ (fun hHeld => ?_)
                 clear hK K
                 refine nm_ ?_
                 exact norm_ (qb0_) (hJ3_4_6 (v157, v160, gb162) _ ⟨hHeld, (rq_ HO158.out), (rq_ HO161.out), (bq_ BK150.out), (bq_ BK151.out), (bq_ BK162.out), GW162.out, GE162.out, NB150_162.out, NB162_150.out, NB151_162.out, NB162_151.out, (hb_ HB.out)⟩)
              ·
               skip
               rintro ⟨v157, v160⟩ w18 ⟨hS_, h0_, h1_, h2_, h3_, h4_⟩
               have n0_ : Aside0 (Kd.R (Kd.int .i64) 3 w18 w.heap.size (fun _ => True) v157 y156) := ⟨h0_⟩
               have n1_ : Aside0 (Kd.R k_Answer 144 w18 w.heap.size (fun _ => True) v160 y159) := ⟨h1_⟩
               have n2_ : Aside0 (w18.heap[gb150]? = some (.cells #[.int .i64 a0_0, .int .i64 a0_1, .int .i64 a0_2, .int .i64 a0_3] 82 (0, 0))) := ⟨h2_⟩
               have n3_ : Aside0 (w18.heap[gb151]? = some (.cells #[.slice none 0 0, .slice none 0 0, .slice none 0 0, .int .i64 0, .slice none 0 0, .slice none 0 0] 80 (0, 0))) := ⟨h3_⟩
               have n4_ : Aside0 (Below w.heap.size w w18) := ⟨h4_⟩
               clear BK150
               clear BK151
               clear HB
               clear h0_ h1_ h2_ h3_ h4_
               have HO158 := n0_
               have HO161 := n1_
               have BK150 := n2_
               have BK151 := n3_
               have HB := n4_
               clear n0_ n1_ n2_ n3_ n4_
               have hHeld : w18.cell? ⟨gb150, 0, none⟩ = some (.int .i64 a0_0) ∧ w18.cell? ⟨gb150, 1, none⟩ = some (.int .i64 a0_1) ∧ w18.cell? ⟨gb150, 2, none⟩ = some (.int .i64 a0_2) ∧ w18.cell? ⟨gb150, 3, none⟩ = some (.int .i64 a0_3) := hS_
               refine norm_ (a' := ?_) ?_ ?_
               rotate_left; (focus simp only [putAll, Act.put, List.setIfInBounds_toArray, List.set_cons_zero, List.set_cons_succ]; rfl)
               refine two_ (i := 2) (j := 6) (Ni := some 11) (Nj := some 3) #[true, true, true, true, true, false, false, false] #[true, true, false, true, true, false, true, false] rfl rfl rfl rfl (two_of HT_.out (by kernel_rfl)) (by decide) (by decide) (fun K hK => ?_) (fun K hK => ?_)
               ·
                skip
                refine Kd.S_make_step k_Row _ 26 (by rfl) (N := 11) rfl 75 _ _ rfl a0_0 rfl rfl Try.underlying75 (.agg #[(.int .i64 0), (.int .i64 0), (.slice none 0 0)]) 40 info26 rfl (by decide) (by omega) z_Row (ok := fun _ => True) (okp := fun _ => True) (k_Row_mkM _ _ _ z_Row (Kd.R_nil _ _ _ _ _)) (fun _ hk => hk) trivial (of_decide_eq_true dt_) (Nat.le_trans (Nat.mul_le_mul_right _ (of_decide_eq_true dt_ : a0_0.toNat ≤ 7036874417766)) (by omega)) (Below.refl _ _) (Nat.le_refl _) ?_
                intro v154 w19 ho20 hb hg_ hnew_
                clear hg_ hnew_
                (first | rw [← Ny153.out] at ho20 | (simp only [Int.reduceToNat] at ho20; rw [← Ny153.out] at ho20))
                have HO155 := Aside0.mk (Kd.S_lower ho20 (below_size (hb_ HB.out)))
                replace HO158 := cr_ HO158 hb
                replace HO161 := cr_ HO161 hb
                replace BK150 := cb_ BK150 hb
                replace BK151 := cb_ BK151 hb
                replace HB := ch_ HB hb
                clear hb ho20
                obtain ⟨Ao21, co21, eo21⟩ := Kd.R_slice HO161.out
                (first | subst eo21 | (injection eo21 with f1_ f2_ f3_; have f4_ := f1_.symm; have f5_ := f3_.symm; clear f1_ f2_ f3_; subst f4_; subst f5_))
                obtain ⟨Ao22, co22, eo22⟩ := Kd.R_slice HO158.out
                (first | subst eo22 | (injection eo22 with f1_ f2_ f3_; have f4_ := f1_.symm; have f5_ := f3_.symm; clear f1_ f2_ f3_; subst f4_; subst f5_))
                obtain ⟨Ao23, co23, eo23⟩ := Kd.S_slice HO155.out
                (first | subst eo23 | (injection eo23 with f1_ f2_ f3_; have f4_ := f1_.symm; have f5_ := f3_.symm; clear f1_ f2_ f3_; subst f4_; subst f5_))
                refine hK.out _ _ ⟨bc_ BK150 0, bc_ BK150 1, bc_ BK150 2, bc_ BK150 3⟩ (fun hHeld => ?_)
                clear hK K
                refine nm_ ?_
                refine pI_ 5 14 HT_ #[true, true, true, true, true, true, false, false] rfl rfl ?_
                exact norm_ (qb0_) (hJ2_3_4 (.slice Ao23 y153.length co23, .slice Ao22 y156.length co22, .slice Ao21 y159.length co21) _ ⟨hHeld, (qb2_), (rq_ HO158.out), (rq_ HO161.out), (bq_ BK150.out), (bq_ BK151.out), (hb_ HB.out)⟩)
               ·
                skip
                refine box_step ?hg (N := 3) ?hd (cs := #[.slice none 0 0, .slice none 0 0, .slice none 0 0, .int .i64 0, .slice none 0 0, .slice none 0 0]) (t := 80) ?hr ?_; (case hd => rfl); (case hg => rfl); (case hr => first | (go_simp; done) | (go_simp; rfl))
                intro gb162 hg w19 hbox hb
                have BK162 := Aside0.mk (hbox)
                have GW162 := cz_ HB hg
                have GE162 := cz_ HB hg
                have NB150_162 := cn_ BK150 hg
                have NB162_150 := cm_ BK150 hg
                have NB151_162 := cn_ BK151 hg
                have NB162_151 := cm_ BK151 hg
                replace HO158 := cr_ HO158 hb
                replace HO161 := cr_ HO161 hb
                replace BK150 := cb_ BK150 hb
                replace BK151 := cb_ BK151 hb
                replace HB := ch_ HB hb
                clear hb hbox hg
                refine hK.out _ _ ⟨bc_ BK150 0, bc_ BK150 1, bc_ BK150 2, bc_ BK150 3⟩ (fun hHeld => ?_)
                clear hK K
                refine nm_ ?_
                exact norm_ (qb0_) (hJ3_4_6 (v157, v160, gb162) _ ⟨hHeld, (rq_ HO158.out), (rq_ HO161.out), (bq_ BK150.out), (bq_ BK151.out), (bq_ BK162.out), GW162.out, GE162.out, NB150_162.out, NB162_150.out, NB151_162.out, NB162_151.out, (hb_ HB.out)⟩)
             ·
              skip
              rintro ⟨v154, gb162⟩ w17 ⟨hS_, h0_, h1_, h2_, h3_, h4_, h5_, h6_, h7_, h8_, h9_, h10_⟩
              have n0_ : Aside0 (Kd.S k_Row 26 w17 w.heap.size (fun _ => True) v154 y153) := ⟨h0_⟩
              have n1_ : Aside0 (w17.heap[gb150]? = some (.cells #[.int .i64 a0_0, .int .i64 a0_1, .int .i64 a0_2, .int .i64 a0_3] 82 (0, 0))) := ⟨h1_⟩
              have n2_ : Aside0 (w17.heap[gb151]? = some (.cells #[.slice none 0 0, .slice none 0 0, .slice none 0 0, .int .i64 0, .slice none 0 0, .slice none 0 0] 80 (0, 0))) := ⟨h2_⟩
              have n3_ : Aside0 (w17.heap[gb162]? = some (.cells #[.slice none 0 0, .slice none 0 0, .slice none 0 0, .int .i64 0, .slice none 0 0, .slice none 0 0] 80 (0, 0))) := ⟨h3_⟩
              have n4_ : Aside0 (w.heap.size ≤ gb162) := ⟨h4_⟩
              have n5_ : Aside0 (w.heap.size ≤ gb162) := ⟨h5_⟩
              have n6_ : Aside0 (gb150 ≠ gb162) := ⟨h6_⟩
              have n7_ : Aside0 (gb162 ≠ gb150) := ⟨h7_⟩
              have n8_ : Aside0 (gb151 ≠ gb162) := ⟨h8_⟩
              have n9_ : Aside0 (gb162 ≠ gb151) := ⟨h9_⟩
              have n10_ : Aside0 (Below w.heap.size w w17) := ⟨h10_⟩
              clear BK150
              clear BK151
              clear HB
              clear h0_ h1_ h2_ h3_ h4_ h5_ h6_ h7_ h8_ h9_ h10_
              have HO155 := n0_
              have BK150 := n1_
              have BK151 := n2_
              have BK162 := n3_
              have GW162 := n4_
              have GE162 := n5_
              have NB150_162 := n6_
              have NB162_150 := n7_
              have NB151_162 := n8_
              have NB162_151 := n9_
              have HB := n10_
              clear n0_ n1_ n2_ n3_ n4_ n5_ n6_ n7_ n8_ n9_ n10_
              have hHeld : w17.cell? ⟨gb150, 0, none⟩ = some (.int .i64 a0_0) ∧ w17.cell? ⟨gb150, 1, none⟩ = some (.int .i64 a0_1) ∧ w17.cell? ⟨gb150, 2, none⟩ = some (.int .i64 a0_2) ∧ w17.cell? ⟨gb150, 3, none⟩ = some (.int .i64 a0_3) := hS_
              refine norm_ (a' := ?_) ?_ ?_
              rotate_left; (focus simp only [putAll, Act.put, List.setIfInBounds_toArray, List.set_cons_zero, List.set_cons_succ]; rfl)
              refine two_ (i := 3) (j := 4) (Ni := some 12) (Nj := some 13) #[true, true, true, true, false, false, true, false] #[true, true, true, false, true, false, true, false] rfl rfl rfl rfl (two_of HT_.out (by kernel_rfl)) (by decide) (by decide) (fun K hK => ?_) (fun K hK => ?_)
              ·
               skip
               refine Kd.R_make_step (Kd.int .i64) _ 3 (by rfl) (N := 12) rfl 77 _ _ rfl 4 rfl rfl Try.underlying77 (.int .i64 0) 8 info3 rfl (by decide) (by omega) 0 (ok := fun _ => True) (okp := fun _ => True) rfl (fun _ hk => hk) trivial (by omega) (by omega) (Below.refl _ _) (Nat.le_refl _) ?_
               intro v157 w18 ho19 hb hg_ hnew_
               clear hg_ hnew_
               (first | rw [← Ny156.out] at ho19 | (simp only [Int.reduceToNat] at ho19; rw [← Ny156.out] at ho19))
               have HO158 := Aside0.mk (Kd.R_lower ho19 (below_size (hb_ HB.out)))
               replace HO155 := Aside0.mk (Kd.S_below (qb2_) hb)
               replace BK150 := cb_ BK150 hb
               replace BK151 := cb_ BK151 hb
               replace BK162 := cb_ BK162 hb
               replace HB := ch_ HB hb
               clear hb ho19
               refine hK.out _ _ ⟨bc_ BK150 0, bc_ BK150 1, bc_ BK150 2, bc_ BK150 3⟩ (fun hHeld => ?_)
               clear hK K
               refine nm_ ?_
               exact norm_ (qb0_) (hJ2_3_6 (v154, v157, gb162) _ ⟨hHeld, (qb2_), (rq_ HO158.out), (bq_ BK150.out), (bq_ BK151.out), (bq_ BK162.out), GW162.out, GE162.out, NB150_162.out, NB162_150.out, NB151_162.out, NB162_151.out, (hb_ HB.out)⟩)
              ·
               skip
               refine Kd.R_make_step k_Answer _ 144 (by rfl) (N := 13) rfl 78 _ _ rfl 4 rfl rfl Try.underlying78 (.agg #[(.int .i64 0), (.int .i64 0), (.string ⟨#[]⟩), (.string ⟨#[]⟩)]) 48 info144 rfl (by decide) (by omega) z_Answer (ok := fun _ => True) (okp := fun _ => True) (k_Answer_mkM _ _ _ z_Answer ) (fun _ hk => hk) trivial (by omega) (by omega) (Below.refl _ _) (Nat.le_refl _) ?_
               intro v160 w18 ho19 hb hg_ hnew_
               clear hg_ hnew_
               (first | rw [← Ny159.out] at ho19 | (simp only [Int.reduceToNat] at ho19; rw [← Ny159.out] at ho19))
               have HO161 := Aside0.mk (Kd.R_lower ho19 (below_size (hb_ HB.out)))
               replace HO155 := Aside0.mk (Kd.S_below (qb2_) hb)
               replace BK150 := cb_ BK150 hb
               replace BK151 := cb_ BK151 hb
               replace BK162 := cb_ BK162 hb
               replace HB := ch_ HB hb
               clear hb ho19
               refine hK.out _ _ ⟨bc_ BK150 0, bc_ BK150 1, bc_ BK150 2, bc_ BK150 3⟩ (fun hHeld => ?_)
               clear hK K
               refine nm_ ?_
               exact norm_ (qb0_) (hJ2_4_6 (v154, v160, gb162) _ ⟨hHeld, (qb2_), (rq_ HO161.out), (bq_ BK150.out), (bq_ BK151.out), (bq_ BK162.out), GW162.out, GE162.out, NB150_162.out, NB162_150.out, NB151_162.out, NB162_151.out, (hb_ HB.out)⟩)
            ·
             skip
             rintro ⟨v154, v160⟩ w18 ⟨hS_, h0_, h1_, h2_, h3_, h4_⟩
             have n0_ : Aside0 (Kd.S k_Row 26 w18 w.heap.size (fun _ => True) v154 y153) := ⟨h0_⟩
             have n1_ : Aside0 (Kd.R k_Answer 144 w18 w.heap.size (fun _ => True) v160 y159) := ⟨h1_⟩
             have n2_ : Aside0 (w18.heap[gb150]? = some (.cells #[.int .i64 a0_0, .int .i64 a0_1, .int .i64 a0_2, .int .i64 a0_3] 82 (0, 0))) := ⟨h2_⟩
             have n3_ : Aside0 (w18.heap[gb151]? = some (.cells #[.slice none 0 0, .slice none 0 0, .slice none 0 0, .int .i64 0, .slice none 0 0, .slice none 0 0] 80 (0, 0))) := ⟨h3_⟩
             have n4_ : Aside0 (Below w.heap.size w w18) := ⟨h4_⟩
             clear BK150
             clear BK151
             clear HB
             clear h0_ h1_ h2_ h3_ h4_
             have HO155 := n0_
             have HO161 := n1_
             have BK150 := n2_
             have BK151 := n3_
             have HB := n4_
             clear n0_ n1_ n2_ n3_ n4_
             have hHeld : w18.cell? ⟨gb150, 0, none⟩ = some (.int .i64 a0_0) ∧ w18.cell? ⟨gb150, 1, none⟩ = some (.int .i64 a0_1) ∧ w18.cell? ⟨gb150, 2, none⟩ = some (.int .i64 a0_2) ∧ w18.cell? ⟨gb150, 3, none⟩ = some (.int .i64 a0_3) := hS_
             refine norm_ (a' := ?_) ?_ ?_
             rotate_left; (focus simp only [putAll, Act.put, List.setIfInBounds_toArray, List.set_cons_zero, List.set_cons_succ]; rfl)
             refine two_ (i := 3) (j := 6) (Ni := some 12) (Nj := some 3) #[true, true, true, true, true, false, false, false] #[true, true, true, false, true, false, true, false] rfl rfl rfl rfl (two_of HT_.out (by kernel_rfl)) (by decide) (by decide) (fun K hK => ?_) (fun K hK => ?_)
             ·
              skip
              refine Kd.R_make_step (Kd.int .i64) _ 3 (by rfl) (N := 12) rfl 77 _ _ rfl 4 rfl rfl Try.underlying77 (.int .i64 0) 8 info3 rfl (by decide) (by omega) 0 (ok := fun _ => True) (okp := fun _ => True) rfl (fun _ hk => hk) trivial (by omega) (by omega) (Below.refl _ _) (Nat.le_refl _) ?_
              intro v157 w19 ho20 hb hg_ hnew_
              clear hg_ hnew_
              (first | rw [← Ny156.out] at ho20 | (simp only [Int.reduceToNat] at ho20; rw [← Ny156.out] at ho20))
              have HO158 := Aside0.mk (Kd.R_lower ho20 (below_size (hb_ HB.out)))
              replace HO155 := Aside0.mk (Kd.S_below (qb2_) hb)
              replace HO161 := cr_ HO161 hb
              replace BK150 := cb_ BK150 hb
              replace BK151 := cb_ BK151 hb
              replace HB := ch_ HB hb
              clear hb ho20
              obtain ⟨Ao21, co21, eo21⟩ := Kd.R_slice HO161.out
              (first | subst eo21 | (injection eo21 with f1_ f2_ f3_; have f4_ := f1_.symm; have f5_ := f3_.symm; clear f1_ f2_ f3_; subst f4_; subst f5_))
              obtain ⟨Ao22, co22, eo22⟩ := Kd.R_slice HO158.out
              (first | subst eo22 | (injection eo22 with f1_ f2_ f3_; have f4_ := f1_.symm; have f5_ := f3_.symm; clear f1_ f2_ f3_; subst f4_; subst f5_))
              obtain ⟨Ao23, co23, eo23⟩ := Kd.S_slice HO155.out
              (first | subst eo23 | (injection eo23 with f1_ f2_ f3_; have f4_ := f1_.symm; have f5_ := f3_.symm; clear f1_ f2_ f3_; subst f4_; subst f5_))
              refine hK.out _ _ ⟨bc_ BK150 0, bc_ BK150 1, bc_ BK150 2, bc_ BK150 3⟩ (fun hHeld => ?_)
              clear hK K
              refine nm_ ?_
              refine pI_ 5 14 HT_ #[true, true, true, true, true, true, false, false] rfl rfl ?_
              exact norm_ (qb0_) (hJ2_3_4 (.slice Ao23 y153.length co23, .slice Ao22 y156.length co22, .slice Ao21 y159.length co21) _ ⟨hHeld, (qb2_), (rq_ HO158.out), (rq_ HO161.out), (bq_ BK150.out), (bq_ BK151.out), (hb_ HB.out)⟩)
             ·
              skip
              refine box_step ?hg (N := 3) ?hd (cs := #[.slice none 0 0, .slice none 0 0, .slice none 0 0, .int .i64 0, .slice none 0 0, .slice none 0 0]) (t := 80) ?hr ?_; (case hd => rfl); (case hg => rfl); (case hr => first | (go_simp; done) | (go_simp; rfl))
              intro gb162 hg w19 hbox hb
              have BK162 := Aside0.mk (hbox)
              have GW162 := cz_ HB hg
              have GE162 := cz_ HB hg
              have NB150_162 := cn_ BK150 hg
              have NB162_150 := cm_ BK150 hg
              have NB151_162 := cn_ BK151 hg
              have NB162_151 := cm_ BK151 hg
              replace HO155 := Aside0.mk (Kd.S_below (qb2_) hb)
              replace HO161 := cr_ HO161 hb
              replace BK150 := cb_ BK150 hb
              replace BK151 := cb_ BK151 hb
              replace HB := ch_ HB hb
              clear hb hbox hg
              refine hK.out _ _ ⟨bc_ BK150 0, bc_ BK150 1, bc_ BK150 2, bc_ BK150 3⟩ (fun hHeld => ?_)
              clear hK K
              refine nm_ ?_
              exact norm_ (qb0_) (hJ2_4_6 (v154, v160, gb162) _ ⟨hHeld, (qb2_), (rq_ HO161.out), (bq_ BK150.out), (bq_ BK151.out), (bq_ BK162.out), GW162.out, GE162.out, NB150_162.out, NB162_150.out, NB151_162.out, NB162_151.out, (hb_ HB.out)⟩)
           ·
            skip
            rintro ⟨v154, v157⟩ w18 ⟨hS_, h0_, h1_, h2_, h3_, h4_⟩
            have n0_ : Aside0 (Kd.S k_Row 26 w18 w.heap.size (fun _ => True) v154 y153) := ⟨h0_⟩
            have n1_ : Aside0 (Kd.R (Kd.int .i64) 3 w18 w.heap.size (fun _ => True) v157 y156) := ⟨h1_⟩
            have n2_ : Aside0 (w18.heap[gb150]? = some (.cells #[.int .i64 a0_0, .int .i64 a0_1, .int .i64 a0_2, .int .i64 a0_3] 82 (0, 0))) := ⟨h2_⟩
            have n3_ : Aside0 (w18.heap[gb151]? = some (.cells #[.slice none 0 0, .slice none 0 0, .slice none 0 0, .int .i64 0, .slice none 0 0, .slice none 0 0] 80 (0, 0))) := ⟨h3_⟩
            have n4_ : Aside0 (Below w.heap.size w w18) := ⟨h4_⟩
            clear BK150
            clear BK151
            clear HB
            clear h0_ h1_ h2_ h3_ h4_
            have HO155 := n0_
            have HO158 := n1_
            have BK150 := n2_
            have BK151 := n3_
            have HB := n4_
            clear n0_ n1_ n2_ n3_ n4_
            have hHeld : w18.cell? ⟨gb150, 0, none⟩ = some (.int .i64 a0_0) ∧ w18.cell? ⟨gb150, 1, none⟩ = some (.int .i64 a0_1) ∧ w18.cell? ⟨gb150, 2, none⟩ = some (.int .i64 a0_2) ∧ w18.cell? ⟨gb150, 3, none⟩ = some (.int .i64 a0_3) := hS_
            refine norm_ (a' := ?_) ?_ ?_
            rotate_left; (focus simp only [putAll, Act.put, List.setIfInBounds_toArray, List.set_cons_zero, List.set_cons_succ]; rfl)
            refine two_ (i := 4) (j := 6) (Ni := some 13) (Nj := some 3) #[true, true, true, true, true, false, false, false] #[true, true, true, true, false, false, true, false] rfl rfl rfl rfl (two_of HT_.out (by kernel_rfl)) (by decide) (by decide) (fun K hK => ?_) (fun K hK => ?_)
            ·
             skip
             refine Kd.R_make_step k_Answer _ 144 (by rfl) (N := 13) rfl 78 _ _ rfl 4 rfl rfl Try.underlying78 (.agg #[(.int .i64 0), (.int .i64 0), (.string ⟨#[]⟩), (.string ⟨#[]⟩)]) 48 info144 rfl (by decide) (by omega) z_Answer (ok := fun _ => True) (okp := fun _ => True) (k_Answer_mkM _ _ _ z_Answer ) (fun _ hk => hk) trivial (by omega) (by omega) (Below.refl _ _) (Nat.le_refl _) ?_
             intro v160 w19 ho20 hb hg_ hnew_
             clear hg_ hnew_
             (first | rw [← Ny159.out] at ho20 | (simp only [Int.reduceToNat] at ho20; rw [← Ny159.out] at ho20))
             have HO161 := Aside0.mk (Kd.R_lower ho20 (below_size (hb_ HB.out)))
             replace HO155 := Aside0.mk (Kd.S_below (qb2_) hb)
             replace HO158 := cr_ HO158 hb
             replace BK150 := cb_ BK150 hb
             replace BK151 := cb_ BK151 hb
             replace HB := ch_ HB hb
             clear hb ho20
             obtain ⟨Ao21, co21, eo21⟩ := Kd.R_slice HO161.out
             (first | subst eo21 | (injection eo21 with f1_ f2_ f3_; have f4_ := f1_.symm; have f5_ := f3_.symm; clear f1_ f2_ f3_; subst f4_; subst f5_))
             obtain ⟨Ao22, co22, eo22⟩ := Kd.R_slice HO158.out
             (first | subst eo22 | (injection eo22 with f1_ f2_ f3_; have f4_ := f1_.symm; have f5_ := f3_.symm; clear f1_ f2_ f3_; subst f4_; subst f5_))
             obtain ⟨Ao23, co23, eo23⟩ := Kd.S_slice HO155.out
             (first | subst eo23 | (injection eo23 with f1_ f2_ f3_; have f4_ := f1_.symm; have f5_ := f3_.symm; clear f1_ f2_ f3_; subst f4_; subst f5_))
             refine hK.out _ _ ⟨bc_ BK150 0, bc_ BK150 1, bc_ BK150 2, bc_ BK150 3⟩ (fun hHeld => ?_)
             clear hK K
             refine nm_ ?_
             refine pI_ 5 14 HT_ #[true, true, true, true, true, true, false, false] rfl rfl ?_
             exact norm_ (qb0_) (hJ2_3_4 (.slice Ao23 y153.length co23, .slice Ao22 y156.length co22, .slice Ao21 y159.length co21) _ ⟨hHeld, (qb2_), (rq_ HO158.out), (rq_ HO161.out), (bq_ BK150.out), (bq_ BK151.out), (hb_ HB.out)⟩)
            ·
             skip
             refine box_step ?hg (N := 3) ?hd (cs := #[.slice none 0 0, .slice none 0 0, .slice none 0 0, .int .i64 0, .slice none 0 0, .slice none 0 0]) (t := 80) ?hr ?_; (case hd => rfl); (case hg => rfl); (case hr => first | (go_simp; done) | (go_simp; rfl))
             intro gb162 hg w19 hbox hb
             have BK162 := Aside0.mk (hbox)
             have GW162 := cz_ HB hg
             have GE162 := cz_ HB hg
             have NB150_162 := cn_ BK150 hg
             have NB162_150 := cm_ BK150 hg
             have NB151_162 := cn_ BK151 hg
             have NB162_151 := cm_ BK151 hg
             replace HO155 := Aside0.mk (Kd.S_below (qb2_) hb)
             replace HO158 := cr_ HO158 hb
             replace BK150 := cb_ BK150 hb
             replace BK151 := cb_ BK151 hb
             replace HB := ch_ HB hb
             clear hb hbox hg
             refine hK.out _ _ ⟨bc_ BK150 0, bc_ BK150 1, bc_ BK150 2, bc_ BK150 3⟩ (fun hHeld => ?_)
             clear hK K
             refine nm_ ?_
             exact norm_ (qb0_) (hJ2_3_6 (v154, v157, gb162) _ ⟨hHeld, (qb2_), (rq_ HO158.out), (bq_ BK150.out), (bq_ BK151.out), (bq_ BK162.out), GW162.out, GE162.out, NB150_162.out, NB162_150.out, NB151_162.out, NB162_151.out, (hb_ HB.out)⟩)
          ·
           skip
           rintro ⟨v157, v160, gb162⟩ w19 ⟨hS_, h0_, h1_, h2_, h3_, h4_, h5_, h6_, h7_, h8_, h9_, h10_, h11_⟩
           have n0_ : Aside0 (Kd.R (Kd.int .i64) 3 w19 w.heap.size (fun _ => True) v157 y156) := ⟨h0_⟩
           have n1_ : Aside0 (Kd.R k_Answer 144 w19 w.heap.size (fun _ => True) v160 y159) := ⟨h1_⟩
           have n2_ : Aside0 (w19.heap[gb150]? = some (.cells #[.int .i64 a0_0, .int .i64 a0_1, .int .i64 a0_2, .int .i64 a0_3] 82 (0, 0))) := ⟨h2_⟩
           have n3_ : Aside0 (w19.heap[gb151]? = some (.cells #[.slice none 0 0, .slice none 0 0, .slice none 0 0, .int .i64 0, .slice none 0 0, .slice none 0 0] 80 (0, 0))) := ⟨h3_⟩
           have n4_ : Aside0 (w19.heap[gb162]? = some (.cells #[.slice none 0 0, .slice none 0 0, .slice none 0 0, .int .i64 0, .slice none 0 0, .slice none 0 0] 80 (0, 0))) := ⟨h4_⟩
           have n5_ : Aside0 (w.heap.size ≤ gb162) := ⟨h5_⟩
           have n6_ : Aside0 (w.heap.size ≤ gb162) := ⟨h6_⟩
           have n7_ : Aside0 (gb150 ≠ gb162) := ⟨h7_⟩
           have n8_ : Aside0 (gb162 ≠ gb150) := ⟨h8_⟩
           have n9_ : Aside0 (gb151 ≠ gb162) := ⟨h9_⟩
           have n10_ : Aside0 (gb162 ≠ gb151) := ⟨h10_⟩
           have n11_ : Aside0 (Below w.heap.size w w19) := ⟨h11_⟩
           clear BK150
           clear BK151
           clear HB
           clear h0_ h1_ h2_ h3_ h4_ h5_ h6_ h7_ h8_ h9_ h10_ h11_
           have HO158 := n0_
           have HO161 := n1_
           have BK150 := n2_
           have BK151 := n3_
           have BK162 := n4_
           have GW162 := n5_
           have GE162 := n6_
           have NB150_162 := n7_
           have NB162_150 := n8_
           have NB151_162 := n9_
           have NB162_151 := n10_
           have HB := n11_
           clear n0_ n1_ n2_ n3_ n4_ n5_ n6_ n7_ n8_ n9_ n10_ n11_
           have hHeld : w19.cell? ⟨gb150, 0, none⟩ = some (.int .i64 a0_0) ∧ w19.cell? ⟨gb150, 1, none⟩ = some (.int .i64 a0_1) ∧ w19.cell? ⟨gb150, 2, none⟩ = some (.int .i64 a0_2) ∧ w19.cell? ⟨gb150, 3, none⟩ = some (.int .i64 a0_3) := hS_
           refine norm_ (a' := ?_) ?_ ?_
           rotate_left; (focus simp only [putAll, Act.put, List.setIfInBounds_toArray, List.set_cons_zero, List.set_cons_succ]; rfl)
           refine on_ 2 11 HT_ #[true, true, true, true, true, false, true, false] rfl rfl (fun K hK => ?_)
           refine Kd.S_make_step k_Row _ 26 (by rfl) (N := 11) rfl 75 _ _ rfl a0_0 rfl rfl Try.underlying75 (.agg #[(.int .i64 0), (.int .i64 0), (.slice none 0 0)]) 40 info26 rfl (by decide) (by omega) z_Row (ok := fun _ => True) (okp := fun _ => True) (k_Row_mkM _ _ _ z_Row (Kd.R_nil _ _ _ _ _)) (fun _ hk => hk) trivial (of_decide_eq_true dt_) (Nat.le_trans (Nat.mul_le_mul_right _ (of_decide_eq_true dt_ : a0_0.toNat ≤ 7036874417766)) (by omega)) (Below.refl _ _) (Nat.le_refl _) ?_
           intro v154 w20 ho21 hb hg_ hnew_
           clear hg_ hnew_
           (first | rw [← Ny153.out] at ho21 | (simp only [Int.reduceToNat] at ho21; rw [← Ny153.out] at ho21))
           have HO155 := Aside0.mk (Kd.S_lower ho21 (below_size (hb_ HB.out)))
           replace HO158 := cr_ HO158 hb
           replace HO161 := cr_ HO161 hb
           replace BK150 := cb_ BK150 hb
           replace BK151 := cb_ BK151 hb
           replace BK162 := cb_ BK162 hb
           replace HB := ch_ HB hb
           clear hb ho21
           obtain ⟨Ao22, co22, eo22⟩ := Kd.R_slice HO161.out
           (first | subst eo22 | (injection eo22 with f1_ f2_ f3_; have f4_ := f1_.symm; have f5_ := f3_.symm; clear f1_ f2_ f3_; subst f4_; subst f5_))
           obtain ⟨Ao23, co23, eo23⟩ := Kd.R_slice HO158.out
           (first | subst eo23 | (injection eo23 with f1_ f2_ f3_; have f4_ := f1_.symm; have f5_ := f3_.symm; clear f1_ f2_ f3_; subst f4_; subst f5_))
           obtain ⟨Ao24, co24, eo24⟩ := Kd.S_slice HO155.out
           (first | subst eo24 | (injection eo24 with f1_ f2_ f3_; have f4_ := f1_.symm; have f5_ := f3_.symm; clear f1_ f2_ f3_; subst f4_; subst f5_))
           refine hK.out _ _ ⟨bc_ BK150 0, bc_ BK150 1, bc_ BK150 2, bc_ BK150 3⟩ (fun hHeld => ?_)
           clear hK K
           refine nm_ ?_
           refine pI_ 5 14 HT_ #[true, true, true, true, true, true, true, false] rfl rfl ?_
           exact norm_ (qb0_) (hJ2_3_4_6 (.slice Ao24 y153.length co24, .slice Ao23 y156.length co23, .slice Ao22 y159.length co22, gb162) _ ⟨hHeld, (qb2_), (rq_ HO158.out), (rq_ HO161.out), (bq_ BK150.out), (bq_ BK151.out), (bq_ BK162.out), GW162.out, GE162.out, NB150_162.out, NB162_150.out, NB151_162.out, NB162_151.out, (hb_ HB.out)⟩)
         ·
          skip
          rintro ⟨v154, v160, gb162⟩ w19 ⟨hS_, h0_, h1_, h2_, h3_, h4_, h5_, h6_, h7_, h8_, h9_, h10_, h11_⟩
          have n0_ : Aside0 (Kd.S k_Row 26 w19 w.heap.size (fun _ => True) v154 y153) := ⟨h0_⟩
          have n1_ : Aside0 (Kd.R k_Answer 144 w19 w.heap.size (fun _ => True) v160 y159) := ⟨h1_⟩
          have n2_ : Aside0 (w19.heap[gb150]? = some (.cells #[.int .i64 a0_0, .int .i64 a0_1, .int .i64 a0_2, .int .i64 a0_3] 82 (0, 0))) := ⟨h2_⟩
          have n3_ : Aside0 (w19.heap[gb151]? = some (.cells #[.slice none 0 0, .slice none 0 0, .slice none 0 0, .int .i64 0, .slice none 0 0, .slice none 0 0] 80 (0, 0))) := ⟨h3_⟩
          have n4_ : Aside0 (w19.heap[gb162]? = some (.cells #[.slice none 0 0, .slice none 0 0, .slice none 0 0, .int .i64 0, .slice none 0 0, .slice none 0 0] 80 (0, 0))) := ⟨h4_⟩
          have n5_ : Aside0 (w.heap.size ≤ gb162) := ⟨h5_⟩
          have n6_ : Aside0 (w.heap.size ≤ gb162) := ⟨h6_⟩
          have n7_ : Aside0 (gb150 ≠ gb162) := ⟨h7_⟩
          have n8_ : Aside0 (gb162 ≠ gb150) := ⟨h8_⟩
          have n9_ : Aside0 (gb151 ≠ gb162) := ⟨h9_⟩
          have n10_ : Aside0 (gb162 ≠ gb151) := ⟨h10_⟩
          have n11_ : Aside0 (Below w.heap.size w w19) := ⟨h11_⟩
          clear BK150
          clear BK151
          clear HB
          clear h0_ h1_ h2_ h3_ h4_ h5_ h6_ h7_ h8_ h9_ h10_ h11_
          have HO155 := n0_
          have HO161 := n1_
          have BK150 := n2_
          have BK151 := n3_
          have BK162 := n4_
          have GW162 := n5_
          have GE162 := n6_
          have NB150_162 := n7_
          have NB162_150 := n8_
          have NB151_162 := n9_
          have NB162_151 := n10_
          have HB := n11_
          clear n0_ n1_ n2_ n3_ n4_ n5_ n6_ n7_ n8_ n9_ n10_ n11_
          have hHeld : w19.cell? ⟨gb150, 0, none⟩ = some (.int .i64 a0_0) ∧ w19.cell? ⟨gb150, 1, none⟩ = some (.int .i64 a0_1) ∧ w19.cell? ⟨gb150, 2, none⟩ = some (.int .i64 a0_2) ∧ w19.cell? ⟨gb150, 3, none⟩ = some (.int .i64 a0_3) := hS_
          refine norm_ (a' := ?_) ?_ ?_
          rotate_left; (focus simp only [putAll, Act.put, List.setIfInBounds_toArray, List.set_cons_zero, List.set_cons_succ]; rfl)
          refine on_ 3 12 HT_ #[true, true, true, true, true, false, true, false] rfl rfl (fun K hK => ?_)
          refine Kd.R_make_step (Kd.int .i64) _ 3 (by rfl) (N := 12) rfl 77 _ _ rfl 4 rfl rfl Try.underlying77 (.int .i64 0) 8 info3 rfl (by decide) (by omega) 0 (ok := fun _ => True) (okp := fun _ => True) rfl (fun _ hk => hk) trivial (by omega) (by omega) (Below.refl _ _) (Nat.le_refl _) ?_
          intro v157 w20 ho21 hb hg_ hnew_
          clear hg_ hnew_
          (first | rw [← Ny156.out] at ho21 | (simp only [Int.reduceToNat] at ho21; rw [← Ny156.out] at ho21))
          have HO158 := Aside0.mk (Kd.R_lower ho21 (below_size (hb_ HB.out)))
          replace HO155 := Aside0.mk (Kd.S_below (qb2_) hb)
          replace HO161 := cr_ HO161 hb
          replace BK150 := cb_ BK150 hb
          replace BK151 := cb_ BK151 hb
          replace BK162 := cb_ BK162 hb
          replace HB := ch_ HB hb
          clear hb ho21
          obtain ⟨Ao22, co22, eo22⟩ := Kd.R_slice HO161.out
          (first | subst eo22 | (injection eo22 with f1_ f2_ f3_; have f4_ := f1_.symm; have f5_ := f3_.symm; clear f1_ f2_ f3_; subst f4_; subst f5_))
          obtain ⟨Ao23, co23, eo23⟩ := Kd.R_slice HO158.out
          (first | subst eo23 | (injection eo23 with f1_ f2_ f3_; have f4_ := f1_.symm; have f5_ := f3_.symm; clear f1_ f2_ f3_; subst f4_; subst f5_))
          obtain ⟨Ao24, co24, eo24⟩ := Kd.S_slice HO155.out
          (first | subst eo24 | (injection eo24 with f1_ f2_ f3_; have f4_ := f1_.symm; have f5_ := f3_.symm; clear f1_ f2_ f3_; subst f4_; subst f5_))
          refine hK.out _ _ ⟨bc_ BK150 0, bc_ BK150 1, bc_ BK150 2, bc_ BK150 3⟩ (fun hHeld => ?_)
          clear hK K
          refine nm_ ?_
          refine pI_ 5 14 HT_ #[true, true, true, true, true, true, true, false] rfl rfl ?_
          exact norm_ (qb0_) (hJ2_3_4_6 (.slice Ao24 y153.length co24, .slice Ao23 y156.length co23, .slice Ao22 y159.length co22, gb162) _ ⟨hHeld, (qb2_), (rq_ HO158.out), (rq_ HO161.out), (bq_ BK150.out), (bq_ BK151.out), (bq_ BK162.out), GW162.out, GE162.out, NB150_162.out, NB162_150.out, NB151_162.out, NB162_151.out, (hb_ HB.out)⟩)
        ·
         skip
         rintro ⟨v154, v157, gb162⟩ w19 ⟨hS_, h0_, h1_, h2_, h3_, h4_, h5_, h6_, h7_, h8_, h9_, h10_, h11_⟩
         have n0_ : Aside0 (Kd.S k_Row 26 w19 w.heap.size (fun _ => True) v154 y153) := ⟨h0_⟩
         have n1_ : Aside0 (Kd.R (Kd.int .i64) 3 w19 w.heap.size (fun _ => True) v157 y156) := ⟨h1_⟩
         have n2_ : Aside0 (w19.heap[gb150]? = some (.cells #[.int .i64 a0_0, .int .i64 a0_1, .int .i64 a0_2, .int .i64 a0_3] 82 (0, 0))) := ⟨h2_⟩
         have n3_ : Aside0 (w19.heap[gb151]? = some (.cells #[.slice none 0 0, .slice none 0 0, .slice none 0 0, .int .i64 0, .slice none 0 0, .slice none 0 0] 80 (0, 0))) := ⟨h3_⟩
         have n4_ : Aside0 (w19.heap[gb162]? = some (.cells #[.slice none 0 0, .slice none 0 0, .slice none 0 0, .int .i64 0, .slice none 0 0, .slice none 0 0] 80 (0, 0))) := ⟨h4_⟩
         have n5_ : Aside0 (w.heap.size ≤ gb162) := ⟨h5_⟩
         have n6_ : Aside0 (w.heap.size ≤ gb162) := ⟨h6_⟩
         have n7_ : Aside0 (gb150 ≠ gb162) := ⟨h7_⟩
         have n8_ : Aside0 (gb162 ≠ gb150) := ⟨h8_⟩
         have n9_ : Aside0 (gb151 ≠ gb162) := ⟨h9_⟩
         have n10_ : Aside0 (gb162 ≠ gb151) := ⟨h10_⟩
         have n11_ : Aside0 (Below w.heap.size w w19) := ⟨h11_⟩
         clear BK150
         clear BK151
         clear HB
         clear h0_ h1_ h2_ h3_ h4_ h5_ h6_ h7_ h8_ h9_ h10_ h11_
         have HO155 := n0_
         have HO158 := n1_
         have BK150 := n2_
         have BK151 := n3_
         have BK162 := n4_
         have GW162 := n5_
         have GE162 := n6_
         have NB150_162 := n7_
         have NB162_150 := n8_
         have NB151_162 := n9_
         have NB162_151 := n10_
         have HB := n11_
         clear n0_ n1_ n2_ n3_ n4_ n5_ n6_ n7_ n8_ n9_ n10_ n11_
         have hHeld : w19.cell? ⟨gb150, 0, none⟩ = some (.int .i64 a0_0) ∧ w19.cell? ⟨gb150, 1, none⟩ = some (.int .i64 a0_1) ∧ w19.cell? ⟨gb150, 2, none⟩ = some (.int .i64 a0_2) ∧ w19.cell? ⟨gb150, 3, none⟩ = some (.int .i64 a0_3) := hS_
         refine norm_ (a' := ?_) ?_ ?_
         rotate_left; (focus simp only [putAll, Act.put, List.setIfInBounds_toArray, List.set_cons_zero, List.set_cons_succ]; rfl)
         refine on_ 4 13 HT_ #[true, true, true, true, true, false, true, false] rfl rfl (fun K hK => ?_)
         refine Kd.R_make_step k_Answer _ 144 (by rfl) (N := 13) rfl 78 _ _ rfl 4 rfl rfl Try.underlying78 (.agg #[(.int .i64 0), (.int .i64 0), (.string ⟨#[]⟩), (.string ⟨#[]⟩)]) 48 info144 rfl (by decide) (by omega) z_Answer (ok := fun _ => True) (okp := fun _ => True) (k_Answer_mkM _ _ _ z_Answer ) (fun _ hk => hk) trivial (by omega) (by omega) (Below.refl _ _) (Nat.le_refl _) ?_
         intro v160 w20 ho21 hb hg_ hnew_
         clear hg_ hnew_
         (first | rw [← Ny159.out] at ho21 | (simp only [Int.reduceToNat] at ho21; rw [← Ny159.out] at ho21))
         have HO161 := Aside0.mk (Kd.R_lower ho21 (below_size (hb_ HB.out)))
         replace HO155 := Aside0.mk (Kd.S_below (qb2_) hb)
         replace HO158 := cr_ HO158 hb
         replace BK150 := cb_ BK150 hb
         replace BK151 := cb_ BK151 hb
         replace BK162 := cb_ BK162 hb
         replace HB := ch_ HB hb
         clear hb ho21
         obtain ⟨Ao22, co22, eo22⟩ := Kd.R_slice HO161.out
         (first | subst eo22 | (injection eo22 with f1_ f2_ f3_; have f4_ := f1_.symm; have f5_ := f3_.symm; clear f1_ f2_ f3_; subst f4_; subst f5_))
         obtain ⟨Ao23, co23, eo23⟩ := Kd.R_slice HO158.out
         (first | subst eo23 | (injection eo23 with f1_ f2_ f3_; have f4_ := f1_.symm; have f5_ := f3_.symm; clear f1_ f2_ f3_; subst f4_; subst f5_))
         obtain ⟨Ao24, co24, eo24⟩ := Kd.S_slice HO155.out
         (first | subst eo24 | (injection eo24 with f1_ f2_ f3_; have f4_ := f1_.symm; have f5_ := f3_.symm; clear f1_ f2_ f3_; subst f4_; subst f5_))
         refine hK.out _ _ ⟨bc_ BK150 0, bc_ BK150 1, bc_ BK150 2, bc_ BK150 3⟩ (fun hHeld => ?_)
         clear hK K
         refine nm_ ?_
         refine pI_ 5 14 HT_ #[true, true, true, true, true, true, true, false] rfl rfl ?_
         exact norm_ (qb0_) (hJ2_3_4_6 (.slice Ao24 y153.length co24, .slice Ao23 y156.length co23, .slice Ao22 y159.length co22, gb162) _ ⟨hHeld, (qb2_), (rq_ HO158.out), (rq_ HO161.out), (bq_ BK150.out), (bq_ BK151.out), (bq_ BK162.out), GW162.out, GE162.out, NB150_162.out, NB162_150.out, NB151_162.out, NB162_151.out, (hb_ HB.out)⟩)
       ·
        skip
        rintro ⟨v154, v157, v160⟩ w23 ⟨hS_, h0_, h1_, h2_, h3_, h4_, h5_⟩
        have n0_ : Aside0 (Kd.S k_Row 26 w23 w.heap.size (fun _ => True) v154 y153) := ⟨h0_⟩
        have n1_ : Aside0 (Kd.R (Kd.int .i64) 3 w23 w.heap.size (fun _ => True) v157 y156) := ⟨h1_⟩
        have n2_ : Aside0 (Kd.R k_Answer 144 w23 w.heap.size (fun _ => True) v160 y159) := ⟨h2_⟩
        have n3_ : Aside0 (w23.heap[gb150]? = some (.cells #[.int .i64 a0_0, .int .i64 a0_1, .int .i64 a0_2, .int .i64 a0_3] 82 (0, 0))) := ⟨h3_⟩
        have n4_ : Aside0 (w23.heap[gb151]? = some (.cells #[.slice none 0 0, .slice none 0 0, .slice none 0 0, .int .i64 0, .slice none 0 0, .slice none 0 0] 80 (0, 0))) := ⟨h4_⟩
        have n5_ : Aside0 (Below w.heap.size w w23) := ⟨h5_⟩
        clear BK150
        clear BK151
        clear HB
        clear h0_ h1_ h2_ h3_ h4_ h5_
        have HO155 := n0_
        have HO158 := n1_
        have HO161 := n2_
        have BK150 := n3_
        have BK151 := n4_
        have HB := n5_
        clear n0_ n1_ n2_ n3_ n4_ n5_
        have hHeld : w23.cell? ⟨gb150, 0, none⟩ = some (.int .i64 a0_0) ∧ w23.cell? ⟨gb150, 1, none⟩ = some (.int .i64 a0_1) ∧ w23.cell? ⟨gb150, 2, none⟩ = some (.int .i64 a0_2) ∧ w23.cell? ⟨gb150, 3, none⟩ = some (.int .i64 a0_3) := hS_
        obtain ⟨Ao24, co24, eo24⟩ := Kd.R_slice HO161.out
        (first | subst eo24 | (injection eo24 with f1_ f2_ f3_; have f4_ := f1_.symm; have f5_ := f3_.symm; clear f1_ f2_ f3_; subst f4_; subst f5_))
        obtain ⟨Ao25, co25, eo25⟩ := Kd.R_slice HO158.out
        (first | subst eo25 | (injection eo25 with f1_ f2_ f3_; have f4_ := f1_.symm; have f5_ := f3_.symm; clear f1_ f2_ f3_; subst f4_; subst f5_))
        obtain ⟨Ao26, co26, eo26⟩ := Kd.S_slice HO155.out
        (first | subst eo26 | (injection eo26 with f1_ f2_ f3_; have f4_ := f1_.symm; have f5_ := f3_.symm; clear f1_ f2_ f3_; subst f4_; subst f5_))
        refine norm_ (a' := ?_) ?_ ?_
        rotate_left; (focus simp only [putAll, Act.put, List.setIfInBounds_toArray, List.set_cons_zero, List.set_cons_succ]; rfl)
        refine on_ 6 3 HT_ #[true, true, true, true, true, true, true, false] rfl rfl (fun K hK => ?_)
        refine box_step ?hg (N := 3) ?hd (cs := #[.slice none 0 0, .slice none 0 0, .slice none 0 0, .int .i64 0, .slice none 0 0, .slice none 0 0]) (t := 80) ?hr ?_; (case hd => rfl); (case hg => rfl); (case hr => first | (go_simp; done) | (go_simp; rfl))
        intro gb162 hg w27 hbox hb
        have BK162 := Aside0.mk (hbox)
        have GW162 := cz_ HB hg
        have GE162 := cz_ HB hg
        have NB150_162 := cn_ BK150 hg
        have NB162_150 := cm_ BK150 hg
        have NB151_162 := cn_ BK151 hg
        have NB162_151 := cm_ BK151 hg
        replace HO155 := Aside0.mk (Kd.S_below (qb2_) hb)
        replace HO158 := cr_ HO158 hb
        replace HO161 := cr_ HO161 hb
        replace BK150 := cb_ BK150 hb
        replace BK151 := cb_ BK151 hb
        replace HB := ch_ HB hb
        clear hb hbox hg
        refine hK.out _ _ ⟨bc_ BK150 0, bc_ BK150 1, bc_ BK150 2, bc_ BK150 3⟩ (fun hHeld => ?_)
        clear hK K
        refine nm_ ?_
        exact norm_ (qb0_) (hJ2_3_4_6 (.slice Ao26 y153.length co26, .slice Ao25 y156.length co25, .slice Ao24 y159.length co24, gb162) _ ⟨hHeld, (qb2_), (rq_ HO158.out), (rq_ HO161.out), (bq_ BK150.out), (bq_ BK151.out), (bq_ BK162.out), GW162.out, GE162.out, NB150_162.out, NB162_150.out, NB151_162.out, NB162_151.out, (hb_ HB.out)⟩)
      rintro ⟨v154, v157, v160, gb162⟩ w24 ⟨hS_, h0_, h1_, h2_, h3_, h4_, h5_, h6_, h7_, h8_, h9_, h10_, h11_, h12_⟩
      have n0_ : Aside0 (Kd.S k_Row 26 w24 w.heap.size (fun _ => True) v154 y153) := ⟨h0_⟩
      have n1_ : Aside0 (Kd.R (Kd.int .i64) 3 w24 w.heap.size (fun _ => True) v157 y156) := ⟨h1_⟩
      have n2_ : Aside0 (Kd.R k_Answer 144 w24 w.heap.size (fun _ => True) v160 y159) := ⟨h2_⟩
      have n3_ : Aside0 (w24.heap[gb150]? = some (.cells #[.int .i64 a0_0, .int .i64 a0_1, .int .i64 a0_2, .int .i64 a0_3] 82 (0, 0))) := ⟨h3_⟩
      have n4_ : Aside0 (w24.heap[gb151]? = some (.cells #[.slice none 0 0, .slice none 0 0, .slice none 0 0, .int .i64 0, .slice none 0 0, .slice none 0 0] 80 (0, 0))) := ⟨h4_⟩
      have n5_ : Aside0 (w24.heap[gb162]? = some (.cells #[.slice none 0 0, .slice none 0 0, .slice none 0 0, .int .i64 0, .slice none 0 0, .slice none 0 0] 80 (0, 0))) := ⟨h5_⟩
      have n6_ : Aside0 (w.heap.size ≤ gb162) := ⟨h6_⟩
      have n7_ : Aside0 (w.heap.size ≤ gb162) := ⟨h7_⟩
      have n8_ : Aside0 (gb150 ≠ gb162) := ⟨h8_⟩
      have n9_ : Aside0 (gb162 ≠ gb150) := ⟨h9_⟩
      have n10_ : Aside0 (gb151 ≠ gb162) := ⟨h10_⟩
      have n11_ : Aside0 (gb162 ≠ gb151) := ⟨h11_⟩
      have n12_ : Aside0 (Below w.heap.size w w24) := ⟨h12_⟩
      clear BK150
      clear BK151
      clear HB
      clear h0_ h1_ h2_ h3_ h4_ h5_ h6_ h7_ h8_ h9_ h10_ h11_ h12_
      have HO155 := n0_
      have HO158 := n1_
      have HO161 := n2_
      have BK150 := n3_
      have BK151 := n4_
      have BK162 := n5_
      have GW162 := n6_
      have GE162 := n7_
      have NB150_162 := n8_
      have NB162_150 := n9_
      have NB151_162 := n10_
      have NB162_151 := n11_
      have HB := n12_
      clear n0_ n1_ n2_ n3_ n4_ n5_ n6_ n7_ n8_ n9_ n10_ n11_ n12_
      have hHeld : w24.cell? ⟨gb150, 0, none⟩ = some (.int .i64 a0_0) ∧ w24.cell? ⟨gb150, 1, none⟩ = some (.int .i64 a0_1) ∧ w24.cell? ⟨gb150, 2, none⟩ = some (.int .i64 a0_2) ∧ w24.cell? ⟨gb150, 3, none⟩ = some (.int .i64 a0_3) := hS_
      obtain ⟨Ao25, co25, eo25⟩ := Kd.R_slice HO161.out
      (first | subst eo25 | (injection eo25 with f1_ f2_ f3_; have f4_ := f1_.symm; have f5_ := f3_.symm; clear f1_ f2_ f3_; subst f4_; subst f5_))
      obtain ⟨Ao26, co26, eo26⟩ := Kd.R_slice HO158.out
      (first | subst eo26 | (injection eo26 with f1_ f2_ f3_; have f4_ := f1_.symm; have f5_ := f3_.symm; clear f1_ f2_ f3_; subst f4_; subst f5_))
      obtain ⟨Ao27, co27, eo27⟩ := Kd.S_slice HO155.out
      (first | subst eo27 | (injection eo27 with f1_ f2_ f3_; have f4_ := f1_.symm; have f5_ := f3_.symm; clear f1_ f2_ f3_; subst f4_; subst f5_))
      refine norm_ (a' := ?_) ?_ ?_
      rotate_left; (focus simp only [putAll, Act.put, List.setIfInBounds_toArray, List.set_cons_zero, List.set_cons_succ]; rfl)
      refine one_ (i := 7) (N := none) #[true, true, true, true, true, true, true, true] rfl rfl (one_of HT_.out (by kernel_rfl)) (by decide) (fun K hK => ?_)
      have hs28 : w24.cell? ⟨gb162, 0, none⟩ = some (.slice none 0 0) := bc_ BK162 0
      have hfs28 := blk_frozen BK162.out 0
      have hns28_0 := NB150_162.out
      have hns28_1 := NB151_162.out
      have hms28_0 := NB162_150.out
      have hms28_1 := NB162_151.out
      have hs29 : w24.cell? ⟨gb162, 1, none⟩ = some (.slice none 0 0) := bc_ BK162 1
      have hfs29 := blk_frozen BK162.out 1
      have hns29_0 := NB150_162.out
      have hns29_1 := NB151_162.out
      have hms29_0 := NB162_150.out
      have hms29_1 := NB162_151.out
      have hs30 : w24.cell? ⟨gb162, 2, none⟩ = some (.slice none 0 0) := bc_ BK162 2
      have hfs30 := blk_frozen BK162.out 2
      have hns30_0 := NB150_162.out
      have hns30_1 := NB151_162.out
      have hms30_0 := NB162_150.out
      have hms30_1 := NB162_151.out
      have hs31 : w24.cell? ⟨gb162, 3, none⟩ = some (.int .i64 0) := bc_ BK162 3
      have hfs31 := blk_frozen BK162.out 3
      have hns31_0 := NB150_162.out
      have hns31_1 := NB151_162.out
      have hms31_0 := NB162_150.out
      have hms31_1 := NB162_151.out
      have hs32 : w24.cell? ⟨gb162, 4, none⟩ = some (.slice none 0 0) := bc_ BK162 4
      have hfs32 := blk_frozen BK162.out 4
      have hns32_0 := NB150_162.out
      have hns32_1 := NB151_162.out
      have hms32_0 := NB162_150.out
      have hms32_1 := NB162_151.out
      have hs33 : w24.cell? ⟨gb162, 5, none⟩ = some (.slice none 0 0) := bc_ BK162 5
      have hfs33 := blk_frozen BK162.out 5
      have hns33_0 := NB150_162.out
      have hns33_1 := NB151_162.out
      have hms33_0 := NB162_150.out
      have hms33_1 := NB162_151.out
      refine skip_ (w1 := ?_) (by rfl) rfl ?_ ?_
      rotate_left; (focus go_simp; rfl)
      refine hK.out _ _ ⟨(cfs_ NB150_162.out (hHeld.1)), (cfs_ NB150_162.out (hHeld.2.1)), (cfs_ NB150_162.out (hHeld.2.2.1)), (cfs_ NB150_162.out (hHeld.2.2.2))⟩ (fun hHeld => ?_)
      clear hK K
      refine done_ (done_of HT_.out (by kernel_rfl)) ?_
      try go_wp2
      go_loopg [4] k (fun kq v4 w' => ∃ (x4_1 : Int) (x163002_1 : List (S_Group)) (u163002 : Value), v4 = .int .i64 x4_1 ∧ Aside0 (impl_KeepNew.l0 kq x4_1 a0_0 a0_1 a0_2 a0_3 y153 x163002_1 0 y156 y159 = some (r1, r2, r3, r4, r5, r6)) ∧ Aside0 (kq ≤ k) ∧ Aside0 (Kd.S k_Row 26 w' w.heap.size (fun _ => True) (.slice Ao27 y153.length co27) y153) ∧ Aside0 (Kd.S k_Group 115 w' w.heap.size (fun k_ => some k_ ≠ ((.slice Ao26 y156.length co26) : Value).ownBlock) u163002 x163002_1) ∧ Aside0 (Kd.R (Kd.int .i64) 3 w' w.heap.size (fun _ => True) (.slice Ao26 y156.length co26) y156) ∧ Aside0 (Kd.R k_Answer 144 w' w.heap.size (fun _ => True) (.slice Ao25 y159.length co25) y159) ∧ Aside0 (w'.heap[gb150]? = some (.cells #[.int .i64 a0_0, .int .i64 a0_1, .int .i64 a0_2, .int .i64 a0_3] 82 (0, 0))) ∧ Aside0 (w'.heap[gb151]? = some (.cells #[(.slice none 0 0), (.slice none 0 0), (.slice none 0 0), .int .i64 0, (.slice none 0 0), (.slice none 0 0)] 80 (0, 0))) ∧ Aside0 (w'.heap[gb162]? = some (.cells #[(.slice Ao27 y153.length co27), (.slice none 0 0), u163002, .int .i64 0, (.slice Ao26 y156.length co26), (.slice Ao25 y159.length co25)] 80 (0, 0))) ∧ Aside0 (Below w.heap.size w w'))
      case atStart => exact ⟨(0), (([] : List (S_Group))), (.slice none 0 0), (by first | rfl | (simp; done) | (simp [*]; done)), H', ⟨Nat.le_refl _⟩, ⟨by (with_reducible repeat (first | apply Kd.S_alloc | apply Kd.S_drewN | apply Kd.S_drew)); exact Kd.S_mono (Kd.S_far (p := ⟨gb162, 5, none⟩) (Kd.S_far (p := ⟨gb162, 4, none⟩) (Kd.S_far (p := ⟨gb162, 3, none⟩) (Kd.S_far (p := ⟨gb162, 2, none⟩) (Kd.S_far (p := ⟨gb162, 1, none⟩) (Kd.S_far (p := ⟨gb162, 0, none⟩) (Kd.S_types HO155.out BK162.out (by decide)) (fun _ hk => hk.2) (.slice Ao27 y153.length co27)) (fun _ hk => hk.2) (.slice none 0 0)) (fun _ hk => hk.2) (.slice none 0 0)) (fun _ hk => hk.2) (.int .i64 0)) (fun _ hk => hk.2) (.slice Ao26 y156.length co26)) (fun _ hk => hk.2) (.slice Ao25 y159.length co25)) (fun _ hk => trivial)⟩, ⟨qb8_⟩, ⟨by (with_reducible repeat (first | apply Kd.R_alloc | apply Kd.R_drewN | apply Kd.R_drew)); exact Kd.R_mono (Kd.R_far (p := ⟨gb162, 5, none⟩) (Kd.R_far (p := ⟨gb162, 4, none⟩) (Kd.R_far (p := ⟨gb162, 3, none⟩) (Kd.R_far (p := ⟨gb162, 2, none⟩) (Kd.R_far (p := ⟨gb162, 1, none⟩) (Kd.R_far (p := ⟨gb162, 0, none⟩) (Kd.R_types HO158.out BK162.out (by decide)) (fun _ hk => hk.2) (.slice Ao27 y153.length co27)) (fun _ hk => hk.2) (.slice none 0 0)) (fun _ hk => hk.2) (.slice none 0 0)) (fun _ hk => hk.2) (.int .i64 0)) (fun _ hk => hk.2) (.slice Ao26 y156.length co26)) (fun _ hk => hk.2) (.slice Ao25 y159.length co25)) (fun _ hk => trivial)⟩, ⟨by (with_reducible repeat (first | apply Kd.R_alloc | apply Kd.R_drewN | apply Kd.R_drew)); exact Kd.R_mono (Kd.R_far (p := ⟨gb162, 5, none⟩) (Kd.R_far (p := ⟨gb162, 4, none⟩) (Kd.R_far (p := ⟨gb162, 3, none⟩) (Kd.R_far (p := ⟨gb162, 2, none⟩) (Kd.R_far (p := ⟨gb162, 1, none⟩) (Kd.R_far (p := ⟨gb162, 0, none⟩) (Kd.R_types HO161.out BK162.out (by decide)) (fun _ hk => hk.2) (.slice Ao27 y153.length co27)) (fun _ hk => hk.2) (.slice none 0 0)) (fun _ hk => hk.2) (.slice none 0 0)) (fun _ hk => hk.2) (.int .i64 0)) (fun _ hk => hk.2) (.slice Ao26 y156.length co26)) (fun _ hk => hk.2) (.slice Ao25 y159.length co25)) (fun _ hk => trivial)⟩, ⟨bf_ NB150_162.out BK150.out⟩, ⟨bf_ NB151_162.out BK151.out⟩, ⟨bp_ BK162.out⟩, ⟨hb_ HB.out⟩⟩
      case round =>
       clear H'
       try clear p2
       obtain ⟨x4_1, x163002_1, u163002, rfl, HA, HK1, HO_163000, HO_163002, HO_163004, HO_163005, BK150, BK151, BK162, HB⟩ := hrel
       cases gk with
       | zero => exact absurd HA.out (by simp [impl_KeepNew.l0])
       | succ k1 =>
        have H := HA.out
        clear HA
        simp only [impl_KeepNew.l0] at H
        by_cases c34 : x4_1 < 2
        ·
         rw [if_pos c34] at H
         have c34b0 : decide (x4_1 < 2) = true := decide_eq_true c34
         clear c34
         replace H := Option.bind_eq_some_iff.mp H
         obtain ⟨⟨t163, t164, t167, t170⟩, A350, H⟩ := H
         replace H : (if x163002_1.length < 1759218604441 then (impl_KeepNew.l0 k1 (wrap64 (x4_1 + 1)) a0_0 a0_1 a0_2 a0_3 y153 (x163002_1 ++ [(⟨t163, t164, t167, t170⟩ : S_Group)]) 0 y156 y159) else (none)) = some (r1, r2, r3, r4, r5, r6) := H
         have A35 := Aside0.mk A350
         clear A350
         by_cases c36 : x163002_1.length < 1759218604441
         ·
          rw [if_pos c36] at H
          have LMc36 := Aside0.mk c36
          clear c36
          obtain ⟨y173, hy173⟩ : ∃ y_ : List (S_Group), y_ = (x163002_1 ++ [(⟨t163, t164, t167, t170⟩ : S_Group)]) := ⟨_, rfl⟩
          replace H : (impl_KeepNew.l0 k1 (wrap64 (x4_1 + 1)) a0_0 a0_1 a0_2 a0_3 y153 y173 0 y156 y159) = some (r1, r2, r3, r4, r5, r6) := by first | (rw [hy173]; with_reducible exact H) | (have H2_ := (Option.bind_some _ _).symm.trans H; rw [hy173]; with_reducible exact H2_) | (have H2_ := (Option.bind_some _ _).symm.trans H; with_reducible exact H2_) | with_reducible exact H | (rw [hy173]; exact H) | exact H
          have Ny173 := Aside0.mk hy173
          clear hy173
          have H' := Aside0.mk H
          clear H
          try go_wp2
          replace HO_163000 := Aside0.mk (Kd.S_drew HO_163000.out)
          replace HO_163002 := Aside0.mk (Kd.S_drew HO_163002.out)
          replace HO_163004 := Aside0.mk (Kd.R_drew HO_163004.out)
          replace HO_163005 := Aside0.mk (Kd.R_drew HO_163005.out)
          replace BK150 := Aside0.mk (blk_drew BK150.out)
          replace BK151 := Aside0.mk (blk_drew BK151.out)
          replace BK162 := Aside0.mk (blk_drew BK162.out)
          replace HB := Aside0.mk (below_drew1 HB.out)
          refine start_ (n := 9) (S := fun w' => w'.cell? ⟨gb162, 0, none⟩ = some (.slice Ao27 y153.length co27) ∧ w'.cell? ⟨gb162, 1, none⟩ = some (.slice none 0 0) ∧ w'.cell? ⟨gb162, 2, none⟩ = some (u163002) ∧ w'.cell? ⟨gb162, 3, none⟩ = some (.int .i64 0) ∧ w'.cell? ⟨gb162, 4, none⟩ = some (.slice Ao26 y156.length co26) ∧ w'.cell? ⟨gb162, 5, none⟩ = some (.slice Ao25 y159.length co25) ∧ w'.cell? ⟨gb150, 0, none⟩ = some (.int .i64 a0_0) ∧ w'.cell? ⟨gb150, 1, none⟩ = some (.int .i64 a0_1) ∧ w'.cell? ⟨gb150, 2, none⟩ = some (.int .i64 a0_2) ∧ w'.cell? ⟨gb150, 3, none⟩ = some (.int .i64 a0_3)) (ds := [8]) #[false, false, false, false, false, false, false, false, false] (by kernel_rfl) rfl rfl ⟨bc_ BK162 0, bc_ BK162 1, bc_ BK162 2, bc_ BK162 3, bc_ BK162 4, bc_ BK162 5, bc_ BK150 0, bc_ BK150 1, bc_ BK150 2, bc_ BK150 3⟩ (fun hHeld => ?_); refine with_tabW impl_KeepNew.tab7 impl_KeepNew.bits7 (fun HT_ HW_ => ?_)
          generalize wr.drew = w37 at HO_163000 HO_163002 HO_163004 HO_163005 BK150 BK151 BK162 HB hHeld ⊢
          refine pI_ 0 19 HT_ #[true, false, false, false, false, false, false, false, false] rfl rfl ?_
          refine pI_ 2 21 HT_ #[true, false, true, false, false, false, false, false, false] rfl rfl ?_
          refine tk_ 1 20 HT_ HW_ #[true, true, true, false, false, false, false, false, false] rfl rfl hHeld ?_
          refine tk_ 3 22 HT_ HW_ #[true, true, true, true, false, false, false, false, false] rfl rfl hHeld ?_
          refine on_ 4 23 HT_ #[true, true, true, true, true, false, false, false, false] rfl rfl (fun K hK => ?_)
          refine goes_ Try.func83 (by kernel_rfl) rfl #[.int .i64 a0_0] (by rfl) rfl rfl sm_ ?_
          with_reducible refine (impl_GroupNew.calls a0_0 t163 t164 t167 t170 _ A35.out).mono ?_
          rintro e w38 ⟨v165, v168, v171, rfl, ho0, ho1, ho2, hb⟩
          refine ⟨_, rfl, ?_⟩
          have HO166 := Aside0.mk (Kd.R_lower (Kd.R_new' ho0 (Kd.R_lt (rq_ HO_163004.out))) (below_size (hb_ HB.out)))
          have HO169 := Aside0.mk (Kd.R_lower (Kd.R_new' ho1 (Kd.R_lt (rq_ HO_163004.out))) (below_size (hb_ HB.out)))
          have HO172 := Aside0.mk (Kd.R_lower (Kd.R_new' ho2 (Kd.R_lt (rq_ HO_163004.out))) (below_size (hb_ HB.out)))
          replace HO_163000 := Aside0.mk (Kd.S_below (by (with_reducible repeat (first | apply Kd.S_alloc | apply Kd.S_drewN | apply Kd.S_drew)); exact HO_163000.out) hb)
          replace HO_163002 := Aside0.mk (Kd.S_mono (Kd.S_told (Kd.S_told (Kd.S_told (Kd.S_old (qb11_) hb) (Kd.R_base ho0)) (Kd.R_base ho1)) (Kd.R_base ho2)) (fun _ h_ => h_.1))
          replace HO_163004 := Aside0.mk (Kd.R_mono (Kd.R_told (Kd.R_told (Kd.R_told (Kd.R_old (rq_ HO_163004.out) hb) (Kd.R_base ho0)) (Kd.R_base ho1)) (Kd.R_base ho2)) (fun _ h_ => h_.1))
          replace HO_163005 := cr_ HO_163005 hb
          replace BK150 := cb_ BK150 hb
          replace BK151 := cb_ BK151 hb
          replace BK162 := cb_ BK162 hb
          replace HB := ch_ HB hb
          (try clear hb); (try clear hb2); (try clear hk); (try clear hi); (try clear ho0); (try clear ho1); (try clear ho2)
          obtain ⟨Ao40, co40, eo40⟩ := Kd.R_slice HO166.out
          (first | subst eo40 | (injection eo40 with f1_ f2_ f3_; have f4_ := f1_.symm; have f5_ := f3_.symm; clear f1_ f2_ f3_; subst f4_; subst f5_))
          obtain ⟨Ao41, co41, eo41⟩ := Kd.R_slice HO169.out
          (first | subst eo41 | (injection eo41 with f1_ f2_ f3_; have f4_ := f1_.symm; have f5_ := f3_.symm; clear f1_ f2_ f3_; subst f4_; subst f5_))
          obtain ⟨Ao42, co42, eo42⟩ := Kd.R_slice HO172.out
          (first | subst eo42 | (injection eo42 with f1_ f2_ f3_; have f4_ := f1_.symm; have f5_ := f3_.symm; clear f1_ f2_ f3_; subst f4_; subst f5_))
          refine hK.out _ _ ⟨bc_ BK162 0, bc_ BK162 1, bc_ BK162 2, bc_ BK162 3, bc_ BK162 4, bc_ BK162 5, bc_ BK150 0, bc_ BK150 1, bc_ BK150 2, bc_ BK150 3⟩ (fun hHeld => ?_)
          clear hK K
          refine nm_ ?_
          refine on_ 5 24 HT_ #[true, true, true, true, true, true, false, false, false] rfl rfl (fun K hK => ?_)
          refine value_ (w1 := ?_) (v := ?_) (by rfl) rfl ?_ ?_
          rotate_left 2
          ·
           go_simp
           constructor
           ·
            rfl
           ·
            rfl
          refine hK.out _ _ ⟨(blk_cell (blk_alloc BK162.out _) 0).trans rfl, (blk_cell (blk_alloc BK162.out _) 1).trans rfl, (blk_cell (blk_alloc BK162.out _) 2).trans rfl, (blk_cell (blk_alloc BK162.out _) 3).trans rfl, (blk_cell (blk_alloc BK162.out _) 4).trans rfl, (blk_cell (blk_alloc BK162.out _) 5).trans rfl, (blk_cell (blk_alloc BK150.out _) 0).trans rfl, (blk_cell (blk_alloc BK150.out _) 1).trans rfl, (blk_cell (blk_alloc BK150.out _) 2).trans rfl, (blk_cell (blk_alloc BK150.out _) 3).trans rfl⟩ (fun hHeld => ?_)
          clear hK K
          refine nm_ ?_
          refine on_ 6 25 HT_ #[true, true, true, true, true, true, true, false, false] rfl rfl (fun K hK => ?_)
          refine Kd.S_append_step k_Group (w0 := w) w.heap.size (by rfl) (.tmp 20) (.tmp 24) 76 115 (.agg #[(.int .i64 0), (.slice none 0 0), (.slice none 0 0), (.slice none 0 0)]) 80 rfl Try.underlying76 info115 rfl (by decide) (by omega) u163002 x163002_1 (⟨t163, t164, t167, t170⟩ : S_Group) [.int .i64 t163, .slice Ao40 t164.length co40, .slice Ao41 t167.length co41, .slice Ao42 t170.length co42] (fun k_ => some k_ ≠ (.slice Ao26 y156.length co26 : Value).ownBlock) (fun k_ => some k_ = (.slice Ao40 t164.length co40 : Value).ownBlock ∨ some k_ = (.slice Ao41 t167.length co41 : Value).ownBlock ∨ some k_ = (.slice Ao42 t170.length co42 : Value).ownBlock) rfl rfl ?aP (fun k_ hk_ => hk_.elim (fun h_ => ((Kd.R_mono (ok' := fun k_ => ((fun k_ => some k_ ≠ (.slice Ao26 y156.length co26 : Value).ownBlock)) k_ ∧ some k_ ≠ (u163002 : Value).ownBlock) (Kd.R_apart' (HO166.out) (Kd.S_typed HO_163002.out) (by decide)) (fun k_ hk => ⟨hk.1.2, hk.2⟩))).1 k_ h_.symm) (fun h_ => h_.elim (fun h_ => ((Kd.R_mono (ok' := fun k_ => ((fun k_ => some k_ ≠ (.slice Ao26 y156.length co26 : Value).ownBlock)) k_ ∧ some k_ ≠ (u163002 : Value).ownBlock) (Kd.R_apart' (HO169.out) (Kd.S_typed HO_163002.out) (by decide)) (fun k_ hk => ⟨hk.1.2, hk.2⟩))).1 k_ h_.symm) (fun h_ => ((Kd.R_mono (ok' := fun k_ => ((fun k_ => some k_ ≠ (.slice Ao26 y156.length co26 : Value).ownBlock)) k_ ∧ some k_ ≠ (u163002 : Value).ownBlock) (Kd.R_apart' (HO172.out) (Kd.S_typed HO_163002.out) (by decide)) (fun k_ hk => ⟨hk.1.2, hk.2⟩))).1 k_ h_.symm))) ?aF ?aO ?aB ?aS ?aL ?_
          (case aP => exact k_Group_mkM _ _ _ (⟨t163, t164, t167, t170⟩ : S_Group) (Kd.R_mono (Kd.R_tight rfl (Kd.R_mono (ok' := fun k_ => ((fun k_ => some k_ ≠ (.slice Ao26 y156.length co26 : Value).ownBlock)) k_ ∧ some k_ ≠ (u163002 : Value).ownBlock) (Kd.R_apart' (HO166.out) (Kd.S_typed HO_163002.out) (by decide)) (fun k_ hk => ⟨hk.1.2, hk.2⟩))) (fun _ h_ => Or.inl h_)) (Kd.R_mono (Kd.R_tight rfl (Kd.R_mono (ok' := fun k_ => ((fun k_ => some k_ ≠ (.slice Ao26 y156.length co26 : Value).ownBlock)) k_ ∧ some k_ ≠ (u163002 : Value).ownBlock) (Kd.R_apart' (HO169.out) (Kd.S_typed HO_163002.out) (by decide)) (fun k_ hk => ⟨hk.1.2, hk.2⟩))) (fun _ h_ => Or.inr (Or.inl h_))) (Kd.R_mono (Kd.R_tight rfl (Kd.R_mono (ok' := fun k_ => ((fun k_ => some k_ ≠ (.slice Ao26 y156.length co26 : Value).ownBlock)) k_ ∧ some k_ ≠ (u163002 : Value).ownBlock) (Kd.R_apart' (HO172.out) (Kd.S_typed HO_163002.out) (by decide)) (fun k_ hk => ⟨hk.1.2, hk.2⟩))) (fun _ h_ => Or.inr (Or.inr (h_)))) ⟨fun k_ h_ => by have q_ := HO166.out.1 k_ h_; first | exact q_ | exact q_.1 | exact q_.2 | exact q_.1.1 | exact q_.1.2 | exact q_.2.1 | exact q_.2.2 | exact q_.1.1.1 | exact q_.1.1.2 | exact q_.1.2.1 | exact q_.1.2.2, fun k_ h_ => by have q_ := HO166.out.1 k_ h_; first | exact q_ | exact q_.1 | exact q_.2 | exact q_.1.1 | exact q_.1.2 | exact q_.2.1 | exact q_.2.2 | exact q_.1.1.1 | exact q_.1.1.2 | exact q_.1.2.1 | exact q_.1.2.2, fun k_ h_ => by have q_ := HO169.out.1 k_ h_; first | exact q_ | exact q_.1 | exact q_.2 | exact q_.1.1 | exact q_.1.2 | exact q_.2.1 | exact q_.2.2 | exact q_.1.1.1 | exact q_.1.1.2 | exact q_.1.2.1 | exact q_.1.2.2⟩)
          (case aB => exact (hb_ HB.out))
          (case aF => exact (fun k_ hk => Kd.fresh' (Kd.R_lt (rq_ HO_163004.out)) k_ hk))
          (case aO => exact (by (with_reducible repeat (first | apply Kd.S_alloc | apply Kd.S_drewN | apply Kd.S_drew)); exact Kd.S_mono HO_163002.out (fun k_ hk => ⟨hk.1.1.1, fun e_ => e_.elim (fun h_ => hk.1.1.2 h_) (fun h_ => h_.elim (fun h_ => hk.1.2 h_) (fun h_ => hk.2 h_))⟩)))
          (case aS => exact (below_size (hb_ HB.out)))
          (case aL => have := LMc36.out; omega)
          intro v174 w39 ho hb hg hat
          rw [← Ny173.out] at ho
          have HO175 := Aside0.mk (ho)
          replace HO_163000 := Aside0.mk (Kd.S_over' (by (with_reducible repeat (first | apply Kd.S_alloc | apply Kd.S_drewN | apply Kd.S_drew)); exact HO_163000.out) (Kd.S_typed (qb11_)) (by decide) hg)
          replace HO_163004 := Aside0.mk (Kd.R_over' (rq_ HO_163004.out) (Kd.S_typed (qb11_)) (by decide) hg)
          replace HO_163005 := Aside0.mk (Kd.R_over' (rq_ HO_163005.out) (Kd.S_typed (qb11_)) (by decide) hg)
          replace BK150 := Aside0.mk (blk_grown (g := gb150) (o := .cells #[.int .i64 a0_0, .int .i64 a0_1, .int .i64 a0_2, .int .i64 a0_3] 82 (0, 0)) (bq_ BK150.out) hg (Kd.S_ne HO_163002.out BK150.out (by decide)))
          replace BK151 := Aside0.mk (blk_grown (g := gb151) (o := .cells #[.slice none 0 0, .slice none 0 0, .slice none 0 0, .int .i64 0, .slice none 0 0, .slice none 0 0] 80 (0, 0)) (bq_ BK151.out) hg (Kd.S_ne HO_163002.out BK151.out (by decide)))
          replace BK162 := Aside0.mk (blk_grown (g := gb162) (o := .cells #[.slice Ao27 y153.length co27, .slice none 0 0, u163002, .int .i64 0, .slice Ao26 y156.length co26, .slice Ao25 y159.length co25] 80 (0, 0)) (bq_ BK162.out) hg (Kd.S_ne HO_163002.out BK162.out (by decide)))
          replace HB := Aside0.mk (hb)
          clear HO_163002 HO166 HO169 HO172
          clear ho hb hg hat
          obtain ⟨Ao43, co43, eo43⟩ := Kd.S_slice HO175.out
          (first | subst eo43 | (injection eo43 with f1_ f2_ f3_; have f4_ := f1_.symm; have f5_ := f3_.symm; clear f1_ f2_ f3_; subst f4_; subst f5_))
          refine hK.out _ _ ⟨bc_ BK162 0, bc_ BK162 1, bc_ BK162 2, bc_ BK162 3, bc_ BK162 4, bc_ BK162 5, bc_ BK150 0, bc_ BK150 1, bc_ BK150 2, bc_ BK150 3⟩ (fun hHeld => ?_)
          clear hK K
          refine nm_ ?_
          refine pI_ 7 26 HT_ #[true, true, true, true, true, true, true, true, false] rfl rfl ?_
          refine last_ (i := 8) (N := none) #[true, true, true, true, true, true, true, true, true] rfl rfl (one_of HT_.out (by kernel_rfl)) (by decide) (fun K hK => ?_)
          have hs44 : w39.cell? ⟨gb162, 2, none⟩ = some (u163002) := bc_ BK162 2
          have hfs44 := blk_frozen BK162.out 2
          have hns44_0 := NB150_162.out
          have hns44_1 := NB151_162.out
          have hms44_0 := NB162_150.out
          have hms44_1 := NB162_151.out
          refine skip_ (w1 := ?_) (by rfl) rfl ?_ ?_
          rotate_left; (focus go_simp; rfl)
          refine hK.out _ _ ?_
          clear hK K
          refine done_ (done_of HT_.out (by kernel_rfl)) ?_
          try go_wp2
          go_roundg k1
          case measure => have := HK1.out; omega
          case rel => exact ⟨(wrap64 (x4_1 + 1)), (y173), (.slice Ao43 y173.length co43), (by first | rfl | (simp; done) | (simp [*]; done)), H', ⟨by have := HK1.out; omega⟩, ⟨by (with_reducible repeat (first | apply Kd.S_alloc | apply Kd.S_drewN | apply Kd.S_drew)); exact Kd.S_mono (Kd.S_far (p := ⟨gb162, 2, none⟩) (Kd.S_types HO_163000.out BK162.out (by decide)) (fun _ hk => hk.2) (.slice Ao43 y173.length co43)) (fun _ hk => trivial)⟩, ⟨by (with_reducible repeat (first | apply Kd.S_alloc | apply Kd.S_drewN | apply Kd.S_drew)); exact Kd.S_mono (Kd.S_far (p := ⟨gb162, 2, none⟩) (Kd.S_types HO175.out BK162.out (by decide)) (fun _ hk => hk.2) (.slice Ao43 y173.length co43)) (fun _ hk => hk.1)⟩, ⟨by (with_reducible repeat (first | apply Kd.R_alloc | apply Kd.R_drewN | apply Kd.R_drew)); exact Kd.R_mono (Kd.R_far (p := ⟨gb162, 2, none⟩) (Kd.R_types HO_163004.out BK162.out (by decide)) (fun _ hk => hk.2) (.slice Ao43 y173.length co43)) (fun _ hk => trivial)⟩, ⟨by (with_reducible repeat (first | apply Kd.R_alloc | apply Kd.R_drewN | apply Kd.R_drew)); exact Kd.R_mono (Kd.R_far (p := ⟨gb162, 2, none⟩) (Kd.R_types HO_163005.out BK162.out (by decide)) (fun _ hk => hk.2) (.slice Ao43 y173.length co43)) (fun _ hk => trivial)⟩, ⟨bf_ NB150_162.out BK150.out⟩, ⟨bf_ NB151_162.out BK151.out⟩, ⟨bp_ BK162.out⟩, ⟨hb_ HB.out⟩⟩
         ·
          rw [if_neg c36] at H
          exact absurd H (by simp)
        ·
         rw [if_neg c34] at H
         have c34b0 : decide (x4_1 < 2) = false := decide_eq_false c34
         clear c34
         simp only [Option.some.injEq, Prod.mk.injEq] at H
         obtain ⟨rfl, rfl, rfl, rfl, rfl, rfl⟩ := H
         have hnb45 := NB162_150.out
         have hnc45 := NB150_162.out
         have hnb46 := NB162_151.out
         have hnc46 := NB151_162.out
         have hcz47_0 : wr.cell? ⟨gb162, 0, none⟩ = some (.slice Ao27 y153.length co27) := bc_ BK162 0
         have hcz47_1 : wr.cell? ⟨gb162, 1, none⟩ = some (.slice none 0 0) := bc_ BK162 1
         have hcz47_2 : wr.cell? ⟨gb162, 2, none⟩ = some (u163002) := bc_ BK162 2
         have hcz47_3 : wr.cell? ⟨gb162, 3, none⟩ = some (.int .i64 0) := bc_ BK162 3
         have hcz47_4 : wr.cell? ⟨gb162, 4, none⟩ = some (.slice Ao26 y156.length co26) := bc_ BK162 4
         have hcz47_5 : wr.cell? ⟨gb162, 5, none⟩ = some (.slice Ao25 y159.length co25) := bc_ BK162 5
         have hfz47_0 := blk_frozen BK162.out 0
         have hfz47_1 := blk_frozen BK162.out 1
         have hfz47_2 := blk_frozen BK162.out 2
         have hfz47_3 := blk_frozen BK162.out 3
         have hfz47_4 := blk_frozen BK162.out 4
         have hfz47_5 := blk_frozen BK162.out 5
         have hnb48 := NB151_150.out
         have hnc48 := NB150_151.out
         have hcz49_0 : wr.cell? ⟨gb151, 0, none⟩ = some (.slice none 0 0) := bc_ BK151 0
         have hcz49_1 : wr.cell? ⟨gb151, 1, none⟩ = some (.slice none 0 0) := bc_ BK151 1
         have hcz49_2 : wr.cell? ⟨gb151, 2, none⟩ = some (.slice none 0 0) := bc_ BK151 2
         have hcz49_3 : wr.cell? ⟨gb151, 3, none⟩ = some (.int .i64 0) := bc_ BK151 3
         have hcz49_4 : wr.cell? ⟨gb151, 4, none⟩ = some (.slice none 0 0) := bc_ BK151 4
         have hcz49_5 : wr.cell? ⟨gb151, 5, none⟩ = some (.slice none 0 0) := bc_ BK151 5
         have hfz49_0 := blk_frozen BK151.out 0
         have hfz49_1 := blk_frozen BK151.out 1
         have hfz49_2 := blk_frozen BK151.out 2
         have hfz49_3 := blk_frozen BK151.out 3
         have hfz49_4 := blk_frozen BK151.out 4
         have hfz49_5 := blk_frozen BK151.out 5
         obtain ⟨Ao50, co50, eo50⟩ := Kd.S_slice HO_163002.out
         subst eo50
         go_wp2
         refine bodyPost_ret (results_cell_row rfl _ _ gb151 80 #[.slice Ao27 y153.length co27, .slice none 0 0, .slice Ao50 x163002_1.length co50, .int .i64 0, .slice Ao26 y156.length co26, .slice Ao25 y159.length co25] (0, 0) _ rfl (bp_ BK151.out) Try.underlying80 rfl (by kernel_rfl)) rfl ?_
         exact ⟨_, _, _, _, _, er_, by (with_reducible repeat (first | apply Kd.S_alloc | apply Kd.S_drewN | apply Kd.S_drew)); exact Kd.S_mono (Kd.S_far (p := ⟨gb151, 5, none⟩) (Kd.S_far (p := ⟨gb151, 4, none⟩) (Kd.S_far (p := ⟨gb151, 3, none⟩) (Kd.S_far (p := ⟨gb151, 2, none⟩) (Kd.S_far (p := ⟨gb151, 1, none⟩) (Kd.S_far (p := ⟨gb151, 0, none⟩) (Kd.S_types HO_163000.out BK151.out (by decide)) (fun _ hk => hk.2) (.slice Ao27 y153.length co27)) (fun _ hk => hk.2) (.slice none 0 0)) (fun _ hk => hk.2) (.slice Ao50 x163002_1.length co50)) (fun _ hk => hk.2) (.int .i64 0)) (fun _ hk => hk.2) (.slice Ao26 y156.length co26)) (fun _ hk => hk.2) (.slice Ao25 y159.length co25)) (fun _ hk => trivial), qb8_, by (with_reducible repeat (first | apply Kd.S_alloc | apply Kd.S_drewN | apply Kd.S_drew)); exact Kd.S_mono (Kd.S_far (p := ⟨gb151, 5, none⟩) (Kd.S_far (p := ⟨gb151, 4, none⟩) (Kd.S_far (p := ⟨gb151, 3, none⟩) (Kd.S_far (p := ⟨gb151, 2, none⟩) (Kd.S_far (p := ⟨gb151, 1, none⟩) (Kd.S_far (p := ⟨gb151, 0, none⟩) (Kd.S_types HO_163002.out BK151.out (by decide)) (fun _ hk => hk.2) (.slice Ao27 y153.length co27)) (fun _ hk => hk.2) (.slice none 0 0)) (fun _ hk => hk.2) (.slice Ao50 x163002_1.length co50)) (fun _ hk => hk.2) (.int .i64 0)) (fun _ hk => hk.2) (.slice Ao26 y156.length co26)) (fun _ hk => hk.2) (.slice Ao25 y159.length co25)) (fun _ hk => hk.1), by (with_reducible repeat (first | apply Kd.R_alloc | apply Kd.R_drewN | apply Kd.R_drew)); exact Kd.R_mono (Kd.R_far (p := ⟨gb151, 5, none⟩) (Kd.R_far (p := ⟨gb151, 4, none⟩) (Kd.R_far (p := ⟨gb151, 3, none⟩) (Kd.R_far (p := ⟨gb151, 2, none⟩) (Kd.R_far (p := ⟨gb151, 1, none⟩) (Kd.R_far (p := ⟨gb151, 0, none⟩) (Kd.R_types HO_163004.out BK151.out (by decide)) (fun _ hk => hk.2) (.slice Ao27 y153.length co27)) (fun _ hk => hk.2) (.slice none 0 0)) (fun _ hk => hk.2) (.slice Ao50 x163002_1.length co50)) (fun _ hk => hk.2) (.int .i64 0)) (fun _ hk => hk.2) (.slice Ao26 y156.length co26)) (fun _ hk => hk.2) (.slice Ao25 y159.length co25)) (fun _ hk => trivial), by (with_reducible repeat (first | apply Kd.R_alloc | apply Kd.R_drewN | apply Kd.R_drew)); exact Kd.R_mono (Kd.R_far (p := ⟨gb151, 5, none⟩) (Kd.R_far (p := ⟨gb151, 4, none⟩) (Kd.R_far (p := ⟨gb151, 3, none⟩) (Kd.R_far (p := ⟨gb151, 2, none⟩) (Kd.R_far (p := ⟨gb151, 1, none⟩) (Kd.R_far (p := ⟨gb151, 0, none⟩) (Kd.R_types HO_163005.out BK151.out (by decide)) (fun _ hk => hk.2) (.slice Ao27 y153.length co27)) (fun _ hk => hk.2) (.slice none 0 0)) (fun _ hk => hk.2) (.slice Ao50 x163002_1.length co50)) (fun _ hk => hk.2) (.int .i64 0)) (fun _ hk => hk.2) (.slice Ao26 y156.length co26)) (fun _ hk => hk.2) (.slice Ao25 y159.length co25)) (fun _ hk => trivial), hb_ HB.out⟩
     ·
      rw [if_neg c7] at H
      exact absurd H (by simp)
    ·
     rw [if_neg c6] at H
     exact absurd H (by simp)
   ·
    rw [if_neg c5] at H
    exact absurd H (by simp)
  ·
   rw [if_neg c4] at H
   exact absurd H (by simp)
 ·
  replace c3 := Bool.eq_false_iff.mpr c3
  subst c3
  have H1 : (some (([] : List (S_Row)), ([] : List (S_Maker)), ([] : List (S_Group)), 0, ([] : List Int), ([] : List (S_Answer)))) = some (r1, r2, r3, r4, r5, r6) := by rw [if_neg (show ¬ (false = true) by decide)] at H; exact H
  clear H
  have H := H1
  clear H1
  simp only [Option.some.injEq, Prod.mk.injEq] at H
  obtain ⟨rfl, rfl, rfl, rfl, rfl, rfl⟩ := H
  go_enter Try.func46, Try.ntmps46
  go_wp2_with (first | ((with_reducible refine gate_dst (N := 1) rfl ?_); refine box_event ?hg (N := 1) ?hd (cs := #[.int .i64 a0_0, .int .i64 a0_1, .int .i64 a0_2, .int .i64 a0_3]) (t := 82) ?hr ?_; (case hd => rfl); (case hg => rfl); (case hr => first | (go_simp; done) | (go_simp; rfl)); intro gb150 hg w51 hbox hb; have BK150 := Aside0.mk (hbox); have GW150 := cz_ HB hg; have GE150 := cz_ HB hg; replace HB := ch_ HB hb; clear hb hbox hg) | ((with_reducible refine gate_dst (N := 2) rfl ?_); refine box_event ?hg (N := 2) ?hd (cs := #[.slice none 0 0, .slice none 0 0, .slice none 0 0, .int .i64 0, .slice none 0 0, .slice none 0 0]) (t := 80) ?hr ?_; (case hd => rfl); (case hg => rfl); (case hr => first | (go_simp; done) | (go_simp; rfl)); intro gb151 hg w52 hbox hb; have BK151 := Aside0.mk (hbox); have GW151 := cz_ HB hg; have GE151 := cz_ HB hg; have NB150_151 := cn_ BK150 hg; have NB151_150 := cm_ BK150 hg; replace BK150 := cb_ BK150 hb; replace HB := ch_ HB hb; clear hb hbox hg; have hnb53 := NB150_151.out; have hnc53 := NB151_150.out; have hcz54_0 : w52.cell? ⟨gb150, 0, none⟩ = some (.int .i64 a0_0) := bc_ BK150 0; have hcz54_1 : w52.cell? ⟨gb150, 1, none⟩ = some (.int .i64 a0_1) := bc_ BK150 1; have hcz54_2 : w52.cell? ⟨gb150, 2, none⟩ = some (.int .i64 a0_2) := bc_ BK150 2; have hcz54_3 : w52.cell? ⟨gb150, 3, none⟩ = some (.int .i64 a0_3) := bc_ BK150 3; have hfz54_0 := blk_frozen BK150.out 0; have hfz54_1 := blk_frozen BK150.out 1; have hfz54_2 := blk_frozen BK150.out 2; have hfz54_3 := blk_frozen BK150.out 3) | ((with_reducible refine gate_callee (f := 82) rfl ?_); refine goesL_ (some 6) rfl rfl Try.func82 (by kernel_rfl) rfl #[.agg #[.int .i64 a0_0, .int .i64 a0_1, .int .i64 a0_2, .int .i64 a0_3]] rfl sm_ ?_; (with_reducible refine (impl_SetupOk.calls a0_0 a0_1 a0_2 a0_3 false _ A2.out).mono ?_); rintro e w55 ⟨rfl, hb⟩; refine ⟨_, rfl, ?_⟩; replace BK150 := cb_ BK150 hb; replace BK151 := cb_ BK151 hb; replace HB := ch_ HB hb; (try clear hb); (try clear hb2); (try clear hk); (try clear hi); have hcz56_0 : w55.cell? ⟨gb151, 0, none⟩ = some (.slice none 0 0) := bc_ BK151 0; have hcz56_1 : w55.cell? ⟨gb151, 1, none⟩ = some (.slice none 0 0) := bc_ BK151 1; have hcz56_2 : w55.cell? ⟨gb151, 2, none⟩ = some (.slice none 0 0) := bc_ BK151 2; have hcz56_3 : w55.cell? ⟨gb151, 3, none⟩ = some (.int .i64 0) := bc_ BK151 3; have hcz56_4 : w55.cell? ⟨gb151, 4, none⟩ = some (.slice none 0 0) := bc_ BK151 4; have hcz56_5 : w55.cell? ⟨gb151, 5, none⟩ = some (.slice none 0 0) := bc_ BK151 5; have hfz56_0 := blk_frozen BK151.out 0; have hfz56_1 := blk_frozen BK151.out 1; have hfz56_2 := blk_frozen BK151.out 2; have hfz56_3 := blk_frozen BK151.out 3; have hfz56_4 := blk_frozen BK151.out 4; have hfz56_5 := blk_frozen BK151.out 5))
  refine bodyPost_ret (results_cell_row rfl _ _ gb151 80 #[.slice none 0 0, .slice none 0 0, .slice none 0 0, .int .i64 0, .slice none 0 0, .slice none 0 0] (0, 0) _ rfl (bp_ BK151.out) Try.underlying80 rfl (by kernel_rfl)) rfl ?_
  exact ⟨_, _, _, _, _, er_, qb8_, qb8_, qb8_, qb4_, qb4_, hb_ HB.out⟩
/-! ### laws_eqMark: function 101 -/
def laws_eqMark.f (a0_0 : Int) (a0_1 : Int) (a1_0 : Int) (a1_1 : Int) : Option (Bool) := if a0_0 = a1_0 then (if a0_1 = a1_1 then (some true) else (some false)) else (some false)
set_option maxHeartbeats 8000000 in
set_option maxRecDepth 100000 in
theorem laws_eqMark.calls (a0_0 : Int) (a0_1 : Int) (a1_0 : Int) (a1_1 : Int) (r : Bool) (w : World) (h : laws_eqMark.f a0_0 a0_1 a1_0 a1_1 = some r) :
    Calls Try.prog 101 #[.agg #[.int .i64 a0_0, .int .i64 a0_1], .agg #[.int .i64 a1_0, .int .i64 a1_1]] w fun e w' => e = .returned (.bool r) ∧ Below w.heap.size w w' := by
  have hu110 := Try.underlying110
  have HB := Aside0.mk (Below.refl w.heap.size w)
  have H : (if a0_0 = a1_0 then (if a0_1 = a1_1 then (some true) else (some false)) else (some false)) = some r := h
  clear h
  by_cases c3 : a0_0 = a1_0
  · rw [if_pos c3] at H
    have c3b0 : (a0_0 == a1_0) = true := beq_iff_eq.mpr c3
    have c3b1 : (a0_0 != a1_0) = false := bne_eq_false_iff_eq.mpr c3
    clear c3
    by_cases c4 : a0_1 = a1_1
    · rw [if_pos c4] at H
      have c4b0 : (a0_1 == a1_1) = true := beq_iff_eq.mpr c4
      have c4b1 : (a0_1 != a1_1) = false := bne_eq_false_iff_eq.mpr c4
      clear c4
      obtain rfl := Option.some.inj H
      go_enter Try.func101, Try.ntmps101
      go_wp2_with (first | ((with_reducible refine gate_dst (N := 2) rfl ?_); refine box_event ?hg (N := 2) ?hd (cs := #[.int .i64 a0_0, .int .i64 a0_1]) (t := 110) ?hr ?_; (case hd => rfl); (case hg => rfl); (case hr => first | (go_simp; done) | (go_simp; rfl)); intro gb176 hg w5 hbox hb; have BK176 := Aside0.mk (hbox); have GW176 := Aside0.mk ((by rw [hg]; exact (below_size (qb1_)) : w.heap.size ≤ gb176)); have GE176 := Aside0.mk ((by rw [hg]; exact (below_size (qb1_)) : w.heap.size ≤ gb176)); replace HB := Aside0.mk (below_step (qb1_) hb); clear hb hbox hg) | ((with_reducible refine gate_dst (N := 3) rfl ?_); refine box_event ?hg (N := 3) ?hd (cs := #[.int .i64 a1_0, .int .i64 a1_1]) (t := 110) ?hr ?_; (case hd => rfl); (case hg => rfl); (case hr => first | (go_simp; done) | (go_simp; rfl)); intro gb177 hg w6 hbox hb; have BK177 := Aside0.mk (hbox); have GW177 := Aside0.mk ((by rw [hg]; exact (below_size (qb3_)) : w.heap.size ≤ gb177)); have GE177 := Aside0.mk ((by rw [hg]; exact (below_size (qb3_)) : w.heap.size ≤ gb177)); have NB176_177 := Aside0.mk ((by rw [hg]; exact Nat.ne_of_lt (blk_lt (g := gb176) (o := .cells #[.int .i64 a0_0, .int .i64 a0_1] 110 (0, 0)) (bq_ BK176.out)) : gb176 ≠ gb177)); have NB177_176 := Aside0.mk ((by rw [hg]; exact Nat.ne_of_gt (blk_lt (g := gb176) (o := .cells #[.int .i64 a0_0, .int .i64 a0_1] 110 (0, 0)) (bq_ BK176.out)) : gb177 ≠ gb176)); replace BK176 := Aside0.mk (blk_below (g := gb176) (o := .cells #[.int .i64 a0_0, .int .i64 a0_1] 110 (0, 0)) (bq_ BK176.out) hb); replace HB := Aside0.mk (below_step (qb3_) hb); clear hb hbox hg; have hnb7 := NB176_177.out; have hnc7 := NB177_176.out; have hcz8_0 : w6.cell? ⟨gb176, 0, none⟩ = some (.int .i64 a0_0) := bc_ BK176 0; have hcz8_1 : w6.cell? ⟨gb176, 1, none⟩ = some (.int .i64 a0_1) := bc_ BK176 1; have hfz8_0 := blk_frozen BK176.out 0; have hfz8_1 := blk_frozen BK176.out 1; have hcz9_0 : w6.cell? ⟨gb177, 0, none⟩ = some (.int .i64 a1_0) := bc_ BK177 0; have hcz9_1 : w6.cell? ⟨gb177, 1, none⟩ = some (.int .i64 a1_1) := bc_ BK177 1; have hfz9_0 := blk_frozen BK177.out 0; have hfz9_1 := blk_frozen BK177.out 1))
      go_ret
      exact ⟨qb6_, qb10_⟩
    · rw [if_neg c4] at H
      have c4b0 : (a0_1 == a1_1) = false := beq_eq_false_iff_ne.mpr c4
      have c4b1 : (a0_1 != a1_1) = true := bne_iff_ne.mpr c4
      obtain rfl := Option.some.inj H
      go_enter Try.func101, Try.ntmps101
      go_wp2_with (first | ((with_reducible refine gate_dst (N := 2) rfl ?_); refine box_event ?hg (N := 2) ?hd (cs := #[.int .i64 a0_0, .int .i64 a0_1]) (t := 110) ?hr ?_; (case hd => rfl); (case hg => rfl); (case hr => first | (go_simp; done) | (go_simp; rfl)); intro gb176 hg w10 hbox hb; have BK176 := Aside0.mk (hbox); have GW176 := Aside0.mk ((by rw [hg]; exact (below_size (qb1_)) : w.heap.size ≤ gb176)); have GE176 := Aside0.mk ((by rw [hg]; exact (below_size (qb1_)) : w.heap.size ≤ gb176)); replace HB := Aside0.mk (below_step (qb1_) hb); clear hb hbox hg) | ((with_reducible refine gate_dst (N := 3) rfl ?_); refine box_event ?hg (N := 3) ?hd (cs := #[.int .i64 a1_0, .int .i64 a1_1]) (t := 110) ?hr ?_; (case hd => rfl); (case hg => rfl); (case hr => first | (go_simp; done) | (go_simp; rfl)); intro gb177 hg w11 hbox hb; have BK177 := Aside0.mk (hbox); have GW177 := Aside0.mk ((by rw [hg]; exact (below_size (qb3_)) : w.heap.size ≤ gb177)); have GE177 := Aside0.mk ((by rw [hg]; exact (below_size (qb3_)) : w.heap.size ≤ gb177)); have NB176_177 := Aside0.mk ((by rw [hg]; exact Nat.ne_of_lt (blk_lt (g := gb176) (o := .cells #[.int .i64 a0_0, .int .i64 a0_1] 110 (0, 0)) (bq_ BK176.out)) : gb176 ≠ gb177)); have NB177_176 := Aside0.mk ((by rw [hg]; exact Nat.ne_of_gt (blk_lt (g := gb176) (o := .cells #[.int .i64 a0_0, .int .i64 a0_1] 110 (0, 0)) (bq_ BK176.out)) : gb177 ≠ gb176)); replace BK176 := Aside0.mk (blk_below (g := gb176) (o := .cells #[.int .i64 a0_0, .int .i64 a0_1] 110 (0, 0)) (bq_ BK176.out) hb); replace HB := Aside0.mk (below_step (qb3_) hb); clear hb hbox hg; have hnb12 := NB176_177.out; have hnc12 := NB177_176.out; have hcz13_0 : w11.cell? ⟨gb176, 0, none⟩ = some (.int .i64 a0_0) := bc_ BK176 0; have hcz13_1 : w11.cell? ⟨gb176, 1, none⟩ = some (.int .i64 a0_1) := bc_ BK176 1; have hfz13_0 := blk_frozen BK176.out 0; have hfz13_1 := blk_frozen BK176.out 1; have hcz14_0 : w11.cell? ⟨gb177, 0, none⟩ = some (.int .i64 a1_0) := bc_ BK177 0; have hcz14_1 : w11.cell? ⟨gb177, 1, none⟩ = some (.int .i64 a1_1) := bc_ BK177 1; have hfz14_0 := blk_frozen BK177.out 0; have hfz14_1 := blk_frozen BK177.out 1))
      go_ret
      exact ⟨qb6_, qb10_⟩
  · rw [if_neg c3] at H
    have c3b0 : (a0_0 == a1_0) = false := beq_eq_false_iff_ne.mpr c3
    have c3b1 : (a0_0 != a1_0) = true := bne_iff_ne.mpr c3
    obtain rfl := Option.some.inj H
    go_enter Try.func101, Try.ntmps101
    go_wp2_with (first | ((with_reducible refine gate_dst (N := 2) rfl ?_); refine box_event ?hg (N := 2) ?hd (cs := #[.int .i64 a0_0, .int .i64 a0_1]) (t := 110) ?hr ?_; (case hd => rfl); (case hg => rfl); (case hr => first | (go_simp; done) | (go_simp; rfl)); intro gb176 hg w15 hbox hb; have BK176 := Aside0.mk (hbox); have GW176 := Aside0.mk ((by rw [hg]; exact (below_size (qb1_)) : w.heap.size ≤ gb176)); have GE176 := Aside0.mk ((by rw [hg]; exact (below_size (qb1_)) : w.heap.size ≤ gb176)); replace HB := Aside0.mk (below_step (qb1_) hb); clear hb hbox hg) | ((with_reducible refine gate_dst (N := 3) rfl ?_); refine box_event ?hg (N := 3) ?hd (cs := #[.int .i64 a1_0, .int .i64 a1_1]) (t := 110) ?hr ?_; (case hd => rfl); (case hg => rfl); (case hr => first | (go_simp; done) | (go_simp; rfl)); intro gb177 hg w16 hbox hb; have BK177 := Aside0.mk (hbox); have GW177 := Aside0.mk ((by rw [hg]; exact (below_size (qb3_)) : w.heap.size ≤ gb177)); have GE177 := Aside0.mk ((by rw [hg]; exact (below_size (qb3_)) : w.heap.size ≤ gb177)); have NB176_177 := Aside0.mk ((by rw [hg]; exact Nat.ne_of_lt (blk_lt (g := gb176) (o := .cells #[.int .i64 a0_0, .int .i64 a0_1] 110 (0, 0)) (bq_ BK176.out)) : gb176 ≠ gb177)); have NB177_176 := Aside0.mk ((by rw [hg]; exact Nat.ne_of_gt (blk_lt (g := gb176) (o := .cells #[.int .i64 a0_0, .int .i64 a0_1] 110 (0, 0)) (bq_ BK176.out)) : gb177 ≠ gb176)); replace BK176 := Aside0.mk (blk_below (g := gb176) (o := .cells #[.int .i64 a0_0, .int .i64 a0_1] 110 (0, 0)) (bq_ BK176.out) hb); replace HB := Aside0.mk (below_step (qb3_) hb); clear hb hbox hg; have hnb17 := NB176_177.out; have hnc17 := NB177_176.out; have hcz18_0 : w16.cell? ⟨gb176, 0, none⟩ = some (.int .i64 a0_0) := bc_ BK176 0; have hcz18_1 : w16.cell? ⟨gb176, 1, none⟩ = some (.int .i64 a0_1) := bc_ BK176 1; have hfz18_0 := blk_frozen BK176.out 0; have hfz18_1 := blk_frozen BK176.out 1; have hcz19_0 : w16.cell? ⟨gb177, 0, none⟩ = some (.int .i64 a1_0) := bc_ BK177 0; have hcz19_1 : w16.cell? ⟨gb177, 1, none⟩ = some (.int .i64 a1_1) := bc_ BK177 1; have hfz19_0 := blk_frozen BK177.out 0; have hfz19_1 := blk_frozen BK177.out 1))
    go_ret
    exact ⟨qb6_, qb10_⟩

end Go.Proofs.Ythmjhhkheohgfaa.Q
