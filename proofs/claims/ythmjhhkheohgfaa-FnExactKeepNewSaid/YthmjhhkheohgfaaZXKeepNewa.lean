/- Made by a program of ours out of the print of the loaded functions: for each of some functions a plain function, and the walk that shows that a call comes to what it says. No condition but those of each theorem. -/
import Derived.Test.YthmjhhkheohgfaaZXKeepNew0
namespace Go.Proofs.Ythmjhhkheohgfaa.Q
open Go.RowKit Go.Proofs.YthmjhhkheohgfaaW.PrintWords Go.Proofs.YthmjhhkheohgfaaW.PrintLast Go.Proofs.YthmjhhkheohgfaaW.PrintMore
attribute [local go_sem] max2_int min2_int max_two min_two max_three min_three max_four min_four   -- for this text's walks alone
set_option linter.unusedVariables false
set_option linter.unusedSimpArgs false
theorem qa0_ {P : Prop} (h : P := by first | (simp only [putAll, Act.put, List.setIfInBounds_toArray, List.set_cons_zero, List.set_cons_succ]; done) | (simp only [putAll, Act.put, List.setIfInBounds_toArray, List.set_cons_zero, List.set_cons_succ]; rfl)) : P := h
theorem qa1_ {P : Prop} (h : P := by (with_reducible repeat (first | apply Kd.S_alloc | apply Kd.S_drewN | apply Kd.S_drew)); exact HO116.out) : P := h
theorem qa2_ {P : Prop} (h : P := by repeat (first | (with_reducible first | exact HB.out | apply below_alloc | apply pw_below_drewN | apply below_drew1) | exact HB.out)) : P := h
theorem qa3_ {P : Prop} (h : P := by first | exact Kd.R_nil _ _ _ _ _ | exact Kd.N_nil _ _ _ _ _ | exact Kd.V_nil _ _ _ _ _ | exact Kd.Q_nil _ _ _ _ _ | exact Kd.S_nil _ _ _ _ _) : P := h
theorem qa4_ {P : Prop} (h : P := by repeat (first | (with_reducible first | exact HB.out | apply below_alloc | apply pw_below_drewN | apply below_drew1 | refine below_set ?_ GE106.out) | exact HB.out)) : P := h
theorem qa5_ {P : Prop} (h : P := by (try simp only [List.map_toArray, List.map_cons, List.map_nil]); first | done | rfl | (simp only [List.length_drop, List.length_take]; rfl)) : P := h
theorem qa6_ {P : Prop} (h : P := by first | rfl | (simp [errW_none, errW_some] <;> rfl) | (simp [*, errW_none, errW_some] <;> rfl)) : P := h
theorem qa7_ {P : Prop} (h : P := by first | exact Kd.S_nil _ _ _ _ _ | exact Kd.N_nil _ _ _ _ _ | exact Kd.V_nil _ _ _ _ _ | exact Kd.Q_nil _ _ _ _ _ | exact Kd.R_nil _ _ _ _ _) : P := h
theorem qa8_ {P : Prop} (h : P := by repeat (first | (with_reducible first | exact HB.out | apply below_alloc | apply pw_below_drewN | apply below_drew1 | refine below_set ?_ GE101.out) | exact HB.out)) : P := h
theorem qa9_ {P : Prop} (h : P := by repeat (first | (with_reducible first | exact HB.out | apply below_alloc | apply pw_below_drewN | apply below_drew1 | refine below_set ?_ GE137.out | refine below_set ?_ GE138.out) | exact HB.out)) : P := h
theorem qa10_ {P : Prop} (h : P := by repeat (first | (with_reducible first | exact HB.out | apply below_alloc | apply pw_below_drewN | apply below_drew1 | refine below_set ?_ GE137.out) | exact HB.out)) : P := h
theorem qa11_ {P : Prop} (h : P := by (with_reducible repeat (first | apply Kd.S_alloc | apply Kd.S_drewN | apply Kd.S_drew)); exact HO_124002.out) : P := h
theorem qa12_ {P : Prop} (h : P := by first | rfl | (simp; done) | (simp [*]; done)) : P := h
theorem qa13_ {P : Prop} (h : P := by repeat (first | exact Drawn0.refl _ | apply Drawn0.step)) : P := h
theorem qah0_ {P : Prop} (h : P := by repeat' first | (with_reducible exact ih0 _ _ _ _ _ _ _ _ _ _) | (with_reducible exact LeO.refl _) | (with_reducible exact LeO.none _) | (with_reducible refine LeO.ite ?_ ?_) | (with_reducible refine LeO.bind ?_ (fun _ => ?_)) | exact ih0 _ _ _ _ _ _ _ _ _ _ | exact LeO.none _ | refine LeO.ite ?_ ?_ | refine LeO.bind ?_ (fun _ => ?_)) : P := h

theorem hk_ {w W W' : World} {g : Nat} {row row' : Option Nat} (x : KeepBut w W g row) (h : KeepBut w W g row → KeepBut w W' g row' := by intro h_; repeat (first | (with_reducible first | exact h_ | apply KeepBut.set_ | apply keep_drewN | apply keep_drew | apply keep_alloc | refine keep_far ?_ (Aside0.out (by assumption)) _) | exact h_)) : KeepBut w W' g row' := h x
theorem nl_ {g b : Nat} {o : Obj} {W w : World} (x : W.heap[g]? = some o) (hg : b = w.heap.size) (h : W.heap[g]? = some o → w.heap[g]? = some o := by intro h_; (with_reducible repeat (first | refine blk_drewN ?_ _ | refine blk_drew ?_ | refine blk_alloc ?_ _)); exact h_) : g ≠ b := by rw [hg]; exact Nat.ne_of_lt (blk_lt (h x))
theorem ng_ {g b : Nat} {o : Obj} {W w : World} (x : W.heap[g]? = some o) (hg : b = w.heap.size) (h : W.heap[g]? = some o → w.heap[g]? = some o := by intro h_; (with_reducible repeat (first | refine blk_drewN ?_ _ | refine blk_drew ?_ | refine blk_alloc ?_ _)); exact h_) : b ≠ g := by rw [hg]; exact Nat.ne_of_gt (blk_lt (h x))
theorem er_ {q : Prop} (h : q := by first | rfl | (simp [errW_none, errW_some] <;> rfl) | (simp [*, errW_none, errW_some] <;> rfl)) : q := h
/-! ### spec_l1In: function 74 -/
def spec_l1In.f (a0 : Int) (a1 : Int) (a2 : Int) : Option (Bool) := if a0 ≥ a1 then (some (decide (a0 ≤ a2))) else (some false)
set_option maxHeartbeats 8000000 in
set_option maxRecDepth 100000 in
theorem spec_l1In.calls (a0 : Int) (a1 : Int) (a2 : Int) (r : Bool) (w : World) (h : spec_l1In.f a0 a1 a2 = some r) :
    Calls Try.prog 74 #[.int .i64 a0, .int .i64 a1, .int .i64 a2] w fun e w' => e = .returned (.bool r) ∧ Drawn0 w w' := by
  have H : (if a0 ≥ a1 then (some (decide (a0 ≤ a2))) else (some false)) = some r := h
  clear h
  by_cases c4 : a0 ≥ a1
  · rw [if_pos c4] at H
    have c4b0 : decide (a1 ≤ a0) = true := decide_eq_true c4
    clear c4
    obtain rfl := Option.some.inj H
    go_enter Try.func74, Try.ntmps74
    go_wp2
    go_ret
    exact ⟨qa12_, qa13_⟩
  · rw [if_neg c4] at H
    have c4b0 : decide (a1 ≤ a0) = false := decide_eq_false c4
    clear c4
    obtain rfl := Option.some.inj H
    go_enter Try.func74, Try.ntmps74
    go_wp2
    go_ret
    exact ⟨qa12_, qa13_⟩

/-! ### spec_SetupOk: function 80 -/
def spec_SetupOk.f (a0_0 : Int) (a0_1 : Int) (a0_2 : Int) (a0_3 : Int) : Option (Bool) := (spec_l1In.f a0_0 1 4).bind fun t102 => (if t102 = true then ((spec_l1In.f a0_1 1 5).bind fun t103 => (if t103 = true then ((spec_l1In.f a0_2 1 8).bind fun t104 => (if t104 = true then ((spec_l1In.f a0_3 0 60).bind fun t105 => (some t105)) else (some false))) else (some false))) else (some false))
set_option maxHeartbeats 8000000 in
set_option maxRecDepth 100000 in
theorem spec_SetupOk.calls (a0_0 : Int) (a0_1 : Int) (a0_2 : Int) (a0_3 : Int) (r : Bool) (w : World) (h : spec_SetupOk.f a0_0 a0_1 a0_2 a0_3 = some r) :
    Calls Try.prog 80 #[.agg #[.int .i64 a0_0, .int .i64 a0_1, .int .i64 a0_2, .int .i64 a0_3]] w fun e w' => e = .returned (.bool r) ∧ Below w.heap.size w w' := by
  have hu82 := Try.underlying82
  have HB := Aside0.mk (Below.refl w.heap.size w)
  have H : ((spec_l1In.f a0_0 1 4).bind fun t102 => (if t102 = true then ((spec_l1In.f a0_1 1 5).bind fun t103 => (if t103 = true then ((spec_l1In.f a0_2 1 8).bind fun t104 => (if t104 = true then ((spec_l1In.f a0_3 0 60).bind fun t105 => (some t105)) else (some false))) else (some false))) else (some false))) = some r := h
  clear h
  replace H := Option.bind_eq_some_iff.mp H
  obtain ⟨t102, A20, H⟩ := H
  replace H : (if t102 = true then ((spec_l1In.f a0_1 1 5).bind fun t103 => (if t103 = true then ((spec_l1In.f a0_2 1 8).bind fun t104 => (if t104 = true then ((spec_l1In.f a0_3 0 60).bind fun t105 => (some t105)) else (some false))) else (some false))) else (some false)) = some r := H
  have A2 := Aside0.mk A20
  clear A20
  by_cases c3 : t102 = true
  · subst c3
    have H1 : ((spec_l1In.f a0_1 1 5).bind fun t103 => (if t103 = true then ((spec_l1In.f a0_2 1 8).bind fun t104 => (if t104 = true then ((spec_l1In.f a0_3 0 60).bind fun t105 => (some t105)) else (some false))) else (some false))) = some r := by rw [if_pos rfl] at H; exact H
    clear H
    have H := H1
    clear H1
    replace H := Option.bind_eq_some_iff.mp H
    obtain ⟨t103, A40, H⟩ := H
    replace H : (if t103 = true then ((spec_l1In.f a0_2 1 8).bind fun t104 => (if t104 = true then ((spec_l1In.f a0_3 0 60).bind fun t105 => (some t105)) else (some false))) else (some false)) = some r := H
    have A4 := Aside0.mk A40
    clear A40
    by_cases c5 : t103 = true
    · subst c5
      have H1 : ((spec_l1In.f a0_2 1 8).bind fun t104 => (if t104 = true then ((spec_l1In.f a0_3 0 60).bind fun t105 => (some t105)) else (some false))) = some r := by rw [if_pos rfl] at H; exact H
      clear H
      have H := H1
      clear H1
      replace H := Option.bind_eq_some_iff.mp H
      obtain ⟨t104, A60, H⟩ := H
      replace H : (if t104 = true then ((spec_l1In.f a0_3 0 60).bind fun t105 => (some t105)) else (some false)) = some r := H
      have A6 := Aside0.mk A60
      clear A60
      by_cases c7 : t104 = true
      · subst c7
        have H1 : ((spec_l1In.f a0_3 0 60).bind fun t105 => (some t105)) = some r := by rw [if_pos rfl] at H; exact H
        clear H
        have H := H1
        clear H1
        replace H := Option.bind_eq_some_iff.mp H
        obtain ⟨t105, A80, H⟩ := H
        replace H : (some t105) = some r := H
        have A8 := Aside0.mk A80
        clear A80
        obtain rfl := Option.some.inj H
        go_enter Try.func80, Try.ntmps80
        go_wp2_with (first | ((with_reducible refine gate_dst (N := 1) rfl ?_); refine box_event ?hg (N := 1) ?hd (cs := #[.int .i64 a0_0, .int .i64 a0_1, .int .i64 a0_2, .int .i64 a0_3]) (t := 82) ?hr ?_; (case hd => rfl); (case hg => rfl); (case hr => first | (go_simp; done) | (go_simp; rfl)); intro gb101 hg w9 hbox hb; have BK101 := Aside0.mk (hbox); have GW101 := Aside0.mk ((by rw [hg]; exact (below_size (qa2_)) : w.heap.size ≤ gb101)); have GE101 := Aside0.mk ((by rw [hg]; exact (below_size (qa2_)) : w.heap.size ≤ gb101)); replace HB := Aside0.mk (below_step (qa2_) hb); clear hb hbox hg; have hcz10_0 : w9.cell? ⟨gb101, 0, none⟩ = some (.int .i64 a0_0) := bc_ BK101 0; have hcz10_1 : w9.cell? ⟨gb101, 1, none⟩ = some (.int .i64 a0_1) := bc_ BK101 1; have hcz10_2 : w9.cell? ⟨gb101, 2, none⟩ = some (.int .i64 a0_2) := bc_ BK101 2; have hcz10_3 : w9.cell? ⟨gb101, 3, none⟩ = some (.int .i64 a0_3) := bc_ BK101 3; have hfz10_0 := blk_frozen BK101.out 0; have hfz10_1 := blk_frozen BK101.out 1; have hfz10_2 := blk_frozen BK101.out 2; have hfz10_3 := blk_frozen BK101.out 3) | ((with_reducible refine gate_callee (f := 74) rfl ?_); refine goesL_ (some 5) rfl rfl Try.func74 (by kernel_rfl) rfl #[.int .i64 a0_0, .int .i64 1, .int .i64 4] rfl (qa5_) ?_; (with_reducible refine (spec_l1In.calls a0_0 1 4 true _ A2.out).mono ?_); rintro e w' ⟨rfl, ⟨nd, rfl⟩⟩; refine ⟨_, rfl, ?_⟩) | (go_at_call 74; (with_reducible refine (spec_l1In.calls a0_1 1 5 true _ A4.out).mono ?_); rintro e w' ⟨rfl, ⟨nd, rfl⟩⟩) | (go_at_call 74; (with_reducible refine (spec_l1In.calls a0_2 1 8 true _ A6.out).mono ?_); rintro e w' ⟨rfl, ⟨nd, rfl⟩⟩) | (go_at_call 74; (with_reducible refine (spec_l1In.calls a0_3 0 60 t105 _ A8.out).mono ?_); rintro e w' ⟨rfl, ⟨nd, rfl⟩⟩))
        go_ret
        exact ⟨qa6_, qa8_⟩
      · replace c7 := Bool.eq_false_iff.mpr c7
        subst c7
        have H1 : (some false) = some r := by rw [if_neg (show ¬ (false = true) by decide)] at H; exact H
        clear H
        have H := H1
        clear H1
        obtain rfl := Option.some.inj H
        go_enter Try.func80, Try.ntmps80
        go_wp2_with (first | ((with_reducible refine gate_dst (N := 1) rfl ?_); refine box_event ?hg (N := 1) ?hd (cs := #[.int .i64 a0_0, .int .i64 a0_1, .int .i64 a0_2, .int .i64 a0_3]) (t := 82) ?hr ?_; (case hd => rfl); (case hg => rfl); (case hr => first | (go_simp; done) | (go_simp; rfl)); intro gb101 hg w11 hbox hb; have BK101 := Aside0.mk (hbox); have GW101 := Aside0.mk ((by rw [hg]; exact (below_size (qa2_)) : w.heap.size ≤ gb101)); have GE101 := Aside0.mk ((by rw [hg]; exact (below_size (qa2_)) : w.heap.size ≤ gb101)); replace HB := Aside0.mk (below_step (qa2_) hb); clear hb hbox hg; have hcz12_0 : w11.cell? ⟨gb101, 0, none⟩ = some (.int .i64 a0_0) := bc_ BK101 0; have hcz12_1 : w11.cell? ⟨gb101, 1, none⟩ = some (.int .i64 a0_1) := bc_ BK101 1; have hcz12_2 : w11.cell? ⟨gb101, 2, none⟩ = some (.int .i64 a0_2) := bc_ BK101 2; have hcz12_3 : w11.cell? ⟨gb101, 3, none⟩ = some (.int .i64 a0_3) := bc_ BK101 3; have hfz12_0 := blk_frozen BK101.out 0; have hfz12_1 := blk_frozen BK101.out 1; have hfz12_2 := blk_frozen BK101.out 2; have hfz12_3 := blk_frozen BK101.out 3) | ((with_reducible refine gate_callee (f := 74) rfl ?_); refine goesL_ (some 5) rfl rfl Try.func74 (by kernel_rfl) rfl #[.int .i64 a0_0, .int .i64 1, .int .i64 4] rfl (qa5_) ?_; (with_reducible refine (spec_l1In.calls a0_0 1 4 true _ A2.out).mono ?_); rintro e w' ⟨rfl, ⟨nd, rfl⟩⟩; refine ⟨_, rfl, ?_⟩) | (go_at_call 74; (with_reducible refine (spec_l1In.calls a0_1 1 5 true _ A4.out).mono ?_); rintro e w' ⟨rfl, ⟨nd, rfl⟩⟩) | (go_at_call 74; (with_reducible refine (spec_l1In.calls a0_2 1 8 false _ A6.out).mono ?_); rintro e w' ⟨rfl, ⟨nd, rfl⟩⟩))
        go_ret
        exact ⟨qa6_, qa8_⟩
    · replace c5 := Bool.eq_false_iff.mpr c5
      subst c5
      have H1 : (some false) = some r := by rw [if_neg (show ¬ (false = true) by decide)] at H; exact H
      clear H
      have H := H1
      clear H1
      obtain rfl := Option.some.inj H
      go_enter Try.func80, Try.ntmps80
      go_wp2_with (first | ((with_reducible refine gate_dst (N := 1) rfl ?_); refine box_event ?hg (N := 1) ?hd (cs := #[.int .i64 a0_0, .int .i64 a0_1, .int .i64 a0_2, .int .i64 a0_3]) (t := 82) ?hr ?_; (case hd => rfl); (case hg => rfl); (case hr => first | (go_simp; done) | (go_simp; rfl)); intro gb101 hg w13 hbox hb; have BK101 := Aside0.mk (hbox); have GW101 := Aside0.mk ((by rw [hg]; exact (below_size (qa2_)) : w.heap.size ≤ gb101)); have GE101 := Aside0.mk ((by rw [hg]; exact (below_size (qa2_)) : w.heap.size ≤ gb101)); replace HB := Aside0.mk (below_step (qa2_) hb); clear hb hbox hg; have hcz14_0 : w13.cell? ⟨gb101, 0, none⟩ = some (.int .i64 a0_0) := bc_ BK101 0; have hcz14_1 : w13.cell? ⟨gb101, 1, none⟩ = some (.int .i64 a0_1) := bc_ BK101 1; have hcz14_2 : w13.cell? ⟨gb101, 2, none⟩ = some (.int .i64 a0_2) := bc_ BK101 2; have hcz14_3 : w13.cell? ⟨gb101, 3, none⟩ = some (.int .i64 a0_3) := bc_ BK101 3; have hfz14_0 := blk_frozen BK101.out 0; have hfz14_1 := blk_frozen BK101.out 1; have hfz14_2 := blk_frozen BK101.out 2; have hfz14_3 := blk_frozen BK101.out 3) | ((with_reducible refine gate_callee (f := 74) rfl ?_); refine goesL_ (some 5) rfl rfl Try.func74 (by kernel_rfl) rfl #[.int .i64 a0_0, .int .i64 1, .int .i64 4] rfl (qa5_) ?_; (with_reducible refine (spec_l1In.calls a0_0 1 4 true _ A2.out).mono ?_); rintro e w' ⟨rfl, ⟨nd, rfl⟩⟩; refine ⟨_, rfl, ?_⟩) | (go_at_call 74; (with_reducible refine (spec_l1In.calls a0_1 1 5 false _ A4.out).mono ?_); rintro e w' ⟨rfl, ⟨nd, rfl⟩⟩))
      go_ret
      exact ⟨qa6_, qa8_⟩
  · replace c3 := Bool.eq_false_iff.mpr c3
    subst c3
    have H1 : (some false) = some r := by rw [if_neg (show ¬ (false = true) by decide)] at H; exact H
    clear H
    have H := H1
    clear H1
    obtain rfl := Option.some.inj H
    go_enter Try.func80, Try.ntmps80
    go_wp2_with (first | ((with_reducible refine gate_dst (N := 1) rfl ?_); refine box_event ?hg (N := 1) ?hd (cs := #[.int .i64 a0_0, .int .i64 a0_1, .int .i64 a0_2, .int .i64 a0_3]) (t := 82) ?hr ?_; (case hd => rfl); (case hg => rfl); (case hr => first | (go_simp; done) | (go_simp; rfl)); intro gb101 hg w15 hbox hb; have BK101 := Aside0.mk (hbox); have GW101 := Aside0.mk ((by rw [hg]; exact (below_size (qa2_)) : w.heap.size ≤ gb101)); have GE101 := Aside0.mk ((by rw [hg]; exact (below_size (qa2_)) : w.heap.size ≤ gb101)); replace HB := Aside0.mk (below_step (qa2_) hb); clear hb hbox hg; have hcz16_0 : w15.cell? ⟨gb101, 0, none⟩ = some (.int .i64 a0_0) := bc_ BK101 0; have hcz16_1 : w15.cell? ⟨gb101, 1, none⟩ = some (.int .i64 a0_1) := bc_ BK101 1; have hcz16_2 : w15.cell? ⟨gb101, 2, none⟩ = some (.int .i64 a0_2) := bc_ BK101 2; have hcz16_3 : w15.cell? ⟨gb101, 3, none⟩ = some (.int .i64 a0_3) := bc_ BK101 3; have hfz16_0 := blk_frozen BK101.out 0; have hfz16_1 := blk_frozen BK101.out 1; have hfz16_2 := blk_frozen BK101.out 2; have hfz16_3 := blk_frozen BK101.out 3) | ((with_reducible refine gate_callee (f := 74) rfl ?_); refine goesL_ (some 5) rfl rfl Try.func74 (by kernel_rfl) rfl #[.int .i64 a0_0, .int .i64 1, .int .i64 4] rfl (qa5_) ?_; (with_reducible refine (spec_l1In.calls a0_0 1 4 false _ A2.out).mono ?_); rintro e w' ⟨rfl, ⟨nd, rfl⟩⟩; refine ⟨_, rfl, ?_⟩))
    go_ret
    exact ⟨qa6_, qa8_⟩

/-! ### spec_GroupNew: function 81 -/
def spec_GroupNew.f (a0 : Int) : Option (Int × List Int × List Int × List Int) := (spec_l1In.f a0 1 4).bind fun t107 => (if t107 = true then (if 0 ≤ a0 then (if (a0 : Int).toNat ≤ 35184372088832 then (some (0, ([] : List Int), ([] : List Int), (List.replicate (a0 : Int).toNat 0))) else (none)) else (none)) else (some (0, ([] : List Int), ([] : List Int), ([] : List Int))))
set_option maxHeartbeats 8000000 in
set_option maxRecDepth 100000 in
theorem spec_GroupNew.calls (a0 : Int) (r1 : Int) (r2 : List Int) (r3 : List Int) (r4 : List Int) (w : World) (h : spec_GroupNew.f a0 = some (r1, r2, r3, r4)) :
    Calls Try.prog 81 #[.int .i64 a0] w fun e w' => ∃ v1_ v2_ v3_ : Value, e = .returned (.agg #[.int .i64 r1, v1_, v2_, v3_]) ∧ Kd.R (Kd.int .i64) 3 w' w.heap.size (fun k_ => some k_ ≠ (v2_ : Value).ownBlock ∧ some k_ ≠ (v3_ : Value).ownBlock) v1_ r2 ∧ Kd.R (Kd.int .i64) 3 w' w.heap.size (fun k_ => some k_ ≠ (v1_ : Value).ownBlock ∧ some k_ ≠ (v3_ : Value).ownBlock) v2_ r3 ∧ Kd.R (Kd.int .i64) 3 w' w.heap.size (fun k_ => some k_ ≠ (v1_ : Value).ownBlock ∧ some k_ ≠ (v2_ : Value).ownBlock) v3_ r4 ∧ Below w.heap.size w w' := by
  have hu115 := Try.underlying115
  have HB := Aside0.mk (Below.refl w.heap.size w)
  have H : ((spec_l1In.f a0 1 4).bind fun t107 => (if t107 = true then (if 0 ≤ a0 then (if (a0 : Int).toNat ≤ 35184372088832 then (some (0, ([] : List Int), ([] : List Int), (List.replicate (a0 : Int).toNat 0))) else (none)) else (none)) else (some (0, ([] : List Int), ([] : List Int), ([] : List Int))))) = some (r1, r2, r3, r4) := h
  clear h
  replace H := Option.bind_eq_some_iff.mp H
  obtain ⟨t107, A20, H⟩ := H
  replace H : (if t107 = true then (if 0 ≤ a0 then (if (a0 : Int).toNat ≤ 35184372088832 then (some (0, ([] : List Int), ([] : List Int), (List.replicate (a0 : Int).toNat 0))) else (none)) else (none)) else (some (0, ([] : List Int), ([] : List Int), ([] : List Int)))) = some (r1, r2, r3, r4) := H
  have A2 := Aside0.mk A20
  clear A20
  by_cases c3 : t107 = true
  · subst c3
    have H1 : (if 0 ≤ a0 then (if (a0 : Int).toNat ≤ 35184372088832 then (some (0, ([] : List Int), ([] : List Int), (List.replicate (a0 : Int).toNat 0))) else (none)) else (none)) = some (r1, r2, r3, r4) := by rw [if_pos rfl] at H; exact H
    clear H
    have H := H1
    clear H1
    by_cases c4 : 0 ≤ a0
    · rw [if_pos c4] at H
      have c4b0 := eq_true c4
      have c4b1 : decide (0 ≤ a0) = true := decide_eq_true c4
      clear c4
      by_cases c5 : (a0 : Int).toNat ≤ 35184372088832
      · rw [if_pos c5] at H
        have c5b0 := eq_true c5
        have c5b1 : decide ((a0 : Int).toNat ≤ 35184372088832) = true := decide_eq_true c5
        clear c5
        obtain ⟨y108, hy108⟩ : ∃ y_ : List Int, y_ = (List.replicate (a0 : Int).toNat 0) := ⟨_, rfl⟩
        replace H : (some (0, ([] : List Int), ([] : List Int), y108)) = some (r1, r2, r3, r4) := by first | (rw [hy108]; with_reducible exact H) | (have H2_ := (Option.bind_some _ _).symm.trans H; rw [hy108]; with_reducible exact H2_) | (have H2_ := (Option.bind_some _ _).symm.trans H; with_reducible exact H2_) | with_reducible exact H | (rw [hy108]; exact H) | exact H
        have Ny108 := Aside0.mk hy108
        clear hy108
        simp only [Option.some.injEq, Prod.mk.injEq] at H
        obtain ⟨rfl, rfl, rfl, rfl⟩ := H
        go_enter Try.func81, Try.ntmps81
        go_wp2_with (first | ((with_reducible refine gate_dst (N := 2) rfl ?_); refine box_event ?hg (N := 2) ?hd (cs := #[.int .i64 0, .slice none 0 0, .slice none 0 0, .slice none 0 0]) (t := 115) ?hr ?_; (case hd => rfl); (case hg => rfl); (case hr => first | (go_simp; done) | (go_simp; rfl)); intro gb106 hg w6 hbox hb; have BK106 := Aside0.mk (hbox); have GW106 := Aside0.mk ((by rw [hg]; exact (below_size (qa2_)) : w.heap.size ≤ gb106)); have GE106 := Aside0.mk ((by rw [hg]; exact (below_size (qa2_)) : w.heap.size ≤ gb106)); replace HB := Aside0.mk (below_step (qa2_) hb); clear hb hbox hg) | ((with_reducible refine gate_callee (f := 74) rfl ?_); refine goesL_ (some 4) rfl rfl Try.func74 (by kernel_rfl) rfl #[.int .i64 a0, .int .i64 1, .int .i64 4] rfl (qa5_) ?_; (with_reducible refine (spec_l1In.calls a0 1 4 true _ A2.out).mono ?_); rintro e w' ⟨rfl, ⟨nd, rfl⟩⟩; refine ⟨_, rfl, ?_⟩; (try (rw [drewN_self w6]; generalize hq_ : World.drewN w6 _ = w6; have n0_ : Aside0 (w6.heap[gb106]? = some (.cells #[.int .i64 0, .slice none 0 0, .slice none 0 0, .slice none 0 0] 115 (0, 0))) := ⟨by rw [← hq_]; exact (bq_ BK106.out)⟩; have n1_ : Aside0 (Below w.heap.size w w6) := ⟨by rw [← hq_]; exact (qa4_)⟩; clear BK106 HB hq_; have BK106 := n0_; have HB := n1_; clear n0_ n1_))) | ((with_reducible refine gate_dst (N := 8) rfl ?_); refine Kd.R_make (Kd.int .i64) _ 3 rfl (N := 8) rfl 77 _ _ rfl a0 rfl rfl Try.underlying77 (.int .i64 0) 8 info3 rfl (by decide) (by omega) 0 (ok := fun _ => True) (okp := fun _ => True) rfl (fun _ hk => hk) trivial (of_decide_eq_true dt_) (Nat.le_trans (Nat.mul_le_mul_right _ (of_decide_eq_true dt_ : a0.toNat ≤ 35184372088832)) (by omega)) (Below.refl _ _) (Nat.le_refl _) ?_; intro v109 w7 ho8 hb hg_ hnew_; clear hg_ hnew_; (first | rw [← Ny108.out] at ho8 | (simp only [Int.reduceToNat] at ho8; rw [← Ny108.out] at ho8)); have HO110 := Aside0.mk (Kd.R_lower ho8 (below_size (qa4_))); replace BK106 := Aside0.mk (blk_below (g := gb106) (o := .cells #[.int .i64 0, .slice none 0 0, .slice none 0 0, .slice none 0 0] 115 (0, 0)) (bq_ BK106.out) hb); replace HB := Aside0.mk (below_step (qa4_) hb); clear hb ho8; obtain ⟨Ao9, co9, eo9⟩ := Kd.R_slice HO110.out; subst eo9; have hcz10_0 : w7.cell? ⟨gb106, 0, none⟩ = some (.int .i64 0) := bc_ BK106 0; have hcz10_1 : w7.cell? ⟨gb106, 1, none⟩ = some (.slice none 0 0) := bc_ BK106 1; have hcz10_2 : w7.cell? ⟨gb106, 2, none⟩ = some (.slice none 0 0) := bc_ BK106 2; have hcz10_3 : w7.cell? ⟨gb106, 3, none⟩ = some (.slice none 0 0) := bc_ BK106 3; have hfz10_0 := blk_frozen BK106.out 0; have hfz10_1 := blk_frozen BK106.out 1; have hfz10_2 := blk_frozen BK106.out 2; have hfz10_3 := blk_frozen BK106.out 3))
        refine bodyPost_ret (results_cell_row rfl _ _ gb106 115 #[.int .i64 0, .slice none 0 0, .slice none 0 0, .slice Ao9 y108.length co9] (0, 0) _ rfl (bp_ BK106.out) Try.underlying115 rfl (by kernel_rfl)) rfl ?_
        exact ⟨_, _, _, qa6_, qa3_, qa3_, by (with_reducible repeat (first | apply Kd.R_alloc | apply Kd.R_drewN | apply Kd.R_drew)); exact Kd.R_mono (Kd.R_far (p := ⟨gb106, 3, none⟩) (Kd.R_far (p := ⟨gb106, 2, none⟩) (Kd.R_far (p := ⟨gb106, 1, none⟩) (Kd.R_far (p := ⟨gb106, 0, none⟩) (Kd.R_types HO110.out BK106.out (by decide)) (fun _ hk => hk.2) (.int .i64 0)) (fun _ hk => hk.2) (.slice none 0 0)) (fun _ hk => hk.2) (.slice none 0 0)) (fun _ hk => hk.2) (.slice Ao9 y108.length co9)) (fun _ hk => ⟨(by simp [Value.ownBlock]), (by simp [Value.ownBlock])⟩), qa4_⟩
      · rw [if_neg c5] at H
        exact absurd H (by simp)
    · rw [if_neg c4] at H
      exact absurd H (by simp)
  · replace c3 := Bool.eq_false_iff.mpr c3
    subst c3
    have H1 : (some (0, ([] : List Int), ([] : List Int), ([] : List Int))) = some (r1, r2, r3, r4) := by rw [if_neg (show ¬ (false = true) by decide)] at H; exact H
    clear H
    have H := H1
    clear H1
    simp only [Option.some.injEq, Prod.mk.injEq] at H
    obtain ⟨rfl, rfl, rfl, rfl⟩ := H
    go_enter Try.func81, Try.ntmps81
    go_wp2_with (first | ((with_reducible refine gate_dst (N := 2) rfl ?_); refine box_event ?hg (N := 2) ?hd (cs := #[.int .i64 0, .slice none 0 0, .slice none 0 0, .slice none 0 0]) (t := 115) ?hr ?_; (case hd => rfl); (case hg => rfl); (case hr => first | (go_simp; done) | (go_simp; rfl)); intro gb106 hg w11 hbox hb; have BK106 := Aside0.mk (hbox); have GW106 := Aside0.mk ((by rw [hg]; exact (below_size (qa2_)) : w.heap.size ≤ gb106)); have GE106 := Aside0.mk ((by rw [hg]; exact (below_size (qa2_)) : w.heap.size ≤ gb106)); replace HB := Aside0.mk (below_step (qa2_) hb); clear hb hbox hg) | ((with_reducible refine gate_callee (f := 74) rfl ?_); refine goesL_ (some 4) rfl rfl Try.func74 (by kernel_rfl) rfl #[.int .i64 a0, .int .i64 1, .int .i64 4] rfl (qa5_) ?_; (with_reducible refine (spec_l1In.calls a0 1 4 false _ A2.out).mono ?_); rintro e w' ⟨rfl, ⟨nd, rfl⟩⟩; refine ⟨_, rfl, ?_⟩; (try (rw [drewN_self w11]; generalize hq_ : World.drewN w11 _ = w11; have n0_ : Aside0 (w11.heap[gb106]? = some (.cells #[.int .i64 0, .slice none 0 0, .slice none 0 0, .slice none 0 0] 115 (0, 0))) := ⟨by rw [← hq_]; exact (bq_ BK106.out)⟩; have n1_ : Aside0 (Below w.heap.size w w11) := ⟨by rw [← hq_]; exact (qa4_)⟩; clear BK106 HB hq_; have BK106 := n0_; have HB := n1_; clear n0_ n1_)); have hcz12_0 : w11.cell? ⟨gb106, 0, none⟩ = some (.int .i64 0) := bc_ BK106 0; have hcz12_1 : w11.cell? ⟨gb106, 1, none⟩ = some (.slice none 0 0) := bc_ BK106 1; have hcz12_2 : w11.cell? ⟨gb106, 2, none⟩ = some (.slice none 0 0) := bc_ BK106 2; have hcz12_3 : w11.cell? ⟨gb106, 3, none⟩ = some (.slice none 0 0) := bc_ BK106 3; have hfz12_0 := blk_frozen BK106.out 0; have hfz12_1 := blk_frozen BK106.out 1; have hfz12_2 := blk_frozen BK106.out 2; have hfz12_3 := blk_frozen BK106.out 3))
    refine bodyPost_ret (results_cell_row rfl _ _ gb106 115 #[.int .i64 0, .slice none 0 0, .slice none 0 0, .slice none 0 0] (0, 0) _ rfl (bp_ BK106.out) Try.underlying115 rfl (by kernel_rfl)) rfl ?_
    exact ⟨_, _, _, qa6_, qa3_, qa3_, qa3_, qa4_⟩
/-! ### spec_KeepNew: function 44 -/
def spec_KeepNew.l0 : Nat → Int → Int → Int → Int → Int → List (S_Row) → List (S_Group) → Int → List Int → List (S_Answer) → Option ((List (S_Row)) × (List (S_Maker)) × (List (S_Group)) × Int × List Int × (List (S_Answer)))
 | 0, _, _, _, _, _, _, _, _, _, _ => none
 | k + 1, x4, x112000, x112001, x112002, x112003, x124000, x124002, x124003, x124004, x124005 => if x4 < 2 then ((spec_GroupNew.f x112000).bind fun bt124 => (if x124002.length < 1759218604441 then (spec_KeepNew.l0 k (wrap64 (x4 + 1)) x112000 x112001 x112002 x112003 x124000 (x124002 ++ [(⟨bt124.1, bt124.2.1, bt124.2.2.1, bt124.2.2.2⟩ : S_Group)]) x124003 x124004 x124005) else (none))) else (some (x124000, ([] : List (S_Maker)), x124002, x124003, x124004, x124005))
def spec_KeepNew.f (k : Nat) (a0_0 : Int) (a0_1 : Int) (a0_2 : Int) (a0_3 : Int) : Option ((List (S_Row)) × (List (S_Maker)) × (List (S_Group)) × Int × List Int × (List (S_Answer))) := (spec_SetupOk.f a0_0 a0_1 a0_2 a0_3).bind fun t113 => (if t113 = true then (if 0 ≤ a0_0 then (if (a0_0 : Int).toNat ≤ 7036874417766 then (if 4 ≤ 35184372088832 then (if 4 ≤ 5864062014805 then (spec_KeepNew.l0 k 0 a0_0 a0_1 a0_2 a0_3 (List.replicate (a0_0 : Int).toNat z_Row) ([] : List (S_Group)) 0 (List.replicate 4 0) (List.replicate 4 z_Answer)) else (none)) else (none)) else (none)) else (none)) else (some (([] : List (S_Row)), ([] : List (S_Maker)), ([] : List (S_Group)), 0, ([] : List Int), ([] : List (S_Answer)))))
theorem spec_KeepNew.mono_l : ∀ k, (∀ y0 y1 y2 y3 y4 y5 y6 y7 y8 y9, LeO (spec_KeepNew.l0 k y0 y1 y2 y3 y4 y5 y6 y7 y8 y9) (spec_KeepNew.l0 (k + 1) y0 y1 y2 y3 y4 y5 y6 y7 y8 y9))
 | 0 => fun _ _ _ _ _ _ _ _ _ _ r h => by simp [spec_KeepNew.l0] at h
 | k + 1 => by
  have ih0 := spec_KeepNew.mono_l k
  ·
   intro y0 y1 y2 y3 y4 y5 y6 y7 y8 y9
   unfold spec_KeepNew.l0
   exact qah0_
theorem spec_KeepNew.mono : ∀ a0 a1 a2 a3 k, LeO (spec_KeepNew.f k a0 a1 a2 a3) (spec_KeepNew.f (k + 1) a0 a1 a2 a3) := by
 intro a0 a1 a2 a3 k
 have ih0 := spec_KeepNew.mono_l k
 unfold spec_KeepNew.f
 exact qah0_
def spec_KeepNew.T3 : Bool × List (List Nat × List Nat) := (true, [([], []), ([0], [0]), ([1, 1], [1]), ([], []), ([], []), ([2, 3, 4], [2, 3, 4]), ([], []), ([6, 5, 0, 1, 2, 3, 4, 5, 6], [5, 6])])
def spec_KeepNew.B3 : List Nat := [0, 1, 3, 0, 0, 31, 0, 127]
theorem spec_KeepNew.tab3 : rtab .any (opsOf Try.f44 3) = spec_KeepNew.T3 := by kernel_rfl
theorem spec_KeepNew.bits3 : waitsOk spec_KeepNew.T3.2 spec_KeepNew.B3 = true := by kernel_rfl
def spec_KeepNew.T7 : Bool × List (List Nat × List Nat) := (true, [([], []), ([0], [0]), ([], []), ([2], [2]), ([3], [3]), ([4], [4]), ([1, 5, 4], [1, 5]), ([0, 1, 2, 3, 4, 5, 6], []), ([7, 6, 6, 0, 1, 2, 3, 4, 5, 6], [6, 7])])
def spec_KeepNew.B7 : List Nat := [0, 1, 0, 4, 12, 28, 63, 127, 255]
theorem spec_KeepNew.tab7 : rtab .any (opsOf Try.f44 7) = spec_KeepNew.T7 := by kernel_rfl
theorem spec_KeepNew.bits7 : waitsOk spec_KeepNew.T7.2 spec_KeepNew.B7 = true := by kernel_rfl
set_option maxHeartbeats 8000000 in
set_option maxRecDepth 100000 in
theorem spec_KeepNew.calls (k : Nat) (a0_0 : Int) (a0_1 : Int) (a0_2 : Int) (a0_3 : Int) (r1 : List (S_Row)) (r2 : List (S_Maker)) (r3 : List (S_Group)) (r4 : Int) (r5 : List Int) (r6 : List (S_Answer)) (w : World) (h : spec_KeepNew.f k a0_0 a0_1 a0_2 a0_3 = some (r1, r2, r3, r4, r5, r6)) :
 Calls Try.prog 44 #[.agg #[.int .i64 a0_0, .int .i64 a0_1, .int .i64 a0_2, .int .i64 a0_3]] w fun e w' => ∃ v0_ v1_ v2_ v4_ v5_ : Value, e = .returned (.agg #[v0_, v1_, v2_, .int .i64 r4, v4_, v5_]) ∧ Kd.S k_Row 26 w' w.heap.size (fun _ => True) v0_ r1 ∧ Kd.S k_Maker 38 w' w.heap.size (fun _ => True) v1_ r2 ∧ Kd.S k_Group 115 w' w.heap.size (fun k_ => some k_ ≠ (v4_ : Value).ownBlock) v2_ r3 ∧ Kd.R (Kd.int .i64) 3 w' w.heap.size (fun _ => True) v4_ r5 ∧ Kd.R k_Answer 144 w' w.heap.size (fun _ => True) v5_ r6 ∧ Below w.heap.size w w' := by
 have hu82 := Try.underlying82
 have hu80 := Try.underlying80
 have HB := Aside0.mk (Below.refl w.heap.size w)
 have H : ((spec_SetupOk.f a0_0 a0_1 a0_2 a0_3).bind fun t113 => (if t113 = true then (if 0 ≤ a0_0 then (if (a0_0 : Int).toNat ≤ 7036874417766 then (if 4 ≤ 35184372088832 then (if 4 ≤ 5864062014805 then (spec_KeepNew.l0 k 0 a0_0 a0_1 a0_2 a0_3 (List.replicate (a0_0 : Int).toNat z_Row) ([] : List (S_Group)) 0 (List.replicate 4 0) (List.replicate 4 z_Answer)) else (none)) else (none)) else (none)) else (none)) else (some (([] : List (S_Row)), ([] : List (S_Maker)), ([] : List (S_Group)), 0, ([] : List Int), ([] : List (S_Answer)))))) = some (r1, r2, r3, r4, r5, r6) := h
 clear h
 replace H := Option.bind_eq_some_iff.mp H
 obtain ⟨t113, A20, H⟩ := H
 replace H : (if t113 = true then (if 0 ≤ a0_0 then (if (a0_0 : Int).toNat ≤ 7036874417766 then (if 4 ≤ 35184372088832 then (if 4 ≤ 5864062014805 then (spec_KeepNew.l0 k 0 a0_0 a0_1 a0_2 a0_3 (List.replicate (a0_0 : Int).toNat z_Row) ([] : List (S_Group)) 0 (List.replicate 4 0) (List.replicate 4 z_Answer)) else (none)) else (none)) else (none)) else (none)) else (some (([] : List (S_Row)), ([] : List (S_Maker)), ([] : List (S_Group)), 0, ([] : List Int), ([] : List (S_Answer))))) = some (r1, r2, r3, r4, r5, r6) := H
 have A2 := Aside0.mk A20
 clear A20
 by_cases c3 : t113 = true
 ·
  subst c3
  have H1 : (if 0 ≤ a0_0 then (if (a0_0 : Int).toNat ≤ 7036874417766 then (if 4 ≤ 35184372088832 then (if 4 ≤ 5864062014805 then (spec_KeepNew.l0 k 0 a0_0 a0_1 a0_2 a0_3 (List.replicate (a0_0 : Int).toNat z_Row) ([] : List (S_Group)) 0 (List.replicate 4 0) (List.replicate 4 z_Answer)) else (none)) else (none)) else (none)) else (none)) = some (r1, r2, r3, r4, r5, r6) := by rw [if_pos rfl] at H; exact H
  clear H
  have H := H1
  clear H1
  by_cases c4 : 0 ≤ a0_0
  ·
   rw [if_pos c4] at H
   have c4b0 := eq_true c4
   have c4b1 : decide (0 ≤ a0_0) = true := decide_eq_true c4
   clear c4
   by_cases c5 : (a0_0 : Int).toNat ≤ 7036874417766
   ·
    rw [if_pos c5] at H
    have c5b0 := eq_true c5
    have c5b1 : decide ((a0_0 : Int).toNat ≤ 7036874417766) = true := decide_eq_true c5
    clear c5
    obtain ⟨y114, hy114⟩ : ∃ y_ : List (S_Row), y_ = (List.replicate (a0_0 : Int).toNat z_Row) := ⟨_, rfl⟩
    replace H : (if 4 ≤ 35184372088832 then (if 4 ≤ 5864062014805 then (spec_KeepNew.l0 k 0 a0_0 a0_1 a0_2 a0_3 y114 ([] : List (S_Group)) 0 (List.replicate 4 0) (List.replicate 4 z_Answer)) else (none)) else (none)) = some (r1, r2, r3, r4, r5, r6) := by first | (rw [hy114]; with_reducible exact H) | (have H2_ := (Option.bind_some _ _).symm.trans H; rw [hy114]; with_reducible exact H2_) | (have H2_ := (Option.bind_some _ _).symm.trans H; with_reducible exact H2_) | with_reducible exact H | (rw [hy114]; exact H) | exact H
    have Ny114 := Aside0.mk hy114
    clear hy114
    by_cases c6 : 4 ≤ 35184372088832
    ·
     rw [if_pos c6] at H
     have c6b0 := eq_true c6
     have c6b1 : decide (4 ≤ 35184372088832) = true := decide_eq_true c6
     clear c6
     obtain ⟨y117, hy117⟩ : ∃ y_ : List Int, y_ = (List.replicate 4 0) := ⟨_, rfl⟩
     replace H : (if 4 ≤ 5864062014805 then (spec_KeepNew.l0 k 0 a0_0 a0_1 a0_2 a0_3 y114 ([] : List (S_Group)) 0 y117 (List.replicate 4 z_Answer)) else (none)) = some (r1, r2, r3, r4, r5, r6) := by first | (rw [hy117]; with_reducible exact H) | (have H2_ := (Option.bind_some _ _).symm.trans H; rw [hy117]; with_reducible exact H2_) | (have H2_ := (Option.bind_some _ _).symm.trans H; with_reducible exact H2_) | with_reducible exact H | (rw [hy117]; exact H) | exact H
     have Ny117 := Aside0.mk hy117
     clear hy117
     by_cases c7 : 4 ≤ 5864062014805
     ·
      rw [if_pos c7] at H
      have c7b0 := eq_true c7
      have c7b1 : decide (4 ≤ 5864062014805) = true := decide_eq_true c7
      clear c7
      obtain ⟨y120, hy120⟩ : ∃ y_ : List (S_Answer), y_ = (List.replicate 4 z_Answer) := ⟨_, rfl⟩
      replace H : (spec_KeepNew.l0 k 0 a0_0 a0_1 a0_2 a0_3 y114 ([] : List (S_Group)) 0 y117 y120) = some (r1, r2, r3, r4, r5, r6) := by first | (rw [hy120]; with_reducible exact H) | (have H2_ := (Option.bind_some _ _).symm.trans H; rw [hy120]; with_reducible exact H2_) | (have H2_ := (Option.bind_some _ _).symm.trans H; with_reducible exact H2_) | with_reducible exact H | (rw [hy120]; exact H) | exact H
      have Ny120 := Aside0.mk hy120
      clear hy120
      have H' := Aside0.mk H
      clear H
      go_enter Try.func44, Try.ntmps44
      try go_wp2_with (first | ((with_reducible refine gate_dst (N := 1) rfl ?_); refine box_event ?hg (N := 1) ?hd (cs := #[.int .i64 a0_0, .int .i64 a0_1, .int .i64 a0_2, .int .i64 a0_3]) (t := 82) ?hr ?_; (case hd => rfl); (case hg => rfl); (case hr => first | (go_simp; done) | (go_simp; rfl)); intro gb111 hg w8 hbox hb; have BK111 := Aside0.mk (hbox); have GW111 := cz_ HB hg; have GE111 := cz_ HB hg; replace HB := ch_ HB hb; clear hb hbox hg) | ((with_reducible refine gate_dst (N := 2) rfl ?_); refine box_event ?hg (N := 2) ?hd (cs := #[.slice none 0 0, .slice none 0 0, .slice none 0 0, .int .i64 0, .slice none 0 0, .slice none 0 0]) (t := 80) ?hr ?_; (case hd => rfl); (case hg => rfl); (case hr => first | (go_simp; done) | (go_simp; rfl)); intro gb112 hg w9 hbox hb; have BK112 := Aside0.mk (hbox); have GW112 := cz_ HB hg; have GE112 := cz_ HB hg; have NB111_112 := cn_ BK111 hg; have NB112_111 := cm_ BK111 hg; replace BK111 := cb_ BK111 hb; replace HB := ch_ HB hb; clear hb hbox hg; have hnb10 := NB111_112.out; have hnc10 := NB112_111.out; have hcz11_0 : w9.cell? ⟨gb111, 0, none⟩ = some (.int .i64 a0_0) := bc_ BK111 0; have hcz11_1 : w9.cell? ⟨gb111, 1, none⟩ = some (.int .i64 a0_1) := bc_ BK111 1; have hcz11_2 : w9.cell? ⟨gb111, 2, none⟩ = some (.int .i64 a0_2) := bc_ BK111 2; have hcz11_3 : w9.cell? ⟨gb111, 3, none⟩ = some (.int .i64 a0_3) := bc_ BK111 3; have hfz11_0 := blk_frozen BK111.out 0; have hfz11_1 := blk_frozen BK111.out 1; have hfz11_2 := blk_frozen BK111.out 2; have hfz11_3 := blk_frozen BK111.out 3) | ((with_reducible refine gate_callee (f := 80) rfl ?_); refine goesL_ (some 6) rfl rfl Try.func80 (by kernel_rfl) rfl #[.agg #[.int .i64 a0_0, .int .i64 a0_1, .int .i64 a0_2, .int .i64 a0_3]] rfl sm_ ?_; (with_reducible refine (spec_SetupOk.calls a0_0 a0_1 a0_2 a0_3 true _ A2.out).mono ?_); rintro e w12 ⟨rfl, hb⟩; refine ⟨_, rfl, ?_⟩; replace BK111 := cb_ BK111 hb; replace BK112 := cb_ BK112 hb; replace HB := ch_ HB hb; (try clear hb); (try clear hb2); (try clear hk); (try clear hi)))
      replace BK111 := Aside0.mk (blk_drew BK111.out)
      replace BK112 := Aside0.mk (blk_drew BK112.out)
      replace HB := Aside0.mk (below_drew1 HB.out)
      refine start_ (n := 8) (S := fun w' => w'.cell? ⟨gb111, 0, none⟩ = some (.int .i64 a0_0) ∧ w'.cell? ⟨gb111, 1, none⟩ = some (.int .i64 a0_1) ∧ w'.cell? ⟨gb111, 2, none⟩ = some (.int .i64 a0_2) ∧ w'.cell? ⟨gb111, 3, none⟩ = some (.int .i64 a0_3)) (ds := []) #[false, false, false, false, false, false, false, false] (by kernel_rfl) rfl rfl ⟨bc_ BK111 0, bc_ BK111 1, bc_ BK111 2, bc_ BK111 3⟩ (fun hHeld => ?_); refine with_tabW spec_KeepNew.tab3 spec_KeepNew.bits3 (fun HT_ HW_ => ?_)
      generalize w12.drew = w13 at BK111 BK112 HB hHeld ⊢
      refine pI_ 0 9 HT_ #[true, false, false, false, false, false, false, false] rfl rfl ?_
      refine tk_ 1 10 HT_ HW_ #[true, true, false, false, false, false, false, false] rfl rfl hHeld ?_
      refine join_ (σ := Value × Value × Value × Nat) 1 #[true, true, true, true, true, true, true, false] (fun s_ => [(11, s_.1), (12, s_.2.1), (13, s_.2.2.1), (3, .pointer (some ⟨s_.2.2.2, 0, none⟩)), (14, .agg #[s_.1, .slice none 0 0, .slice none 0 0, .int .i64 0, s_.2.1, s_.2.2.1])]) (fun s_ w' => (w'.cell? ⟨gb111, 0, none⟩ = some (.int .i64 a0_0) ∧ w'.cell? ⟨gb111, 1, none⟩ = some (.int .i64 a0_1) ∧ w'.cell? ⟨gb111, 2, none⟩ = some (.int .i64 a0_2) ∧ w'.cell? ⟨gb111, 3, none⟩ = some (.int .i64 a0_3)) ∧ (Kd.S k_Row 26 w' w.heap.size (fun _ => True) s_.1 y114) ∧ (Kd.R (Kd.int .i64) 3 w' w.heap.size (fun _ => True) s_.2.1 y117) ∧ (Kd.R k_Answer 144 w' w.heap.size (fun _ => True) s_.2.2.1 y120) ∧ (w'.heap[gb111]? = some (.cells #[.int .i64 a0_0, .int .i64 a0_1, .int .i64 a0_2, .int .i64 a0_3] 82 (0, 0))) ∧ (w'.heap[gb112]? = some (.cells #[.slice none 0 0, .slice none 0 0, .slice none 0 0, .int .i64 0, .slice none 0 0, .slice none 0 0] 80 (0, 0))) ∧ (w'.heap[s_.2.2.2]? = some (.cells #[.slice none 0 0, .slice none 0 0, .slice none 0 0, .int .i64 0, .slice none 0 0, .slice none 0 0] 80 (0, 0))) ∧ (w.heap.size ≤ s_.2.2.2) ∧ (w.heap.size ≤ s_.2.2.2) ∧ (gb111 ≠ s_.2.2.2) ∧ (s_.2.2.2 ≠ gb111) ∧ (gb112 ≠ s_.2.2.2) ∧ (s_.2.2.2 ≠ gb112) ∧ (Below w.heap.size w w')) ?_ ?_
      rotate_left
      ·
       intro hJ2_3_4_6
       refine join_ (σ := Value × Value × Value) 2 #[true, true, true, true, true, true, false, false] (fun s_ => [(11, s_.1), (12, s_.2.1), (13, s_.2.2), (14, .agg #[s_.1, .slice none 0 0, .slice none 0 0, .int .i64 0, s_.2.1, s_.2.2])]) (fun s_ w' => (w'.cell? ⟨gb111, 0, none⟩ = some (.int .i64 a0_0) ∧ w'.cell? ⟨gb111, 1, none⟩ = some (.int .i64 a0_1) ∧ w'.cell? ⟨gb111, 2, none⟩ = some (.int .i64 a0_2) ∧ w'.cell? ⟨gb111, 3, none⟩ = some (.int .i64 a0_3)) ∧ (Kd.S k_Row 26 w' w.heap.size (fun _ => True) s_.1 y114) ∧ (Kd.R (Kd.int .i64) 3 w' w.heap.size (fun _ => True) s_.2.1 y117) ∧ (Kd.R k_Answer 144 w' w.heap.size (fun _ => True) s_.2.2 y120) ∧ (w'.heap[gb111]? = some (.cells #[.int .i64 a0_0, .int .i64 a0_1, .int .i64 a0_2, .int .i64 a0_3] 82 (0, 0))) ∧ (w'.heap[gb112]? = some (.cells #[.slice none 0 0, .slice none 0 0, .slice none 0 0, .int .i64 0, .slice none 0 0, .slice none 0 0] 80 (0, 0))) ∧ (Below w.heap.size w w')) ?_ ?_
       rotate_left
       ·
        intro hJ2_3_4
        refine join_ (σ := Value × Value × Nat) 3 #[true, true, true, true, false, false, true, false] (fun s_ => [(11, s_.1), (12, s_.2.1), (3, .pointer (some ⟨s_.2.2, 0, none⟩))]) (fun s_ w' => (w'.cell? ⟨gb111, 0, none⟩ = some (.int .i64 a0_0) ∧ w'.cell? ⟨gb111, 1, none⟩ = some (.int .i64 a0_1) ∧ w'.cell? ⟨gb111, 2, none⟩ = some (.int .i64 a0_2) ∧ w'.cell? ⟨gb111, 3, none⟩ = some (.int .i64 a0_3)) ∧ (Kd.S k_Row 26 w' w.heap.size (fun _ => True) s_.1 y114) ∧ (Kd.R (Kd.int .i64) 3 w' w.heap.size (fun _ => True) s_.2.1 y117) ∧ (w'.heap[gb111]? = some (.cells #[.int .i64 a0_0, .int .i64 a0_1, .int .i64 a0_2, .int .i64 a0_3] 82 (0, 0))) ∧ (w'.heap[gb112]? = some (.cells #[.slice none 0 0, .slice none 0 0, .slice none 0 0, .int .i64 0, .slice none 0 0, .slice none 0 0] 80 (0, 0))) ∧ (w'.heap[s_.2.2]? = some (.cells #[.slice none 0 0, .slice none 0 0, .slice none 0 0, .int .i64 0, .slice none 0 0, .slice none 0 0] 80 (0, 0))) ∧ (w.heap.size ≤ s_.2.2) ∧ (w.heap.size ≤ s_.2.2) ∧ (gb111 ≠ s_.2.2) ∧ (s_.2.2 ≠ gb111) ∧ (gb112 ≠ s_.2.2) ∧ (s_.2.2 ≠ gb112) ∧ (Below w.heap.size w w')) ?_ ?_
        rotate_left
        ·
         intro hJ2_3_6
         refine join_ (σ := Value × Value × Nat) 3 #[true, true, true, false, true, false, true, false] (fun s_ => [(11, s_.1), (13, s_.2.1), (3, .pointer (some ⟨s_.2.2, 0, none⟩))]) (fun s_ w' => (w'.cell? ⟨gb111, 0, none⟩ = some (.int .i64 a0_0) ∧ w'.cell? ⟨gb111, 1, none⟩ = some (.int .i64 a0_1) ∧ w'.cell? ⟨gb111, 2, none⟩ = some (.int .i64 a0_2) ∧ w'.cell? ⟨gb111, 3, none⟩ = some (.int .i64 a0_3)) ∧ (Kd.S k_Row 26 w' w.heap.size (fun _ => True) s_.1 y114) ∧ (Kd.R k_Answer 144 w' w.heap.size (fun _ => True) s_.2.1 y120) ∧ (w'.heap[gb111]? = some (.cells #[.int .i64 a0_0, .int .i64 a0_1, .int .i64 a0_2, .int .i64 a0_3] 82 (0, 0))) ∧ (w'.heap[gb112]? = some (.cells #[.slice none 0 0, .slice none 0 0, .slice none 0 0, .int .i64 0, .slice none 0 0, .slice none 0 0] 80 (0, 0))) ∧ (w'.heap[s_.2.2]? = some (.cells #[.slice none 0 0, .slice none 0 0, .slice none 0 0, .int .i64 0, .slice none 0 0, .slice none 0 0] 80 (0, 0))) ∧ (w.heap.size ≤ s_.2.2) ∧ (w.heap.size ≤ s_.2.2) ∧ (gb111 ≠ s_.2.2) ∧ (s_.2.2 ≠ gb111) ∧ (gb112 ≠ s_.2.2) ∧ (s_.2.2 ≠ gb112) ∧ (Below w.heap.size w w')) ?_ ?_
         rotate_left
         ·
          intro hJ2_4_6
          refine join_ (σ := Value × Value × Nat) 3 #[true, true, false, true, true, false, true, false] (fun s_ => [(12, s_.1), (13, s_.2.1), (3, .pointer (some ⟨s_.2.2, 0, none⟩))]) (fun s_ w' => (w'.cell? ⟨gb111, 0, none⟩ = some (.int .i64 a0_0) ∧ w'.cell? ⟨gb111, 1, none⟩ = some (.int .i64 a0_1) ∧ w'.cell? ⟨gb111, 2, none⟩ = some (.int .i64 a0_2) ∧ w'.cell? ⟨gb111, 3, none⟩ = some (.int .i64 a0_3)) ∧ (Kd.R (Kd.int .i64) 3 w' w.heap.size (fun _ => True) s_.1 y117) ∧ (Kd.R k_Answer 144 w' w.heap.size (fun _ => True) s_.2.1 y120) ∧ (w'.heap[gb111]? = some (.cells #[.int .i64 a0_0, .int .i64 a0_1, .int .i64 a0_2, .int .i64 a0_3] 82 (0, 0))) ∧ (w'.heap[gb112]? = some (.cells #[.slice none 0 0, .slice none 0 0, .slice none 0 0, .int .i64 0, .slice none 0 0, .slice none 0 0] 80 (0, 0))) ∧ (w'.heap[s_.2.2]? = some (.cells #[.slice none 0 0, .slice none 0 0, .slice none 0 0, .int .i64 0, .slice none 0 0, .slice none 0 0] 80 (0, 0))) ∧ (w.heap.size ≤ s_.2.2) ∧ (w.heap.size ≤ s_.2.2) ∧ (gb111 ≠ s_.2.2) ∧ (s_.2.2 ≠ gb111) ∧ (gb112 ≠ s_.2.2) ∧ (s_.2.2 ≠ gb112) ∧ (Below w.heap.size w w')) ?_ ?_
          rotate_left
          ·
           intro hJ3_4_6
           refine join_ (σ := Value × Value) 4 #[true, true, true, true, false, false, false, false] (fun s_ => [(11, s_.1), (12, s_.2)]) (fun s_ w' => (w'.cell? ⟨gb111, 0, none⟩ = some (.int .i64 a0_0) ∧ w'.cell? ⟨gb111, 1, none⟩ = some (.int .i64 a0_1) ∧ w'.cell? ⟨gb111, 2, none⟩ = some (.int .i64 a0_2) ∧ w'.cell? ⟨gb111, 3, none⟩ = some (.int .i64 a0_3)) ∧ (Kd.S k_Row 26 w' w.heap.size (fun _ => True) s_.1 y114) ∧ (Kd.R (Kd.int .i64) 3 w' w.heap.size (fun _ => True) s_.2 y117) ∧ (w'.heap[gb111]? = some (.cells #[.int .i64 a0_0, .int .i64 a0_1, .int .i64 a0_2, .int .i64 a0_3] 82 (0, 0))) ∧ (w'.heap[gb112]? = some (.cells #[.slice none 0 0, .slice none 0 0, .slice none 0 0, .int .i64 0, .slice none 0 0, .slice none 0 0] 80 (0, 0))) ∧ (Below w.heap.size w w')) ?_ ?_
           rotate_left
           ·
            intro hJ2_3
            refine join_ (σ := Value × Value) 4 #[true, true, true, false, true, false, false, false] (fun s_ => [(11, s_.1), (13, s_.2)]) (fun s_ w' => (w'.cell? ⟨gb111, 0, none⟩ = some (.int .i64 a0_0) ∧ w'.cell? ⟨gb111, 1, none⟩ = some (.int .i64 a0_1) ∧ w'.cell? ⟨gb111, 2, none⟩ = some (.int .i64 a0_2) ∧ w'.cell? ⟨gb111, 3, none⟩ = some (.int .i64 a0_3)) ∧ (Kd.S k_Row 26 w' w.heap.size (fun _ => True) s_.1 y114) ∧ (Kd.R k_Answer 144 w' w.heap.size (fun _ => True) s_.2 y120) ∧ (w'.heap[gb111]? = some (.cells #[.int .i64 a0_0, .int .i64 a0_1, .int .i64 a0_2, .int .i64 a0_3] 82 (0, 0))) ∧ (w'.heap[gb112]? = some (.cells #[.slice none 0 0, .slice none 0 0, .slice none 0 0, .int .i64 0, .slice none 0 0, .slice none 0 0] 80 (0, 0))) ∧ (Below w.heap.size w w')) ?_ ?_
            rotate_left
            ·
             intro hJ2_4
             refine join_ (σ := Value × Nat) 4 #[true, true, true, false, false, false, true, false] (fun s_ => [(11, s_.1), (3, .pointer (some ⟨s_.2, 0, none⟩))]) (fun s_ w' => (w'.cell? ⟨gb111, 0, none⟩ = some (.int .i64 a0_0) ∧ w'.cell? ⟨gb111, 1, none⟩ = some (.int .i64 a0_1) ∧ w'.cell? ⟨gb111, 2, none⟩ = some (.int .i64 a0_2) ∧ w'.cell? ⟨gb111, 3, none⟩ = some (.int .i64 a0_3)) ∧ (Kd.S k_Row 26 w' w.heap.size (fun _ => True) s_.1 y114) ∧ (w'.heap[gb111]? = some (.cells #[.int .i64 a0_0, .int .i64 a0_1, .int .i64 a0_2, .int .i64 a0_3] 82 (0, 0))) ∧ (w'.heap[gb112]? = some (.cells #[.slice none 0 0, .slice none 0 0, .slice none 0 0, .int .i64 0, .slice none 0 0, .slice none 0 0] 80 (0, 0))) ∧ (w'.heap[s_.2]? = some (.cells #[.slice none 0 0, .slice none 0 0, .slice none 0 0, .int .i64 0, .slice none 0 0, .slice none 0 0] 80 (0, 0))) ∧ (w.heap.size ≤ s_.2) ∧ (w.heap.size ≤ s_.2) ∧ (gb111 ≠ s_.2) ∧ (s_.2 ≠ gb111) ∧ (gb112 ≠ s_.2) ∧ (s_.2 ≠ gb112) ∧ (Below w.heap.size w w')) ?_ ?_
             rotate_left
             ·
              intro hJ2_6
              refine join_ (σ := Value × Value) 4 #[true, true, false, true, true, false, false, false] (fun s_ => [(12, s_.1), (13, s_.2)]) (fun s_ w' => (w'.cell? ⟨gb111, 0, none⟩ = some (.int .i64 a0_0) ∧ w'.cell? ⟨gb111, 1, none⟩ = some (.int .i64 a0_1) ∧ w'.cell? ⟨gb111, 2, none⟩ = some (.int .i64 a0_2) ∧ w'.cell? ⟨gb111, 3, none⟩ = some (.int .i64 a0_3)) ∧ (Kd.R (Kd.int .i64) 3 w' w.heap.size (fun _ => True) s_.1 y117) ∧ (Kd.R k_Answer 144 w' w.heap.size (fun _ => True) s_.2 y120) ∧ (w'.heap[gb111]? = some (.cells #[.int .i64 a0_0, .int .i64 a0_1, .int .i64 a0_2, .int .i64 a0_3] 82 (0, 0))) ∧ (w'.heap[gb112]? = some (.cells #[.slice none 0 0, .slice none 0 0, .slice none 0 0, .int .i64 0, .slice none 0 0, .slice none 0 0] 80 (0, 0))) ∧ (Below w.heap.size w w')) ?_ ?_
              rotate_left
              ·
               intro hJ3_4
               refine join_ (σ := Value × Nat) 4 #[true, true, false, true, false, false, true, false] (fun s_ => [(12, s_.1), (3, .pointer (some ⟨s_.2, 0, none⟩))]) (fun s_ w' => (w'.cell? ⟨gb111, 0, none⟩ = some (.int .i64 a0_0) ∧ w'.cell? ⟨gb111, 1, none⟩ = some (.int .i64 a0_1) ∧ w'.cell? ⟨gb111, 2, none⟩ = some (.int .i64 a0_2) ∧ w'.cell? ⟨gb111, 3, none⟩ = some (.int .i64 a0_3)) ∧ (Kd.R (Kd.int .i64) 3 w' w.heap.size (fun _ => True) s_.1 y117) ∧ (w'.heap[gb111]? = some (.cells #[.int .i64 a0_0, .int .i64 a0_1, .int .i64 a0_2, .int .i64 a0_3] 82 (0, 0))) ∧ (w'.heap[gb112]? = some (.cells #[.slice none 0 0, .slice none 0 0, .slice none 0 0, .int .i64 0, .slice none 0 0, .slice none 0 0] 80 (0, 0))) ∧ (w'.heap[s_.2]? = some (.cells #[.slice none 0 0, .slice none 0 0, .slice none 0 0, .int .i64 0, .slice none 0 0, .slice none 0 0] 80 (0, 0))) ∧ (w.heap.size ≤ s_.2) ∧ (w.heap.size ≤ s_.2) ∧ (gb111 ≠ s_.2) ∧ (s_.2 ≠ gb111) ∧ (gb112 ≠ s_.2) ∧ (s_.2 ≠ gb112) ∧ (Below w.heap.size w w')) ?_ ?_
               rotate_left
               ·
                intro hJ3_6
                refine join_ (σ := Value × Nat) 4 #[true, true, false, false, true, false, true, false] (fun s_ => [(13, s_.1), (3, .pointer (some ⟨s_.2, 0, none⟩))]) (fun s_ w' => (w'.cell? ⟨gb111, 0, none⟩ = some (.int .i64 a0_0) ∧ w'.cell? ⟨gb111, 1, none⟩ = some (.int .i64 a0_1) ∧ w'.cell? ⟨gb111, 2, none⟩ = some (.int .i64 a0_2) ∧ w'.cell? ⟨gb111, 3, none⟩ = some (.int .i64 a0_3)) ∧ (Kd.R k_Answer 144 w' w.heap.size (fun _ => True) s_.1 y120) ∧ (w'.heap[gb111]? = some (.cells #[.int .i64 a0_0, .int .i64 a0_1, .int .i64 a0_2, .int .i64 a0_3] 82 (0, 0))) ∧ (w'.heap[gb112]? = some (.cells #[.slice none 0 0, .slice none 0 0, .slice none 0 0, .int .i64 0, .slice none 0 0, .slice none 0 0] 80 (0, 0))) ∧ (w'.heap[s_.2]? = some (.cells #[.slice none 0 0, .slice none 0 0, .slice none 0 0, .int .i64 0, .slice none 0 0, .slice none 0 0] 80 (0, 0))) ∧ (w.heap.size ≤ s_.2) ∧ (w.heap.size ≤ s_.2) ∧ (gb111 ≠ s_.2) ∧ (s_.2 ≠ gb111) ∧ (gb112 ≠ s_.2) ∧ (s_.2 ≠ gb112) ∧ (Below w.heap.size w w')) ?_ ?_
                rotate_left
                ·
                 intro hJ4_6
                 refine join_ (σ := Value) 5 #[true, true, true, false, false, false, false, false] (fun s_ => [(11, s_)]) (fun s_ w' => (w'.cell? ⟨gb111, 0, none⟩ = some (.int .i64 a0_0) ∧ w'.cell? ⟨gb111, 1, none⟩ = some (.int .i64 a0_1) ∧ w'.cell? ⟨gb111, 2, none⟩ = some (.int .i64 a0_2) ∧ w'.cell? ⟨gb111, 3, none⟩ = some (.int .i64 a0_3)) ∧ (Kd.S k_Row 26 w' w.heap.size (fun _ => True) s_ y114) ∧ (w'.heap[gb111]? = some (.cells #[.int .i64 a0_0, .int .i64 a0_1, .int .i64 a0_2, .int .i64 a0_3] 82 (0, 0))) ∧ (w'.heap[gb112]? = some (.cells #[.slice none 0 0, .slice none 0 0, .slice none 0 0, .int .i64 0, .slice none 0 0, .slice none 0 0] 80 (0, 0))) ∧ (Below w.heap.size w w')) ?_ ?_
                 rotate_left
                 ·
                  intro hJ2
                  refine join_ (σ := Value) 5 #[true, true, false, true, false, false, false, false] (fun s_ => [(12, s_)]) (fun s_ w' => (w'.cell? ⟨gb111, 0, none⟩ = some (.int .i64 a0_0) ∧ w'.cell? ⟨gb111, 1, none⟩ = some (.int .i64 a0_1) ∧ w'.cell? ⟨gb111, 2, none⟩ = some (.int .i64 a0_2) ∧ w'.cell? ⟨gb111, 3, none⟩ = some (.int .i64 a0_3)) ∧ (Kd.R (Kd.int .i64) 3 w' w.heap.size (fun _ => True) s_ y117) ∧ (w'.heap[gb111]? = some (.cells #[.int .i64 a0_0, .int .i64 a0_1, .int .i64 a0_2, .int .i64 a0_3] 82 (0, 0))) ∧ (w'.heap[gb112]? = some (.cells #[.slice none 0 0, .slice none 0 0, .slice none 0 0, .int .i64 0, .slice none 0 0, .slice none 0 0] 80 (0, 0))) ∧ (Below w.heap.size w w')) ?_ ?_
                  rotate_left
                  ·
                   intro hJ3
                   refine join_ (σ := Value) 5 #[true, true, false, false, true, false, false, false] (fun s_ => [(13, s_)]) (fun s_ w' => (w'.cell? ⟨gb111, 0, none⟩ = some (.int .i64 a0_0) ∧ w'.cell? ⟨gb111, 1, none⟩ = some (.int .i64 a0_1) ∧ w'.cell? ⟨gb111, 2, none⟩ = some (.int .i64 a0_2) ∧ w'.cell? ⟨gb111, 3, none⟩ = some (.int .i64 a0_3)) ∧ (Kd.R k_Answer 144 w' w.heap.size (fun _ => True) s_ y120) ∧ (w'.heap[gb111]? = some (.cells #[.int .i64 a0_0, .int .i64 a0_1, .int .i64 a0_2, .int .i64 a0_3] 82 (0, 0))) ∧ (w'.heap[gb112]? = some (.cells #[.slice none 0 0, .slice none 0 0, .slice none 0 0, .int .i64 0, .slice none 0 0, .slice none 0 0] 80 (0, 0))) ∧ (Below w.heap.size w w')) ?_ ?_
                   rotate_left
                   ·
                    intro hJ4
                    refine join_ (σ := Nat) 5 #[true, true, false, false, false, false, true, false] (fun s_ => [(3, .pointer (some ⟨s_, 0, none⟩))]) (fun s_ w' => (w'.cell? ⟨gb111, 0, none⟩ = some (.int .i64 a0_0) ∧ w'.cell? ⟨gb111, 1, none⟩ = some (.int .i64 a0_1) ∧ w'.cell? ⟨gb111, 2, none⟩ = some (.int .i64 a0_2) ∧ w'.cell? ⟨gb111, 3, none⟩ = some (.int .i64 a0_3)) ∧ (w'.heap[gb111]? = some (.cells #[.int .i64 a0_0, .int .i64 a0_1, .int .i64 a0_2, .int .i64 a0_3] 82 (0, 0))) ∧ (w'.heap[gb112]? = some (.cells #[.slice none 0 0, .slice none 0 0, .slice none 0 0, .int .i64 0, .slice none 0 0, .slice none 0 0] 80 (0, 0))) ∧ (w'.heap[s_]? = some (.cells #[.slice none 0 0, .slice none 0 0, .slice none 0 0, .int .i64 0, .slice none 0 0, .slice none 0 0] 80 (0, 0))) ∧ (w.heap.size ≤ s_) ∧ (w.heap.size ≤ s_) ∧ (gb111 ≠ s_) ∧ (s_ ≠ gb111) ∧ (gb112 ≠ s_) ∧ (s_ ≠ gb112) ∧ (Below w.heap.size w w')) ?_ ?_
                    rotate_left
                    ·
                     intro hJ6
                     refine four_ (i := 2) (j := 3) (k := 4) (m := 6) (Ni := some 11) (Nj := some 12) (Nk := some 13) (Nm := some 3) #[true, true, true, false, false, false, false, false] #[true, true, false, true, false, false, false, false] #[true, true, false, false, true, false, false, false] #[true, true, false, false, false, false, true, false] rfl rfl rfl rfl rfl rfl rfl rfl (four_of HT_.out (by kernel_rfl)) (by decide) (by decide) (by decide) (by decide) (fun K hK => ?_) (fun K hK => ?_) (fun K hK => ?_) (fun K hK => ?_)
                     ·
                      skip
                      refine Kd.S_make_step k_Row _ 26 (by rfl) (N := 11) rfl 75 _ _ rfl a0_0 rfl rfl Try.underlying75 (.agg #[(.int .i64 0), (.int .i64 0), (.slice none 0 0)]) 40 info26 rfl (by decide) (by omega) z_Row (ok := fun _ => True) (okp := fun _ => True) (k_Row_mkM _ _ _ z_Row (Kd.R_nil _ _ _ _ _)) (fun _ hk => hk) trivial (of_decide_eq_true dt_) (Nat.le_trans (Nat.mul_le_mul_right _ (of_decide_eq_true dt_ : a0_0.toNat ≤ 7036874417766)) (by omega)) (Below.refl _ _) (Nat.le_refl _) ?_
                      intro v115 w14 ho15 hb hg_ hnew_
                      clear hg_ hnew_
                      (first | rw [← Ny114.out] at ho15 | (simp only [Int.reduceToNat] at ho15; rw [← Ny114.out] at ho15))
                      have HO116 := Aside0.mk (Kd.S_lower ho15 (below_size (hb_ HB.out)))
                      replace BK111 := cb_ BK111 hb
                      replace BK112 := cb_ BK112 hb
                      replace HB := ch_ HB hb
                      clear hb ho15
                      refine hK.out _ _ ⟨bc_ BK111 0, bc_ BK111 1, bc_ BK111 2, bc_ BK111 3⟩ (fun hHeld => ?_)
                      clear hK K
                      refine nm_ ?_
                      exact norm_ (qa0_) (hJ2 (v115) _ ⟨hHeld, (qa1_), (bq_ BK111.out), (bq_ BK112.out), (hb_ HB.out)⟩)
                     ·
                      skip
                      refine Kd.R_make_step (Kd.int .i64) _ 3 (by rfl) (N := 12) rfl 77 _ _ rfl 4 rfl rfl Try.underlying77 (.int .i64 0) 8 info3 rfl (by decide) (by omega) 0 (ok := fun _ => True) (okp := fun _ => True) rfl (fun _ hk => hk) trivial (by omega) (by omega) (Below.refl _ _) (Nat.le_refl _) ?_
                      intro v118 w14 ho15 hb hg_ hnew_
                      clear hg_ hnew_
                      (first | rw [← Ny117.out] at ho15 | (simp only [Int.reduceToNat] at ho15; rw [← Ny117.out] at ho15))
                      have HO119 := Aside0.mk (Kd.R_lower ho15 (below_size (hb_ HB.out)))
                      replace BK111 := cb_ BK111 hb
                      replace BK112 := cb_ BK112 hb
                      replace HB := ch_ HB hb
                      clear hb ho15
                      refine hK.out _ _ ⟨bc_ BK111 0, bc_ BK111 1, bc_ BK111 2, bc_ BK111 3⟩ (fun hHeld => ?_)
                      clear hK K
                      refine nm_ ?_
                      exact norm_ (qa0_) (hJ3 (v118) _ ⟨hHeld, (rq_ HO119.out), (bq_ BK111.out), (bq_ BK112.out), (hb_ HB.out)⟩)
                     ·
                      skip
                      refine Kd.R_make_step k_Answer _ 144 (by rfl) (N := 13) rfl 78 _ _ rfl 4 rfl rfl Try.underlying78 (.agg #[(.int .i64 0), (.int .i64 0), (.string ⟨#[]⟩), (.string ⟨#[]⟩)]) 48 info144 rfl (by decide) (by omega) z_Answer (ok := fun _ => True) (okp := fun _ => True) (k_Answer_mkM _ _ _ z_Answer ) (fun _ hk => hk) trivial (by omega) (by omega) (Below.refl _ _) (Nat.le_refl _) ?_
                      intro v121 w14 ho15 hb hg_ hnew_
                      clear hg_ hnew_
                      (first | rw [← Ny120.out] at ho15 | (simp only [Int.reduceToNat] at ho15; rw [← Ny120.out] at ho15))
                      have HO122 := Aside0.mk (Kd.R_lower ho15 (below_size (hb_ HB.out)))
                      replace BK111 := cb_ BK111 hb
                      replace BK112 := cb_ BK112 hb
                      replace HB := ch_ HB hb
                      clear hb ho15
                      refine hK.out _ _ ⟨bc_ BK111 0, bc_ BK111 1, bc_ BK111 2, bc_ BK111 3⟩ (fun hHeld => ?_)
                      clear hK K
                      refine nm_ ?_
                      exact norm_ (qa0_) (hJ4 (v121) _ ⟨hHeld, (rq_ HO122.out), (bq_ BK111.out), (bq_ BK112.out), (hb_ HB.out)⟩)
                     ·
                      skip
                      refine box_step ?hg (N := 3) ?hd (cs := #[.slice none 0 0, .slice none 0 0, .slice none 0 0, .int .i64 0, .slice none 0 0, .slice none 0 0]) (t := 80) ?hr ?_; (case hd => rfl); (case hg => rfl); (case hr => first | (go_simp; done) | (go_simp; rfl))
                      intro gb123 hg w14 hbox hb
                      have BK123 := Aside0.mk (hbox)
                      have GW123 := cz_ HB hg
                      have GE123 := cz_ HB hg
                      have NB111_123 := cn_ BK111 hg
                      have NB123_111 := cm_ BK111 hg
                      have NB112_123 := cn_ BK112 hg
                      have NB123_112 := cm_ BK112 hg
                      replace BK111 := cb_ BK111 hb
                      replace BK112 := cb_ BK112 hb
                      replace HB := ch_ HB hb
                      clear hb hbox hg
                      refine hK.out _ _ ⟨bc_ BK111 0, bc_ BK111 1, bc_ BK111 2, bc_ BK111 3⟩ (fun hHeld => ?_)
                      clear hK K
                      refine nm_ ?_
                      exact norm_ (qa0_) (hJ6 (gb123) _ ⟨hHeld, (bq_ BK111.out), (bq_ BK112.out), (bq_ BK123.out), GW123.out, GE123.out, NB111_123.out, NB123_111.out, NB112_123.out, NB123_112.out, (hb_ HB.out)⟩)
                    ·
                     skip
                     rintro gb123 w15 ⟨hS_, h0_, h1_, h2_, h3_, h4_, h5_, h6_, h7_, h8_, h9_⟩
                     have n0_ : Aside0 (w15.heap[gb111]? = some (.cells #[.int .i64 a0_0, .int .i64 a0_1, .int .i64 a0_2, .int .i64 a0_3] 82 (0, 0))) := ⟨h0_⟩
                     have n1_ : Aside0 (w15.heap[gb112]? = some (.cells #[.slice none 0 0, .slice none 0 0, .slice none 0 0, .int .i64 0, .slice none 0 0, .slice none 0 0] 80 (0, 0))) := ⟨h1_⟩
                     have n2_ : Aside0 (w15.heap[gb123]? = some (.cells #[.slice none 0 0, .slice none 0 0, .slice none 0 0, .int .i64 0, .slice none 0 0, .slice none 0 0] 80 (0, 0))) := ⟨h2_⟩
                     have n3_ : Aside0 (w.heap.size ≤ gb123) := ⟨h3_⟩
                     have n4_ : Aside0 (w.heap.size ≤ gb123) := ⟨h4_⟩
                     have n5_ : Aside0 (gb111 ≠ gb123) := ⟨h5_⟩
                     have n6_ : Aside0 (gb123 ≠ gb111) := ⟨h6_⟩
                     have n7_ : Aside0 (gb112 ≠ gb123) := ⟨h7_⟩
                     have n8_ : Aside0 (gb123 ≠ gb112) := ⟨h8_⟩
                     have n9_ : Aside0 (Below w.heap.size w w15) := ⟨h9_⟩
                     clear BK111
                     clear BK112
                     clear HB
                     clear h0_ h1_ h2_ h3_ h4_ h5_ h6_ h7_ h8_ h9_
                     have BK111 := n0_
                     have BK112 := n1_
                     have BK123 := n2_
                     have GW123 := n3_
                     have GE123 := n4_
                     have NB111_123 := n5_
                     have NB123_111 := n6_
                     have NB112_123 := n7_
                     have NB123_112 := n8_
                     have HB := n9_
                     clear n0_ n1_ n2_ n3_ n4_ n5_ n6_ n7_ n8_ n9_
                     have hHeld : w15.cell? ⟨gb111, 0, none⟩ = some (.int .i64 a0_0) ∧ w15.cell? ⟨gb111, 1, none⟩ = some (.int .i64 a0_1) ∧ w15.cell? ⟨gb111, 2, none⟩ = some (.int .i64 a0_2) ∧ w15.cell? ⟨gb111, 3, none⟩ = some (.int .i64 a0_3) := hS_
                     refine norm_ (a' := ?_) ?_ ?_
                     rotate_left; (focus simp only [putAll, Act.put, List.setIfInBounds_toArray, List.set_cons_zero, List.set_cons_succ]; rfl)
                     refine three_ (i := 2) (j := 3) (k := 4) (Ni := some 11) (Nj := some 12) (Nk := some 13) #[true, true, true, false, false, false, true, false] #[true, true, false, true, false, false, true, false] #[true, true, false, false, true, false, true, false] rfl rfl rfl rfl rfl rfl (three_of HT_.out (by kernel_rfl)) (by decide) (by decide) (by decide) (fun K hK => ?_) (fun K hK => ?_) (fun K hK => ?_)
                     ·
                      skip
                      refine Kd.S_make_step k_Row _ 26 (by rfl) (N := 11) rfl 75 _ _ rfl a0_0 rfl rfl Try.underlying75 (.agg #[(.int .i64 0), (.int .i64 0), (.slice none 0 0)]) 40 info26 rfl (by decide) (by omega) z_Row (ok := fun _ => True) (okp := fun _ => True) (k_Row_mkM _ _ _ z_Row (Kd.R_nil _ _ _ _ _)) (fun _ hk => hk) trivial (of_decide_eq_true dt_) (Nat.le_trans (Nat.mul_le_mul_right _ (of_decide_eq_true dt_ : a0_0.toNat ≤ 7036874417766)) (by omega)) (Below.refl _ _) (Nat.le_refl _) ?_
                      intro v115 w16 ho17 hb hg_ hnew_
                      clear hg_ hnew_
                      (first | rw [← Ny114.out] at ho17 | (simp only [Int.reduceToNat] at ho17; rw [← Ny114.out] at ho17))
                      have HO116 := Aside0.mk (Kd.S_lower ho17 (below_size (hb_ HB.out)))
                      replace BK111 := cb_ BK111 hb
                      replace BK112 := cb_ BK112 hb
                      replace BK123 := cb_ BK123 hb
                      replace HB := ch_ HB hb
                      clear hb ho17
                      refine hK.out _ _ ⟨bc_ BK111 0, bc_ BK111 1, bc_ BK111 2, bc_ BK111 3⟩ (fun hHeld => ?_)
                      clear hK K
                      refine nm_ ?_
                      exact norm_ (qa0_) (hJ2_6 (v115, gb123) _ ⟨hHeld, (qa1_), (bq_ BK111.out), (bq_ BK112.out), (bq_ BK123.out), GW123.out, GE123.out, NB111_123.out, NB123_111.out, NB112_123.out, NB123_112.out, (hb_ HB.out)⟩)
                     ·
                      skip
                      refine Kd.R_make_step (Kd.int .i64) _ 3 (by rfl) (N := 12) rfl 77 _ _ rfl 4 rfl rfl Try.underlying77 (.int .i64 0) 8 info3 rfl (by decide) (by omega) 0 (ok := fun _ => True) (okp := fun _ => True) rfl (fun _ hk => hk) trivial (by omega) (by omega) (Below.refl _ _) (Nat.le_refl _) ?_
                      intro v118 w16 ho17 hb hg_ hnew_
                      clear hg_ hnew_
                      (first | rw [← Ny117.out] at ho17 | (simp only [Int.reduceToNat] at ho17; rw [← Ny117.out] at ho17))
                      have HO119 := Aside0.mk (Kd.R_lower ho17 (below_size (hb_ HB.out)))
                      replace BK111 := cb_ BK111 hb
                      replace BK112 := cb_ BK112 hb
                      replace BK123 := cb_ BK123 hb
                      replace HB := ch_ HB hb
                      clear hb ho17
                      refine hK.out _ _ ⟨bc_ BK111 0, bc_ BK111 1, bc_ BK111 2, bc_ BK111 3⟩ (fun hHeld => ?_)
                      clear hK K
                      refine nm_ ?_
                      exact norm_ (qa0_) (hJ3_6 (v118, gb123) _ ⟨hHeld, (rq_ HO119.out), (bq_ BK111.out), (bq_ BK112.out), (bq_ BK123.out), GW123.out, GE123.out, NB111_123.out, NB123_111.out, NB112_123.out, NB123_112.out, (hb_ HB.out)⟩)
                     ·
                      skip
                      refine Kd.R_make_step k_Answer _ 144 (by rfl) (N := 13) rfl 78 _ _ rfl 4 rfl rfl Try.underlying78 (.agg #[(.int .i64 0), (.int .i64 0), (.string ⟨#[]⟩), (.string ⟨#[]⟩)]) 48 info144 rfl (by decide) (by omega) z_Answer (ok := fun _ => True) (okp := fun _ => True) (k_Answer_mkM _ _ _ z_Answer ) (fun _ hk => hk) trivial (by omega) (by omega) (Below.refl _ _) (Nat.le_refl _) ?_
                      intro v121 w16 ho17 hb hg_ hnew_
                      clear hg_ hnew_
                      (first | rw [← Ny120.out] at ho17 | (simp only [Int.reduceToNat] at ho17; rw [← Ny120.out] at ho17))
                      have HO122 := Aside0.mk (Kd.R_lower ho17 (below_size (hb_ HB.out)))
                      replace BK111 := cb_ BK111 hb
                      replace BK112 := cb_ BK112 hb
                      replace BK123 := cb_ BK123 hb
                      replace HB := ch_ HB hb
                      clear hb ho17
                      refine hK.out _ _ ⟨bc_ BK111 0, bc_ BK111 1, bc_ BK111 2, bc_ BK111 3⟩ (fun hHeld => ?_)
                      clear hK K
                      refine nm_ ?_
                      exact norm_ (qa0_) (hJ4_6 (v121, gb123) _ ⟨hHeld, (rq_ HO122.out), (bq_ BK111.out), (bq_ BK112.out), (bq_ BK123.out), GW123.out, GE123.out, NB111_123.out, NB123_111.out, NB112_123.out, NB123_112.out, (hb_ HB.out)⟩)
                   ·
                    skip
                    rintro v121 w16 ⟨hS_, h0_, h1_, h2_, h3_⟩
                    have n0_ : Aside0 (Kd.R k_Answer 144 w16 w.heap.size (fun _ => True) v121 y120) := ⟨h0_⟩
                    have n1_ : Aside0 (w16.heap[gb111]? = some (.cells #[.int .i64 a0_0, .int .i64 a0_1, .int .i64 a0_2, .int .i64 a0_3] 82 (0, 0))) := ⟨h1_⟩
                    have n2_ : Aside0 (w16.heap[gb112]? = some (.cells #[.slice none 0 0, .slice none 0 0, .slice none 0 0, .int .i64 0, .slice none 0 0, .slice none 0 0] 80 (0, 0))) := ⟨h2_⟩
                    have n3_ : Aside0 (Below w.heap.size w w16) := ⟨h3_⟩
                    clear BK111
                    clear BK112
                    clear HB
                    clear h0_ h1_ h2_ h3_
                    have HO122 := n0_
                    have BK111 := n1_
                    have BK112 := n2_
                    have HB := n3_
                    clear n0_ n1_ n2_ n3_
                    have hHeld : w16.cell? ⟨gb111, 0, none⟩ = some (.int .i64 a0_0) ∧ w16.cell? ⟨gb111, 1, none⟩ = some (.int .i64 a0_1) ∧ w16.cell? ⟨gb111, 2, none⟩ = some (.int .i64 a0_2) ∧ w16.cell? ⟨gb111, 3, none⟩ = some (.int .i64 a0_3) := hS_
                    refine norm_ (a' := ?_) ?_ ?_
                    rotate_left; (focus simp only [putAll, Act.put, List.setIfInBounds_toArray, List.set_cons_zero, List.set_cons_succ]; rfl)
                    refine three_ (i := 2) (j := 3) (k := 6) (Ni := some 11) (Nj := some 12) (Nk := some 3) #[true, true, true, false, true, false, false, false] #[true, true, false, true, true, false, false, false] #[true, true, false, false, true, false, true, false] rfl rfl rfl rfl rfl rfl (three_of HT_.out (by kernel_rfl)) (by decide) (by decide) (by decide) (fun K hK => ?_) (fun K hK => ?_) (fun K hK => ?_)
                    ·
                     skip
                     refine Kd.S_make_step k_Row _ 26 (by rfl) (N := 11) rfl 75 _ _ rfl a0_0 rfl rfl Try.underlying75 (.agg #[(.int .i64 0), (.int .i64 0), (.slice none 0 0)]) 40 info26 rfl (by decide) (by omega) z_Row (ok := fun _ => True) (okp := fun _ => True) (k_Row_mkM _ _ _ z_Row (Kd.R_nil _ _ _ _ _)) (fun _ hk => hk) trivial (of_decide_eq_true dt_) (Nat.le_trans (Nat.mul_le_mul_right _ (of_decide_eq_true dt_ : a0_0.toNat ≤ 7036874417766)) (by omega)) (Below.refl _ _) (Nat.le_refl _) ?_
                     intro v115 w17 ho18 hb hg_ hnew_
                     clear hg_ hnew_
                     (first | rw [← Ny114.out] at ho18 | (simp only [Int.reduceToNat] at ho18; rw [← Ny114.out] at ho18))
                     have HO116 := Aside0.mk (Kd.S_lower ho18 (below_size (hb_ HB.out)))
                     replace HO122 := cr_ HO122 hb
                     replace BK111 := cb_ BK111 hb
                     replace BK112 := cb_ BK112 hb
                     replace HB := ch_ HB hb
                     clear hb ho18
                     refine hK.out _ _ ⟨bc_ BK111 0, bc_ BK111 1, bc_ BK111 2, bc_ BK111 3⟩ (fun hHeld => ?_)
                     clear hK K
                     refine nm_ ?_
                     exact norm_ (qa0_) (hJ2_4 (v115, v121) _ ⟨hHeld, (qa1_), (rq_ HO122.out), (bq_ BK111.out), (bq_ BK112.out), (hb_ HB.out)⟩)
                    ·
                     skip
                     refine Kd.R_make_step (Kd.int .i64) _ 3 (by rfl) (N := 12) rfl 77 _ _ rfl 4 rfl rfl Try.underlying77 (.int .i64 0) 8 info3 rfl (by decide) (by omega) 0 (ok := fun _ => True) (okp := fun _ => True) rfl (fun _ hk => hk) trivial (by omega) (by omega) (Below.refl _ _) (Nat.le_refl _) ?_
                     intro v118 w17 ho18 hb hg_ hnew_
                     clear hg_ hnew_
                     (first | rw [← Ny117.out] at ho18 | (simp only [Int.reduceToNat] at ho18; rw [← Ny117.out] at ho18))
                     have HO119 := Aside0.mk (Kd.R_lower ho18 (below_size (hb_ HB.out)))
                     replace HO122 := cr_ HO122 hb
                     replace BK111 := cb_ BK111 hb
                     replace BK112 := cb_ BK112 hb
                     replace HB := ch_ HB hb
                     clear hb ho18
                     refine hK.out _ _ ⟨bc_ BK111 0, bc_ BK111 1, bc_ BK111 2, bc_ BK111 3⟩ (fun hHeld => ?_)
                     clear hK K
                     refine nm_ ?_
                     exact norm_ (qa0_) (hJ3_4 (v118, v121) _ ⟨hHeld, (rq_ HO119.out), (rq_ HO122.out), (bq_ BK111.out), (bq_ BK112.out), (hb_ HB.out)⟩)
                    ·
                     skip
                     refine box_step ?hg (N := 3) ?hd (cs := #[.slice none 0 0, .slice none 0 0, .slice none 0 0, .int .i64 0, .slice none 0 0, .slice none 0 0]) (t := 80) ?hr ?_; (case hd => rfl); (case hg => rfl); (case hr => first | (go_simp; done) | (go_simp; rfl))
                     intro gb123 hg w17 hbox hb
                     have BK123 := Aside0.mk (hbox)
                     have GW123 := cz_ HB hg
                     have GE123 := cz_ HB hg
                     have NB111_123 := cn_ BK111 hg
                     have NB123_111 := cm_ BK111 hg
                     have NB112_123 := cn_ BK112 hg
                     have NB123_112 := cm_ BK112 hg
                     replace HO122 := cr_ HO122 hb
                     replace BK111 := cb_ BK111 hb
                     replace BK112 := cb_ BK112 hb
                     replace HB := ch_ HB hb
                     clear hb hbox hg
                     refine hK.out _ _ ⟨bc_ BK111 0, bc_ BK111 1, bc_ BK111 2, bc_ BK111 3⟩ (fun hHeld => ?_)
                     clear hK K
                     refine nm_ ?_
                     exact norm_ (qa0_) (hJ4_6 (v121, gb123) _ ⟨hHeld, (rq_ HO122.out), (bq_ BK111.out), (bq_ BK112.out), (bq_ BK123.out), GW123.out, GE123.out, NB111_123.out, NB123_111.out, NB112_123.out, NB123_112.out, (hb_ HB.out)⟩)
                  ·
                   skip
                   rintro v118 w16 ⟨hS_, h0_, h1_, h2_, h3_⟩
                   have n0_ : Aside0 (Kd.R (Kd.int .i64) 3 w16 w.heap.size (fun _ => True) v118 y117) := ⟨h0_⟩
                   have n1_ : Aside0 (w16.heap[gb111]? = some (.cells #[.int .i64 a0_0, .int .i64 a0_1, .int .i64 a0_2, .int .i64 a0_3] 82 (0, 0))) := ⟨h1_⟩
                   have n2_ : Aside0 (w16.heap[gb112]? = some (.cells #[.slice none 0 0, .slice none 0 0, .slice none 0 0, .int .i64 0, .slice none 0 0, .slice none 0 0] 80 (0, 0))) := ⟨h2_⟩
                   have n3_ : Aside0 (Below w.heap.size w w16) := ⟨h3_⟩
                   clear BK111
                   clear BK112
                   clear HB
                   clear h0_ h1_ h2_ h3_
                   have HO119 := n0_
                   have BK111 := n1_
                   have BK112 := n2_
                   have HB := n3_
                   clear n0_ n1_ n2_ n3_
                   have hHeld : w16.cell? ⟨gb111, 0, none⟩ = some (.int .i64 a0_0) ∧ w16.cell? ⟨gb111, 1, none⟩ = some (.int .i64 a0_1) ∧ w16.cell? ⟨gb111, 2, none⟩ = some (.int .i64 a0_2) ∧ w16.cell? ⟨gb111, 3, none⟩ = some (.int .i64 a0_3) := hS_
                   refine norm_ (a' := ?_) ?_ ?_
                   rotate_left; (focus simp only [putAll, Act.put, List.setIfInBounds_toArray, List.set_cons_zero, List.set_cons_succ]; rfl)
                   refine three_ (i := 2) (j := 4) (k := 6) (Ni := some 11) (Nj := some 13) (Nk := some 3) #[true, true, true, true, false, false, false, false] #[true, true, false, true, true, false, false, false] #[true, true, false, true, false, false, true, false] rfl rfl rfl rfl rfl rfl (three_of HT_.out (by kernel_rfl)) (by decide) (by decide) (by decide) (fun K hK => ?_) (fun K hK => ?_) (fun K hK => ?_)
                   ·
                    skip
                    refine Kd.S_make_step k_Row _ 26 (by rfl) (N := 11) rfl 75 _ _ rfl a0_0 rfl rfl Try.underlying75 (.agg #[(.int .i64 0), (.int .i64 0), (.slice none 0 0)]) 40 info26 rfl (by decide) (by omega) z_Row (ok := fun _ => True) (okp := fun _ => True) (k_Row_mkM _ _ _ z_Row (Kd.R_nil _ _ _ _ _)) (fun _ hk => hk) trivial (of_decide_eq_true dt_) (Nat.le_trans (Nat.mul_le_mul_right _ (of_decide_eq_true dt_ : a0_0.toNat ≤ 7036874417766)) (by omega)) (Below.refl _ _) (Nat.le_refl _) ?_
                    intro v115 w17 ho18 hb hg_ hnew_
                    clear hg_ hnew_
                    (first | rw [← Ny114.out] at ho18 | (simp only [Int.reduceToNat] at ho18; rw [← Ny114.out] at ho18))
                    have HO116 := Aside0.mk (Kd.S_lower ho18 (below_size (hb_ HB.out)))
                    replace HO119 := cr_ HO119 hb
                    replace BK111 := cb_ BK111 hb
                    replace BK112 := cb_ BK112 hb
                    replace HB := ch_ HB hb
                    clear hb ho18
                    refine hK.out _ _ ⟨bc_ BK111 0, bc_ BK111 1, bc_ BK111 2, bc_ BK111 3⟩ (fun hHeld => ?_)
                    clear hK K
                    refine nm_ ?_
                    exact norm_ (qa0_) (hJ2_3 (v115, v118) _ ⟨hHeld, (qa1_), (rq_ HO119.out), (bq_ BK111.out), (bq_ BK112.out), (hb_ HB.out)⟩)
                   ·
                    skip
                    refine Kd.R_make_step k_Answer _ 144 (by rfl) (N := 13) rfl 78 _ _ rfl 4 rfl rfl Try.underlying78 (.agg #[(.int .i64 0), (.int .i64 0), (.string ⟨#[]⟩), (.string ⟨#[]⟩)]) 48 info144 rfl (by decide) (by omega) z_Answer (ok := fun _ => True) (okp := fun _ => True) (k_Answer_mkM _ _ _ z_Answer ) (fun _ hk => hk) trivial (by omega) (by omega) (Below.refl _ _) (Nat.le_refl _) ?_
                    intro v121 w17 ho18 hb hg_ hnew_
                    clear hg_ hnew_
                    (first | rw [← Ny120.out] at ho18 | (simp only [Int.reduceToNat] at ho18; rw [← Ny120.out] at ho18))
                    have HO122 := Aside0.mk (Kd.R_lower ho18 (below_size (hb_ HB.out)))
                    replace HO119 := cr_ HO119 hb
                    replace BK111 := cb_ BK111 hb
                    replace BK112 := cb_ BK112 hb
                    replace HB := ch_ HB hb
                    clear hb ho18
                    refine hK.out _ _ ⟨bc_ BK111 0, bc_ BK111 1, bc_ BK111 2, bc_ BK111 3⟩ (fun hHeld => ?_)
                    clear hK K
                    refine nm_ ?_
                    exact norm_ (qa0_) (hJ3_4 (v118, v121) _ ⟨hHeld, (rq_ HO119.out), (rq_ HO122.out), (bq_ BK111.out), (bq_ BK112.out), (hb_ HB.out)⟩)
                   ·
                    skip
                    refine box_step ?hg (N := 3) ?hd (cs := #[.slice none 0 0, .slice none 0 0, .slice none 0 0, .int .i64 0, .slice none 0 0, .slice none 0 0]) (t := 80) ?hr ?_; (case hd => rfl); (case hg => rfl); (case hr => first | (go_simp; done) | (go_simp; rfl))
                    intro gb123 hg w17 hbox hb
                    have BK123 := Aside0.mk (hbox)
                    have GW123 := cz_ HB hg
                    have GE123 := cz_ HB hg
                    have NB111_123 := cn_ BK111 hg
                    have NB123_111 := cm_ BK111 hg
                    have NB112_123 := cn_ BK112 hg
                    have NB123_112 := cm_ BK112 hg
                    replace HO119 := cr_ HO119 hb
                    replace BK111 := cb_ BK111 hb
                    replace BK112 := cb_ BK112 hb
                    replace HB := ch_ HB hb
                    clear hb hbox hg
                    refine hK.out _ _ ⟨bc_ BK111 0, bc_ BK111 1, bc_ BK111 2, bc_ BK111 3⟩ (fun hHeld => ?_)
                    clear hK K
                    refine nm_ ?_
                    exact norm_ (qa0_) (hJ3_6 (v118, gb123) _ ⟨hHeld, (rq_ HO119.out), (bq_ BK111.out), (bq_ BK112.out), (bq_ BK123.out), GW123.out, GE123.out, NB111_123.out, NB123_111.out, NB112_123.out, NB123_112.out, (hb_ HB.out)⟩)
                 ·
                  skip
                  rintro v115 w16 ⟨hS_, h0_, h1_, h2_, h3_⟩
                  have n0_ : Aside0 (Kd.S k_Row 26 w16 w.heap.size (fun _ => True) v115 y114) := ⟨h0_⟩
                  have n1_ : Aside0 (w16.heap[gb111]? = some (.cells #[.int .i64 a0_0, .int .i64 a0_1, .int .i64 a0_2, .int .i64 a0_3] 82 (0, 0))) := ⟨h1_⟩
                  have n2_ : Aside0 (w16.heap[gb112]? = some (.cells #[.slice none 0 0, .slice none 0 0, .slice none 0 0, .int .i64 0, .slice none 0 0, .slice none 0 0] 80 (0, 0))) := ⟨h2_⟩
                  have n3_ : Aside0 (Below w.heap.size w w16) := ⟨h3_⟩
                  clear BK111
                  clear BK112
                  clear HB
                  clear h0_ h1_ h2_ h3_
                  have HO116 := n0_
                  have BK111 := n1_
                  have BK112 := n2_
                  have HB := n3_
                  clear n0_ n1_ n2_ n3_
                  have hHeld : w16.cell? ⟨gb111, 0, none⟩ = some (.int .i64 a0_0) ∧ w16.cell? ⟨gb111, 1, none⟩ = some (.int .i64 a0_1) ∧ w16.cell? ⟨gb111, 2, none⟩ = some (.int .i64 a0_2) ∧ w16.cell? ⟨gb111, 3, none⟩ = some (.int .i64 a0_3) := hS_
                  refine norm_ (a' := ?_) ?_ ?_
                  rotate_left; (focus simp only [putAll, Act.put, List.setIfInBounds_toArray, List.set_cons_zero, List.set_cons_succ]; rfl)
                  refine three_ (i := 3) (j := 4) (k := 6) (Ni := some 12) (Nj := some 13) (Nk := some 3) #[true, true, true, true, false, false, false, false] #[true, true, true, false, true, false, false, false] #[true, true, true, false, false, false, true, false] rfl rfl rfl rfl rfl rfl (three_of HT_.out (by kernel_rfl)) (by decide) (by decide) (by decide) (fun K hK => ?_) (fun K hK => ?_) (fun K hK => ?_)
                  ·
                   skip
                   refine Kd.R_make_step (Kd.int .i64) _ 3 (by rfl) (N := 12) rfl 77 _ _ rfl 4 rfl rfl Try.underlying77 (.int .i64 0) 8 info3 rfl (by decide) (by omega) 0 (ok := fun _ => True) (okp := fun _ => True) rfl (fun _ hk => hk) trivial (by omega) (by omega) (Below.refl _ _) (Nat.le_refl _) ?_
                   intro v118 w17 ho18 hb hg_ hnew_
                   clear hg_ hnew_
                   (first | rw [← Ny117.out] at ho18 | (simp only [Int.reduceToNat] at ho18; rw [← Ny117.out] at ho18))
                   have HO119 := Aside0.mk (Kd.R_lower ho18 (below_size (hb_ HB.out)))
                   replace HO116 := Aside0.mk (Kd.S_below (qa1_) hb)
                   replace BK111 := cb_ BK111 hb
                   replace BK112 := cb_ BK112 hb
                   replace HB := ch_ HB hb
                   clear hb ho18
                   refine hK.out _ _ ⟨bc_ BK111 0, bc_ BK111 1, bc_ BK111 2, bc_ BK111 3⟩ (fun hHeld => ?_)
                   clear hK K
                   refine nm_ ?_
                   exact norm_ (qa0_) (hJ2_3 (v115, v118) _ ⟨hHeld, (qa1_), (rq_ HO119.out), (bq_ BK111.out), (bq_ BK112.out), (hb_ HB.out)⟩)
                  ·
                   skip
                   refine Kd.R_make_step k_Answer _ 144 (by rfl) (N := 13) rfl 78 _ _ rfl 4 rfl rfl Try.underlying78 (.agg #[(.int .i64 0), (.int .i64 0), (.string ⟨#[]⟩), (.string ⟨#[]⟩)]) 48 info144 rfl (by decide) (by omega) z_Answer (ok := fun _ => True) (okp := fun _ => True) (k_Answer_mkM _ _ _ z_Answer ) (fun _ hk => hk) trivial (by omega) (by omega) (Below.refl _ _) (Nat.le_refl _) ?_
                   intro v121 w17 ho18 hb hg_ hnew_
                   clear hg_ hnew_
                   (first | rw [← Ny120.out] at ho18 | (simp only [Int.reduceToNat] at ho18; rw [← Ny120.out] at ho18))
                   have HO122 := Aside0.mk (Kd.R_lower ho18 (below_size (hb_ HB.out)))
                   replace HO116 := Aside0.mk (Kd.S_below (qa1_) hb)
                   replace BK111 := cb_ BK111 hb
                   replace BK112 := cb_ BK112 hb
                   replace HB := ch_ HB hb
                   clear hb ho18
                   refine hK.out _ _ ⟨bc_ BK111 0, bc_ BK111 1, bc_ BK111 2, bc_ BK111 3⟩ (fun hHeld => ?_)
                   clear hK K
                   refine nm_ ?_
                   exact norm_ (qa0_) (hJ2_4 (v115, v121) _ ⟨hHeld, (qa1_), (rq_ HO122.out), (bq_ BK111.out), (bq_ BK112.out), (hb_ HB.out)⟩)
                  ·
                   skip
                   refine box_step ?hg (N := 3) ?hd (cs := #[.slice none 0 0, .slice none 0 0, .slice none 0 0, .int .i64 0, .slice none 0 0, .slice none 0 0]) (t := 80) ?hr ?_; (case hd => rfl); (case hg => rfl); (case hr => first | (go_simp; done) | (go_simp; rfl))
                   intro gb123 hg w17 hbox hb
                   have BK123 := Aside0.mk (hbox)
                   have GW123 := cz_ HB hg
                   have GE123 := cz_ HB hg
                   have NB111_123 := cn_ BK111 hg
                   have NB123_111 := cm_ BK111 hg
                   have NB112_123 := cn_ BK112 hg
                   have NB123_112 := cm_ BK112 hg
                   replace HO116 := Aside0.mk (Kd.S_below (qa1_) hb)
                   replace BK111 := cb_ BK111 hb
                   replace BK112 := cb_ BK112 hb
                   replace HB := ch_ HB hb
                   clear hb hbox hg
                   refine hK.out _ _ ⟨bc_ BK111 0, bc_ BK111 1, bc_ BK111 2, bc_ BK111 3⟩ (fun hHeld => ?_)
                   clear hK K
                   refine nm_ ?_
                   exact norm_ (qa0_) (hJ2_6 (v115, gb123) _ ⟨hHeld, (qa1_), (bq_ BK111.out), (bq_ BK112.out), (bq_ BK123.out), GW123.out, GE123.out, NB111_123.out, NB123_111.out, NB112_123.out, NB123_112.out, (hb_ HB.out)⟩)
                ·
                 skip
                 rintro ⟨v121, gb123⟩ w17 ⟨hS_, h0_, h1_, h2_, h3_, h4_, h5_, h6_, h7_, h8_, h9_, h10_⟩
                 have n0_ : Aside0 (Kd.R k_Answer 144 w17 w.heap.size (fun _ => True) v121 y120) := ⟨h0_⟩
                 have n1_ : Aside0 (w17.heap[gb111]? = some (.cells #[.int .i64 a0_0, .int .i64 a0_1, .int .i64 a0_2, .int .i64 a0_3] 82 (0, 0))) := ⟨h1_⟩
                 have n2_ : Aside0 (w17.heap[gb112]? = some (.cells #[.slice none 0 0, .slice none 0 0, .slice none 0 0, .int .i64 0, .slice none 0 0, .slice none 0 0] 80 (0, 0))) := ⟨h2_⟩
                 have n3_ : Aside0 (w17.heap[gb123]? = some (.cells #[.slice none 0 0, .slice none 0 0, .slice none 0 0, .int .i64 0, .slice none 0 0, .slice none 0 0] 80 (0, 0))) := ⟨h3_⟩
                 have n4_ : Aside0 (w.heap.size ≤ gb123) := ⟨h4_⟩
                 have n5_ : Aside0 (w.heap.size ≤ gb123) := ⟨h5_⟩
                 have n6_ : Aside0 (gb111 ≠ gb123) := ⟨h6_⟩
                 have n7_ : Aside0 (gb123 ≠ gb111) := ⟨h7_⟩
                 have n8_ : Aside0 (gb112 ≠ gb123) := ⟨h8_⟩
                 have n9_ : Aside0 (gb123 ≠ gb112) := ⟨h9_⟩
                 have n10_ : Aside0 (Below w.heap.size w w17) := ⟨h10_⟩
                 clear BK111
                 clear BK112
                 clear HB
                 clear h0_ h1_ h2_ h3_ h4_ h5_ h6_ h7_ h8_ h9_ h10_
                 have HO122 := n0_
                 have BK111 := n1_
                 have BK112 := n2_
                 have BK123 := n3_
                 have GW123 := n4_
                 have GE123 := n5_
                 have NB111_123 := n6_
                 have NB123_111 := n7_
                 have NB112_123 := n8_
                 have NB123_112 := n9_
                 have HB := n10_
                 clear n0_ n1_ n2_ n3_ n4_ n5_ n6_ n7_ n8_ n9_ n10_
                 have hHeld : w17.cell? ⟨gb111, 0, none⟩ = some (.int .i64 a0_0) ∧ w17.cell? ⟨gb111, 1, none⟩ = some (.int .i64 a0_1) ∧ w17.cell? ⟨gb111, 2, none⟩ = some (.int .i64 a0_2) ∧ w17.cell? ⟨gb111, 3, none⟩ = some (.int .i64 a0_3) := hS_
                 refine norm_ (a' := ?_) ?_ ?_
                 rotate_left; (focus simp only [putAll, Act.put, List.setIfInBounds_toArray, List.set_cons_zero, List.set_cons_succ]; rfl)
                 refine two_ (i := 2) (j := 3) (Ni := some 11) (Nj := some 12) #[true, true, true, false, true, false, true, false] #[true, true, false, true, true, false, true, false] rfl rfl rfl rfl (two_of HT_.out (by kernel_rfl)) (by decide) (by decide) (fun K hK => ?_) (fun K hK => ?_)
                 ·
                  skip
                  refine Kd.S_make_step k_Row _ 26 (by rfl) (N := 11) rfl 75 _ _ rfl a0_0 rfl rfl Try.underlying75 (.agg #[(.int .i64 0), (.int .i64 0), (.slice none 0 0)]) 40 info26 rfl (by decide) (by omega) z_Row (ok := fun _ => True) (okp := fun _ => True) (k_Row_mkM _ _ _ z_Row (Kd.R_nil _ _ _ _ _)) (fun _ hk => hk) trivial (of_decide_eq_true dt_) (Nat.le_trans (Nat.mul_le_mul_right _ (of_decide_eq_true dt_ : a0_0.toNat ≤ 7036874417766)) (by omega)) (Below.refl _ _) (Nat.le_refl _) ?_
                  intro v115 w18 ho19 hb hg_ hnew_
                  clear hg_ hnew_
                  (first | rw [← Ny114.out] at ho19 | (simp only [Int.reduceToNat] at ho19; rw [← Ny114.out] at ho19))
                  have HO116 := Aside0.mk (Kd.S_lower ho19 (below_size (hb_ HB.out)))
                  replace HO122 := cr_ HO122 hb
                  replace BK111 := cb_ BK111 hb
                  replace BK112 := cb_ BK112 hb
                  replace BK123 := cb_ BK123 hb
                  replace HB := ch_ HB hb
                  clear hb ho19
                  refine hK.out _ _ ⟨bc_ BK111 0, bc_ BK111 1, bc_ BK111 2, bc_ BK111 3⟩ (fun hHeld => ?_)
                  clear hK K
                  refine nm_ ?_
                  exact norm_ (qa0_) (hJ2_4_6 (v115, v121, gb123) _ ⟨hHeld, (qa1_), (rq_ HO122.out), (bq_ BK111.out), (bq_ BK112.out), (bq_ BK123.out), GW123.out, GE123.out, NB111_123.out, NB123_111.out, NB112_123.out, NB123_112.out, (hb_ HB.out)⟩)
                 ·
                  skip
                  refine Kd.R_make_step (Kd.int .i64) _ 3 (by rfl) (N := 12) rfl 77 _ _ rfl 4 rfl rfl Try.underlying77 (.int .i64 0) 8 info3 rfl (by decide) (by omega) 0 (ok := fun _ => True) (okp := fun _ => True) rfl (fun _ hk => hk) trivial (by omega) (by omega) (Below.refl _ _) (Nat.le_refl _) ?_
                  intro v118 w18 ho19 hb hg_ hnew_
                  clear hg_ hnew_
                  (first | rw [← Ny117.out] at ho19 | (simp only [Int.reduceToNat] at ho19; rw [← Ny117.out] at ho19))
                  have HO119 := Aside0.mk (Kd.R_lower ho19 (below_size (hb_ HB.out)))
                  replace HO122 := cr_ HO122 hb
                  replace BK111 := cb_ BK111 hb
                  replace BK112 := cb_ BK112 hb
                  replace BK123 := cb_ BK123 hb
                  replace HB := ch_ HB hb
                  clear hb ho19
                  refine hK.out _ _ ⟨bc_ BK111 0, bc_ BK111 1, bc_ BK111 2, bc_ BK111 3⟩ (fun hHeld => ?_)
                  clear hK K
                  refine nm_ ?_
                  exact norm_ (qa0_) (hJ3_4_6 (v118, v121, gb123) _ ⟨hHeld, (rq_ HO119.out), (rq_ HO122.out), (bq_ BK111.out), (bq_ BK112.out), (bq_ BK123.out), GW123.out, GE123.out, NB111_123.out, NB123_111.out, NB112_123.out, NB123_112.out, (hb_ HB.out)⟩)
               ·
                skip
                rintro ⟨v118, gb123⟩ w17 ⟨hS_, h0_, h1_, h2_, h3_, h4_, h5_, h6_, h7_, h8_, h9_, h10_⟩
                have n0_ : Aside0 (Kd.R (Kd.int .i64) 3 w17 w.heap.size (fun _ => True) v118 y117) := ⟨h0_⟩
                have n1_ : Aside0 (w17.heap[gb111]? = some (.cells #[.int .i64 a0_0, .int .i64 a0_1, .int .i64 a0_2, .int .i64 a0_3] 82 (0, 0))) := ⟨h1_⟩
                have n2_ : Aside0 (w17.heap[gb112]? = some (.cells #[.slice none 0 0, .slice none 0 0, .slice none 0 0, .int .i64 0, .slice none 0 0, .slice none 0 0] 80 (0, 0))) := ⟨h2_⟩
                have n3_ : Aside0 (w17.heap[gb123]? = some (.cells #[.slice none 0 0, .slice none 0 0, .slice none 0 0, .int .i64 0, .slice none 0 0, .slice none 0 0] 80 (0, 0))) := ⟨h3_⟩
                have n4_ : Aside0 (w.heap.size ≤ gb123) := ⟨h4_⟩
                have n5_ : Aside0 (w.heap.size ≤ gb123) := ⟨h5_⟩
                have n6_ : Aside0 (gb111 ≠ gb123) := ⟨h6_⟩
                have n7_ : Aside0 (gb123 ≠ gb111) := ⟨h7_⟩
                have n8_ : Aside0 (gb112 ≠ gb123) := ⟨h8_⟩
                have n9_ : Aside0 (gb123 ≠ gb112) := ⟨h9_⟩
                have n10_ : Aside0 (Below w.heap.size w w17) := ⟨h10_⟩
                clear BK111
                clear BK112
                clear HB
                clear h0_ h1_ h2_ h3_ h4_ h5_ h6_ h7_ h8_ h9_ h10_
                have HO119 := n0_
                have BK111 := n1_
                have BK112 := n2_
                have BK123 := n3_
                have GW123 := n4_
                have GE123 := n5_
                have NB111_123 := n6_
                have NB123_111 := n7_
                have NB112_123 := n8_
                have NB123_112 := n9_
                have HB := n10_
                clear n0_ n1_ n2_ n3_ n4_ n5_ n6_ n7_ n8_ n9_ n10_
                have hHeld : w17.cell? ⟨gb111, 0, none⟩ = some (.int .i64 a0_0) ∧ w17.cell? ⟨gb111, 1, none⟩ = some (.int .i64 a0_1) ∧ w17.cell? ⟨gb111, 2, none⟩ = some (.int .i64 a0_2) ∧ w17.cell? ⟨gb111, 3, none⟩ = some (.int .i64 a0_3) := hS_
                refine norm_ (a' := ?_) ?_ ?_
                rotate_left; (focus simp only [putAll, Act.put, List.setIfInBounds_toArray, List.set_cons_zero, List.set_cons_succ]; rfl)
                refine two_ (i := 2) (j := 4) (Ni := some 11) (Nj := some 13) #[true, true, true, true, false, false, true, false] #[true, true, false, true, true, false, true, false] rfl rfl rfl rfl (two_of HT_.out (by kernel_rfl)) (by decide) (by decide) (fun K hK => ?_) (fun K hK => ?_)
                ·
                 skip
                 refine Kd.S_make_step k_Row _ 26 (by rfl) (N := 11) rfl 75 _ _ rfl a0_0 rfl rfl Try.underlying75 (.agg #[(.int .i64 0), (.int .i64 0), (.slice none 0 0)]) 40 info26 rfl (by decide) (by omega) z_Row (ok := fun _ => True) (okp := fun _ => True) (k_Row_mkM _ _ _ z_Row (Kd.R_nil _ _ _ _ _)) (fun _ hk => hk) trivial (of_decide_eq_true dt_) (Nat.le_trans (Nat.mul_le_mul_right _ (of_decide_eq_true dt_ : a0_0.toNat ≤ 7036874417766)) (by omega)) (Below.refl _ _) (Nat.le_refl _) ?_
                 intro v115 w18 ho19 hb hg_ hnew_
                 clear hg_ hnew_
                 (first | rw [← Ny114.out] at ho19 | (simp only [Int.reduceToNat] at ho19; rw [← Ny114.out] at ho19))
                 have HO116 := Aside0.mk (Kd.S_lower ho19 (below_size (hb_ HB.out)))
                 replace HO119 := cr_ HO119 hb
                 replace BK111 := cb_ BK111 hb
                 replace BK112 := cb_ BK112 hb
                 replace BK123 := cb_ BK123 hb
                 replace HB := ch_ HB hb
                 clear hb ho19
                 refine hK.out _ _ ⟨bc_ BK111 0, bc_ BK111 1, bc_ BK111 2, bc_ BK111 3⟩ (fun hHeld => ?_)
                 clear hK K
                 refine nm_ ?_
                 exact norm_ (qa0_) (hJ2_3_6 (v115, v118, gb123) _ ⟨hHeld, (qa1_), (rq_ HO119.out), (bq_ BK111.out), (bq_ BK112.out), (bq_ BK123.out), GW123.out, GE123.out, NB111_123.out, NB123_111.out, NB112_123.out, NB123_112.out, (hb_ HB.out)⟩)
                ·
                 skip
                 refine Kd.R_make_step k_Answer _ 144 (by rfl) (N := 13) rfl 78 _ _ rfl 4 rfl rfl Try.underlying78 (.agg #[(.int .i64 0), (.int .i64 0), (.string ⟨#[]⟩), (.string ⟨#[]⟩)]) 48 info144 rfl (by decide) (by omega) z_Answer (ok := fun _ => True) (okp := fun _ => True) (k_Answer_mkM _ _ _ z_Answer ) (fun _ hk => hk) trivial (by omega) (by omega) (Below.refl _ _) (Nat.le_refl _) ?_
                 intro v121 w18 ho19 hb hg_ hnew_
                 clear hg_ hnew_
                 (first | rw [← Ny120.out] at ho19 | (simp only [Int.reduceToNat] at ho19; rw [← Ny120.out] at ho19))
                 have HO122 := Aside0.mk (Kd.R_lower ho19 (below_size (hb_ HB.out)))
                 replace HO119 := cr_ HO119 hb
                 replace BK111 := cb_ BK111 hb
                 replace BK112 := cb_ BK112 hb
                 replace BK123 := cb_ BK123 hb
                 replace HB := ch_ HB hb
                 clear hb ho19
                 refine hK.out _ _ ⟨bc_ BK111 0, bc_ BK111 1, bc_ BK111 2, bc_ BK111 3⟩ (fun hHeld => ?_)
                 clear hK K
                 refine nm_ ?_
                 exact norm_ (qa0_) (hJ3_4_6 (v118, v121, gb123) _ ⟨hHeld, (rq_ HO119.out), (rq_ HO122.out), (bq_ BK111.out), (bq_ BK112.out), (bq_ BK123.out), GW123.out, GE123.out, NB111_123.out, NB123_111.out, NB112_123.out, NB123_112.out, (hb_ HB.out)⟩)
              ·
               skip
               rintro ⟨v118, v121⟩ w18 ⟨hS_, h0_, h1_, h2_, h3_, h4_⟩
               have n0_ : Aside0 (Kd.R (Kd.int .i64) 3 w18 w.heap.size (fun _ => True) v118 y117) := ⟨h0_⟩
               have n1_ : Aside0 (Kd.R k_Answer 144 w18 w.heap.size (fun _ => True) v121 y120) := ⟨h1_⟩
               have n2_ : Aside0 (w18.heap[gb111]? = some (.cells #[.int .i64 a0_0, .int .i64 a0_1, .int .i64 a0_2, .int .i64 a0_3] 82 (0, 0))) := ⟨h2_⟩
               have n3_ : Aside0 (w18.heap[gb112]? = some (.cells #[.slice none 0 0, .slice none 0 0, .slice none 0 0, .int .i64 0, .slice none 0 0, .slice none 0 0] 80 (0, 0))) := ⟨h3_⟩
               have n4_ : Aside0 (Below w.heap.size w w18) := ⟨h4_⟩
               clear BK111
               clear BK112
               clear HB
               clear h0_ h1_ h2_ h3_ h4_
               have HO119 := n0_
               have HO122 := n1_
               have BK111 := n2_
               have BK112 := n3_
               have HB := n4_
               clear n0_ n1_ n2_ n3_ n4_
               have hHeld : w18.cell? ⟨gb111, 0, none⟩ = some (.int .i64 a0_0) ∧ w18.cell? ⟨gb111, 1, none⟩ = some (.int .i64 a0_1) ∧ w18.cell? ⟨gb111, 2, none⟩ = some (.int .i64 a0_2) ∧ w18.cell? ⟨gb111, 3, none⟩ = some (.int .i64 a0_3) := hS_
               refine norm_ (a' := ?_) ?_ ?_
               rotate_left; (focus simp only [putAll, Act.put, List.setIfInBounds_toArray, List.set_cons_zero, List.set_cons_succ]; rfl)
               refine two_ (i := 2) (j := 6) (Ni := some 11) (Nj := some 3) #[true, true, true, true, true, false, false, false] #[true, true, false, true, true, false, true, false] rfl rfl rfl rfl (two_of HT_.out (by kernel_rfl)) (by decide) (by decide) (fun K hK => ?_) (fun K hK => ?_)
               ·
                skip
                refine Kd.S_make_step k_Row _ 26 (by rfl) (N := 11) rfl 75 _ _ rfl a0_0 rfl rfl Try.underlying75 (.agg #[(.int .i64 0), (.int .i64 0), (.slice none 0 0)]) 40 info26 rfl (by decide) (by omega) z_Row (ok := fun _ => True) (okp := fun _ => True) (k_Row_mkM _ _ _ z_Row (Kd.R_nil _ _ _ _ _)) (fun _ hk => hk) trivial (of_decide_eq_true dt_) (Nat.le_trans (Nat.mul_le_mul_right _ (of_decide_eq_true dt_ : a0_0.toNat ≤ 7036874417766)) (by omega)) (Below.refl _ _) (Nat.le_refl _) ?_
                intro v115 w19 ho20 hb hg_ hnew_
                clear hg_ hnew_
                (first | rw [← Ny114.out] at ho20 | (simp only [Int.reduceToNat] at ho20; rw [← Ny114.out] at ho20))
                have HO116 := Aside0.mk (Kd.S_lower ho20 (below_size (hb_ HB.out)))
                replace HO119 := cr_ HO119 hb
                replace HO122 := cr_ HO122 hb
                replace BK111 := cb_ BK111 hb
                replace BK112 := cb_ BK112 hb
                replace HB := ch_ HB hb
                clear hb ho20
                obtain ⟨Ao21, co21, eo21⟩ := Kd.R_slice HO122.out
                (first | subst eo21 | (injection eo21 with f1_ f2_ f3_; have f4_ := f1_.symm; have f5_ := f3_.symm; clear f1_ f2_ f3_; subst f4_; subst f5_))
                obtain ⟨Ao22, co22, eo22⟩ := Kd.R_slice HO119.out
                (first | subst eo22 | (injection eo22 with f1_ f2_ f3_; have f4_ := f1_.symm; have f5_ := f3_.symm; clear f1_ f2_ f3_; subst f4_; subst f5_))
                obtain ⟨Ao23, co23, eo23⟩ := Kd.S_slice HO116.out
                (first | subst eo23 | (injection eo23 with f1_ f2_ f3_; have f4_ := f1_.symm; have f5_ := f3_.symm; clear f1_ f2_ f3_; subst f4_; subst f5_))
                refine hK.out _ _ ⟨bc_ BK111 0, bc_ BK111 1, bc_ BK111 2, bc_ BK111 3⟩ (fun hHeld => ?_)
                clear hK K
                refine nm_ ?_
                refine pI_ 5 14 HT_ #[true, true, true, true, true, true, false, false] rfl rfl ?_
                exact norm_ (qa0_) (hJ2_3_4 (.slice Ao23 y114.length co23, .slice Ao22 y117.length co22, .slice Ao21 y120.length co21) _ ⟨hHeld, (qa1_), (rq_ HO119.out), (rq_ HO122.out), (bq_ BK111.out), (bq_ BK112.out), (hb_ HB.out)⟩)
               ·
                skip
                refine box_step ?hg (N := 3) ?hd (cs := #[.slice none 0 0, .slice none 0 0, .slice none 0 0, .int .i64 0, .slice none 0 0, .slice none 0 0]) (t := 80) ?hr ?_; (case hd => rfl); (case hg => rfl); (case hr => first | (go_simp; done) | (go_simp; rfl))
                intro gb123 hg w19 hbox hb
                have BK123 := Aside0.mk (hbox)
                have GW123 := cz_ HB hg
                have GE123 := cz_ HB hg
                have NB111_123 := cn_ BK111 hg
                have NB123_111 := cm_ BK111 hg
                have NB112_123 := cn_ BK112 hg
                have NB123_112 := cm_ BK112 hg
                replace HO119 := cr_ HO119 hb
                replace HO122 := cr_ HO122 hb
                replace BK111 := cb_ BK111 hb
                replace BK112 := cb_ BK112 hb
                replace HB := ch_ HB hb
                clear hb hbox hg
                refine hK.out _ _ ⟨bc_ BK111 0, bc_ BK111 1, bc_ BK111 2, bc_ BK111 3⟩ (fun hHeld => ?_)
                clear hK K
                refine nm_ ?_
                exact norm_ (qa0_) (hJ3_4_6 (v118, v121, gb123) _ ⟨hHeld, (rq_ HO119.out), (rq_ HO122.out), (bq_ BK111.out), (bq_ BK112.out), (bq_ BK123.out), GW123.out, GE123.out, NB111_123.out, NB123_111.out, NB112_123.out, NB123_112.out, (hb_ HB.out)⟩)
             ·
              skip
              rintro ⟨v115, gb123⟩ w17 ⟨hS_, h0_, h1_, h2_, h3_, h4_, h5_, h6_, h7_, h8_, h9_, h10_⟩
              have n0_ : Aside0 (Kd.S k_Row 26 w17 w.heap.size (fun _ => True) v115 y114) := ⟨h0_⟩
              have n1_ : Aside0 (w17.heap[gb111]? = some (.cells #[.int .i64 a0_0, .int .i64 a0_1, .int .i64 a0_2, .int .i64 a0_3] 82 (0, 0))) := ⟨h1_⟩
              have n2_ : Aside0 (w17.heap[gb112]? = some (.cells #[.slice none 0 0, .slice none 0 0, .slice none 0 0, .int .i64 0, .slice none 0 0, .slice none 0 0] 80 (0, 0))) := ⟨h2_⟩
              have n3_ : Aside0 (w17.heap[gb123]? = some (.cells #[.slice none 0 0, .slice none 0 0, .slice none 0 0, .int .i64 0, .slice none 0 0, .slice none 0 0] 80 (0, 0))) := ⟨h3_⟩
              have n4_ : Aside0 (w.heap.size ≤ gb123) := ⟨h4_⟩
              have n5_ : Aside0 (w.heap.size ≤ gb123) := ⟨h5_⟩
              have n6_ : Aside0 (gb111 ≠ gb123) := ⟨h6_⟩
              have n7_ : Aside0 (gb123 ≠ gb111) := ⟨h7_⟩
              have n8_ : Aside0 (gb112 ≠ gb123) := ⟨h8_⟩
              have n9_ : Aside0 (gb123 ≠ gb112) := ⟨h9_⟩
              have n10_ : Aside0 (Below w.heap.size w w17) := ⟨h10_⟩
              clear BK111
              clear BK112
              clear HB
              clear h0_ h1_ h2_ h3_ h4_ h5_ h6_ h7_ h8_ h9_ h10_
              have HO116 := n0_
              have BK111 := n1_
              have BK112 := n2_
              have BK123 := n3_
              have GW123 := n4_
              have GE123 := n5_
              have NB111_123 := n6_
              have NB123_111 := n7_
              have NB112_123 := n8_
              have NB123_112 := n9_
              have HB := n10_
              clear n0_ n1_ n2_ n3_ n4_ n5_ n6_ n7_ n8_ n9_ n10_
              have hHeld : w17.cell? ⟨gb111, 0, none⟩ = some (.int .i64 a0_0) ∧ w17.cell? ⟨gb111, 1, none⟩ = some (.int .i64 a0_1) ∧ w17.cell? ⟨gb111, 2, none⟩ = some (.int .i64 a0_2) ∧ w17.cell? ⟨gb111, 3, none⟩ = some (.int .i64 a0_3) := hS_
              refine norm_ (a' := ?_) ?_ ?_
              rotate_left; (focus simp only [putAll, Act.put, List.setIfInBounds_toArray, List.set_cons_zero, List.set_cons_succ]; rfl)
              refine two_ (i := 3) (j := 4) (Ni := some 12) (Nj := some 13) #[true, true, true, true, false, false, true, false] #[true, true, true, false, true, false, true, false] rfl rfl rfl rfl (two_of HT_.out (by kernel_rfl)) (by decide) (by decide) (fun K hK => ?_) (fun K hK => ?_)
              ·
               skip
               refine Kd.R_make_step (Kd.int .i64) _ 3 (by rfl) (N := 12) rfl 77 _ _ rfl 4 rfl rfl Try.underlying77 (.int .i64 0) 8 info3 rfl (by decide) (by omega) 0 (ok := fun _ => True) (okp := fun _ => True) rfl (fun _ hk => hk) trivial (by omega) (by omega) (Below.refl _ _) (Nat.le_refl _) ?_
               intro v118 w18 ho19 hb hg_ hnew_
               clear hg_ hnew_
               (first | rw [← Ny117.out] at ho19 | (simp only [Int.reduceToNat] at ho19; rw [← Ny117.out] at ho19))
               have HO119 := Aside0.mk (Kd.R_lower ho19 (below_size (hb_ HB.out)))
               replace HO116 := Aside0.mk (Kd.S_below (qa1_) hb)
               replace BK111 := cb_ BK111 hb
               replace BK112 := cb_ BK112 hb
               replace BK123 := cb_ BK123 hb
               replace HB := ch_ HB hb
               clear hb ho19
               refine hK.out _ _ ⟨bc_ BK111 0, bc_ BK111 1, bc_ BK111 2, bc_ BK111 3⟩ (fun hHeld => ?_)
               clear hK K
               refine nm_ ?_
               exact norm_ (qa0_) (hJ2_3_6 (v115, v118, gb123) _ ⟨hHeld, (qa1_), (rq_ HO119.out), (bq_ BK111.out), (bq_ BK112.out), (bq_ BK123.out), GW123.out, GE123.out, NB111_123.out, NB123_111.out, NB112_123.out, NB123_112.out, (hb_ HB.out)⟩)
              ·
               skip
               refine Kd.R_make_step k_Answer _ 144 (by rfl) (N := 13) rfl 78 _ _ rfl 4 rfl rfl Try.underlying78 (.agg #[(.int .i64 0), (.int .i64 0), (.string ⟨#[]⟩), (.string ⟨#[]⟩)]) 48 info144 rfl (by decide) (by omega) z_Answer (ok := fun _ => True) (okp := fun _ => True) (k_Answer_mkM _ _ _ z_Answer ) (fun _ hk => hk) trivial (by omega) (by omega) (Below.refl _ _) (Nat.le_refl _) ?_
               intro v121 w18 ho19 hb hg_ hnew_
               clear hg_ hnew_
               (first | rw [← Ny120.out] at ho19 | (simp only [Int.reduceToNat] at ho19; rw [← Ny120.out] at ho19))
               have HO122 := Aside0.mk (Kd.R_lower ho19 (below_size (hb_ HB.out)))
               replace HO116 := Aside0.mk (Kd.S_below (qa1_) hb)
               replace BK111 := cb_ BK111 hb
               replace BK112 := cb_ BK112 hb
               replace BK123 := cb_ BK123 hb
               replace HB := ch_ HB hb
               clear hb ho19
               refine hK.out _ _ ⟨bc_ BK111 0, bc_ BK111 1, bc_ BK111 2, bc_ BK111 3⟩ (fun hHeld => ?_)
               clear hK K
               refine nm_ ?_
               exact norm_ (qa0_) (hJ2_4_6 (v115, v121, gb123) _ ⟨hHeld, (qa1_), (rq_ HO122.out), (bq_ BK111.out), (bq_ BK112.out), (bq_ BK123.out), GW123.out, GE123.out, NB111_123.out, NB123_111.out, NB112_123.out, NB123_112.out, (hb_ HB.out)⟩)
            ·
             skip
             rintro ⟨v115, v121⟩ w18 ⟨hS_, h0_, h1_, h2_, h3_, h4_⟩
             have n0_ : Aside0 (Kd.S k_Row 26 w18 w.heap.size (fun _ => True) v115 y114) := ⟨h0_⟩
             have n1_ : Aside0 (Kd.R k_Answer 144 w18 w.heap.size (fun _ => True) v121 y120) := ⟨h1_⟩
             have n2_ : Aside0 (w18.heap[gb111]? = some (.cells #[.int .i64 a0_0, .int .i64 a0_1, .int .i64 a0_2, .int .i64 a0_3] 82 (0, 0))) := ⟨h2_⟩
             have n3_ : Aside0 (w18.heap[gb112]? = some (.cells #[.slice none 0 0, .slice none 0 0, .slice none 0 0, .int .i64 0, .slice none 0 0, .slice none 0 0] 80 (0, 0))) := ⟨h3_⟩
             have n4_ : Aside0 (Below w.heap.size w w18) := ⟨h4_⟩
             clear BK111
             clear BK112
             clear HB
             clear h0_ h1_ h2_ h3_ h4_
             have HO116 := n0_
             have HO122 := n1_
             have BK111 := n2_
             have BK112 := n3_
             have HB := n4_
             clear n0_ n1_ n2_ n3_ n4_
             have hHeld : w18.cell? ⟨gb111, 0, none⟩ = some (.int .i64 a0_0) ∧ w18.cell? ⟨gb111, 1, none⟩ = some (.int .i64 a0_1) ∧ w18.cell? ⟨gb111, 2, none⟩ = some (.int .i64 a0_2) ∧ w18.cell? ⟨gb111, 3, none⟩ = some (.int .i64 a0_3) := hS_
             refine norm_ (a' := ?_) ?_ ?_
             rotate_left; (focus simp only [putAll, Act.put, List.setIfInBounds_toArray, List.set_cons_zero, List.set_cons_succ]; rfl)
             refine two_ (i := 3) (j := 6) (Ni := some 12) (Nj := some 3) #[true, true, true, true, true, false, false, false] #[true, true, true, false, true, false, true, false] rfl rfl rfl rfl (two_of HT_.out (by kernel_rfl)) (by decide) (by decide) (fun K hK => ?_) (fun K hK => ?_)
             ·
              skip
              refine Kd.R_make_step (Kd.int .i64) _ 3 (by rfl) (N := 12) rfl 77 _ _ rfl 4 rfl rfl Try.underlying77 (.int .i64 0) 8 info3 rfl (by decide) (by omega) 0 (ok := fun _ => True) (okp := fun _ => True) rfl (fun _ hk => hk) trivial (by omega) (by omega) (Below.refl _ _) (Nat.le_refl _) ?_
              intro v118 w19 ho20 hb hg_ hnew_
              clear hg_ hnew_
              (first | rw [← Ny117.out] at ho20 | (simp only [Int.reduceToNat] at ho20; rw [← Ny117.out] at ho20))
              have HO119 := Aside0.mk (Kd.R_lower ho20 (below_size (hb_ HB.out)))
              replace HO116 := Aside0.mk (Kd.S_below (qa1_) hb)
              replace HO122 := cr_ HO122 hb
              replace BK111 := cb_ BK111 hb
              replace BK112 := cb_ BK112 hb
              replace HB := ch_ HB hb
              clear hb ho20
              obtain ⟨Ao21, co21, eo21⟩ := Kd.R_slice HO122.out
              (first | subst eo21 | (injection eo21 with f1_ f2_ f3_; have f4_ := f1_.symm; have f5_ := f3_.symm; clear f1_ f2_ f3_; subst f4_; subst f5_))
              obtain ⟨Ao22, co22, eo22⟩ := Kd.R_slice HO119.out
              (first | subst eo22 | (injection eo22 with f1_ f2_ f3_; have f4_ := f1_.symm; have f5_ := f3_.symm; clear f1_ f2_ f3_; subst f4_; subst f5_))
              obtain ⟨Ao23, co23, eo23⟩ := Kd.S_slice HO116.out
              (first | subst eo23 | (injection eo23 with f1_ f2_ f3_; have f4_ := f1_.symm; have f5_ := f3_.symm; clear f1_ f2_ f3_; subst f4_; subst f5_))
              refine hK.out _ _ ⟨bc_ BK111 0, bc_ BK111 1, bc_ BK111 2, bc_ BK111 3⟩ (fun hHeld => ?_)
              clear hK K
              refine nm_ ?_
              refine pI_ 5 14 HT_ #[true, true, true, true, true, true, false, false] rfl rfl ?_
              exact norm_ (qa0_) (hJ2_3_4 (.slice Ao23 y114.length co23, .slice Ao22 y117.length co22, .slice Ao21 y120.length co21) _ ⟨hHeld, (qa1_), (rq_ HO119.out), (rq_ HO122.out), (bq_ BK111.out), (bq_ BK112.out), (hb_ HB.out)⟩)
             ·
              skip
              refine box_step ?hg (N := 3) ?hd (cs := #[.slice none 0 0, .slice none 0 0, .slice none 0 0, .int .i64 0, .slice none 0 0, .slice none 0 0]) (t := 80) ?hr ?_; (case hd => rfl); (case hg => rfl); (case hr => first | (go_simp; done) | (go_simp; rfl))
              intro gb123 hg w19 hbox hb
              have BK123 := Aside0.mk (hbox)
              have GW123 := cz_ HB hg
              have GE123 := cz_ HB hg
              have NB111_123 := cn_ BK111 hg
              have NB123_111 := cm_ BK111 hg
              have NB112_123 := cn_ BK112 hg
              have NB123_112 := cm_ BK112 hg
              replace HO116 := Aside0.mk (Kd.S_below (qa1_) hb)
              replace HO122 := cr_ HO122 hb
              replace BK111 := cb_ BK111 hb
              replace BK112 := cb_ BK112 hb
              replace HB := ch_ HB hb
              clear hb hbox hg
              refine hK.out _ _ ⟨bc_ BK111 0, bc_ BK111 1, bc_ BK111 2, bc_ BK111 3⟩ (fun hHeld => ?_)
              clear hK K
              refine nm_ ?_
              exact norm_ (qa0_) (hJ2_4_6 (v115, v121, gb123) _ ⟨hHeld, (qa1_), (rq_ HO122.out), (bq_ BK111.out), (bq_ BK112.out), (bq_ BK123.out), GW123.out, GE123.out, NB111_123.out, NB123_111.out, NB112_123.out, NB123_112.out, (hb_ HB.out)⟩)
           ·
            skip
            rintro ⟨v115, v118⟩ w18 ⟨hS_, h0_, h1_, h2_, h3_, h4_⟩
            have n0_ : Aside0 (Kd.S k_Row 26 w18 w.heap.size (fun _ => True) v115 y114) := ⟨h0_⟩
            have n1_ : Aside0 (Kd.R (Kd.int .i64) 3 w18 w.heap.size (fun _ => True) v118 y117) := ⟨h1_⟩
            have n2_ : Aside0 (w18.heap[gb111]? = some (.cells #[.int .i64 a0_0, .int .i64 a0_1, .int .i64 a0_2, .int .i64 a0_3] 82 (0, 0))) := ⟨h2_⟩
            have n3_ : Aside0 (w18.heap[gb112]? = some (.cells #[.slice none 0 0, .slice none 0 0, .slice none 0 0, .int .i64 0, .slice none 0 0, .slice none 0 0] 80 (0, 0))) := ⟨h3_⟩
            have n4_ : Aside0 (Below w.heap.size w w18) := ⟨h4_⟩
            clear BK111
            clear BK112
            clear HB
            clear h0_ h1_ h2_ h3_ h4_
            have HO116 := n0_
            have HO119 := n1_
            have BK111 := n2_
            have BK112 := n3_
            have HB := n4_
            clear n0_ n1_ n2_ n3_ n4_
            have hHeld : w18.cell? ⟨gb111, 0, none⟩ = some (.int .i64 a0_0) ∧ w18.cell? ⟨gb111, 1, none⟩ = some (.int .i64 a0_1) ∧ w18.cell? ⟨gb111, 2, none⟩ = some (.int .i64 a0_2) ∧ w18.cell? ⟨gb111, 3, none⟩ = some (.int .i64 a0_3) := hS_
            refine norm_ (a' := ?_) ?_ ?_
            rotate_left; (focus simp only [putAll, Act.put, List.setIfInBounds_toArray, List.set_cons_zero, List.set_cons_succ]; rfl)
            refine two_ (i := 4) (j := 6) (Ni := some 13) (Nj := some 3) #[true, true, true, true, true, false, false, false] #[true, true, true, true, false, false, true, false] rfl rfl rfl rfl (two_of HT_.out (by kernel_rfl)) (by decide) (by decide) (fun K hK => ?_) (fun K hK => ?_)
            ·
             skip
             refine Kd.R_make_step k_Answer _ 144 (by rfl) (N := 13) rfl 78 _ _ rfl 4 rfl rfl Try.underlying78 (.agg #[(.int .i64 0), (.int .i64 0), (.string ⟨#[]⟩), (.string ⟨#[]⟩)]) 48 info144 rfl (by decide) (by omega) z_Answer (ok := fun _ => True) (okp := fun _ => True) (k_Answer_mkM _ _ _ z_Answer ) (fun _ hk => hk) trivial (by omega) (by omega) (Below.refl _ _) (Nat.le_refl _) ?_
             intro v121 w19 ho20 hb hg_ hnew_
             clear hg_ hnew_
             (first | rw [← Ny120.out] at ho20 | (simp only [Int.reduceToNat] at ho20; rw [← Ny120.out] at ho20))
             have HO122 := Aside0.mk (Kd.R_lower ho20 (below_size (hb_ HB.out)))
             replace HO116 := Aside0.mk (Kd.S_below (qa1_) hb)
             replace HO119 := cr_ HO119 hb
             replace BK111 := cb_ BK111 hb
             replace BK112 := cb_ BK112 hb
             replace HB := ch_ HB hb
             clear hb ho20
             obtain ⟨Ao21, co21, eo21⟩ := Kd.R_slice HO122.out
             (first | subst eo21 | (injection eo21 with f1_ f2_ f3_; have f4_ := f1_.symm; have f5_ := f3_.symm; clear f1_ f2_ f3_; subst f4_; subst f5_))
             obtain ⟨Ao22, co22, eo22⟩ := Kd.R_slice HO119.out
             (first | subst eo22 | (injection eo22 with f1_ f2_ f3_; have f4_ := f1_.symm; have f5_ := f3_.symm; clear f1_ f2_ f3_; subst f4_; subst f5_))
             obtain ⟨Ao23, co23, eo23⟩ := Kd.S_slice HO116.out
             (first | subst eo23 | (injection eo23 with f1_ f2_ f3_; have f4_ := f1_.symm; have f5_ := f3_.symm; clear f1_ f2_ f3_; subst f4_; subst f5_))
             refine hK.out _ _ ⟨bc_ BK111 0, bc_ BK111 1, bc_ BK111 2, bc_ BK111 3⟩ (fun hHeld => ?_)
             clear hK K
             refine nm_ ?_
             refine pI_ 5 14 HT_ #[true, true, true, true, true, true, false, false] rfl rfl ?_
             exact norm_ (qa0_) (hJ2_3_4 (.slice Ao23 y114.length co23, .slice Ao22 y117.length co22, .slice Ao21 y120.length co21) _ ⟨hHeld, (qa1_), (rq_ HO119.out), (rq_ HO122.out), (bq_ BK111.out), (bq_ BK112.out), (hb_ HB.out)⟩)
            ·
             skip
             refine box_step ?hg (N := 3) ?hd (cs := #[.slice none 0 0, .slice none 0 0, .slice none 0 0, .int .i64 0, .slice none 0 0, .slice none 0 0]) (t := 80) ?hr ?_; (case hd => rfl); (case hg => rfl); (case hr => first | (go_simp; done) | (go_simp; rfl))
             intro gb123 hg w19 hbox hb
             have BK123 := Aside0.mk (hbox)
             have GW123 := cz_ HB hg
             have GE123 := cz_ HB hg
             have NB111_123 := cn_ BK111 hg
             have NB123_111 := cm_ BK111 hg
             have NB112_123 := cn_ BK112 hg
             have NB123_112 := cm_ BK112 hg
             replace HO116 := Aside0.mk (Kd.S_below (qa1_) hb)
             replace HO119 := cr_ HO119 hb
             replace BK111 := cb_ BK111 hb
             replace BK112 := cb_ BK112 hb
             replace HB := ch_ HB hb
             clear hb hbox hg
             refine hK.out _ _ ⟨bc_ BK111 0, bc_ BK111 1, bc_ BK111 2, bc_ BK111 3⟩ (fun hHeld => ?_)
             clear hK K
             refine nm_ ?_
             exact norm_ (qa0_) (hJ2_3_6 (v115, v118, gb123) _ ⟨hHeld, (qa1_), (rq_ HO119.out), (bq_ BK111.out), (bq_ BK112.out), (bq_ BK123.out), GW123.out, GE123.out, NB111_123.out, NB123_111.out, NB112_123.out, NB123_112.out, (hb_ HB.out)⟩)
          ·
           skip
           rintro ⟨v118, v121, gb123⟩ w19 ⟨hS_, h0_, h1_, h2_, h3_, h4_, h5_, h6_, h7_, h8_, h9_, h10_, h11_⟩
           have n0_ : Aside0 (Kd.R (Kd.int .i64) 3 w19 w.heap.size (fun _ => True) v118 y117) := ⟨h0_⟩
           have n1_ : Aside0 (Kd.R k_Answer 144 w19 w.heap.size (fun _ => True) v121 y120) := ⟨h1_⟩
           have n2_ : Aside0 (w19.heap[gb111]? = some (.cells #[.int .i64 a0_0, .int .i64 a0_1, .int .i64 a0_2, .int .i64 a0_3] 82 (0, 0))) := ⟨h2_⟩
           have n3_ : Aside0 (w19.heap[gb112]? = some (.cells #[.slice none 0 0, .slice none 0 0, .slice none 0 0, .int .i64 0, .slice none 0 0, .slice none 0 0] 80 (0, 0))) := ⟨h3_⟩
           have n4_ : Aside0 (w19.heap[gb123]? = some (.cells #[.slice none 0 0, .slice none 0 0, .slice none 0 0, .int .i64 0, .slice none 0 0, .slice none 0 0] 80 (0, 0))) := ⟨h4_⟩
           have n5_ : Aside0 (w.heap.size ≤ gb123) := ⟨h5_⟩
           have n6_ : Aside0 (w.heap.size ≤ gb123) := ⟨h6_⟩
           have n7_ : Aside0 (gb111 ≠ gb123) := ⟨h7_⟩
           have n8_ : Aside0 (gb123 ≠ gb111) := ⟨h8_⟩
           have n9_ : Aside0 (gb112 ≠ gb123) := ⟨h9_⟩
           have n10_ : Aside0 (gb123 ≠ gb112) := ⟨h10_⟩
           have n11_ : Aside0 (Below w.heap.size w w19) := ⟨h11_⟩
           clear BK111
           clear BK112
           clear HB
           clear h0_ h1_ h2_ h3_ h4_ h5_ h6_ h7_ h8_ h9_ h10_ h11_
           have HO119 := n0_
           have HO122 := n1_
           have BK111 := n2_
           have BK112 := n3_
           have BK123 := n4_
           have GW123 := n5_
           have GE123 := n6_
           have NB111_123 := n7_
           have NB123_111 := n8_
           have NB112_123 := n9_
           have NB123_112 := n10_
           have HB := n11_
           clear n0_ n1_ n2_ n3_ n4_ n5_ n6_ n7_ n8_ n9_ n10_ n11_
           have hHeld : w19.cell? ⟨gb111, 0, none⟩ = some (.int .i64 a0_0) ∧ w19.cell? ⟨gb111, 1, none⟩ = some (.int .i64 a0_1) ∧ w19.cell? ⟨gb111, 2, none⟩ = some (.int .i64 a0_2) ∧ w19.cell? ⟨gb111, 3, none⟩ = some (.int .i64 a0_3) := hS_
           refine norm_ (a' := ?_) ?_ ?_
           rotate_left; (focus simp only [putAll, Act.put, List.setIfInBounds_toArray, List.set_cons_zero, List.set_cons_succ]; rfl)
           refine on_ 2 11 HT_ #[true, true, true, true, true, false, true, false] rfl rfl (fun K hK => ?_)
           refine Kd.S_make_step k_Row _ 26 (by rfl) (N := 11) rfl 75 _ _ rfl a0_0 rfl rfl Try.underlying75 (.agg #[(.int .i64 0), (.int .i64 0), (.slice none 0 0)]) 40 info26 rfl (by decide) (by omega) z_Row (ok := fun _ => True) (okp := fun _ => True) (k_Row_mkM _ _ _ z_Row (Kd.R_nil _ _ _ _ _)) (fun _ hk => hk) trivial (of_decide_eq_true dt_) (Nat.le_trans (Nat.mul_le_mul_right _ (of_decide_eq_true dt_ : a0_0.toNat ≤ 7036874417766)) (by omega)) (Below.refl _ _) (Nat.le_refl _) ?_
           intro v115 w20 ho21 hb hg_ hnew_
           clear hg_ hnew_
           (first | rw [← Ny114.out] at ho21 | (simp only [Int.reduceToNat] at ho21; rw [← Ny114.out] at ho21))
           have HO116 := Aside0.mk (Kd.S_lower ho21 (below_size (hb_ HB.out)))
           replace HO119 := cr_ HO119 hb
           replace HO122 := cr_ HO122 hb
           replace BK111 := cb_ BK111 hb
           replace BK112 := cb_ BK112 hb
           replace BK123 := cb_ BK123 hb
           replace HB := ch_ HB hb
           clear hb ho21
           obtain ⟨Ao22, co22, eo22⟩ := Kd.R_slice HO122.out
           (first | subst eo22 | (injection eo22 with f1_ f2_ f3_; have f4_ := f1_.symm; have f5_ := f3_.symm; clear f1_ f2_ f3_; subst f4_; subst f5_))
           obtain ⟨Ao23, co23, eo23⟩ := Kd.R_slice HO119.out
           (first | subst eo23 | (injection eo23 with f1_ f2_ f3_; have f4_ := f1_.symm; have f5_ := f3_.symm; clear f1_ f2_ f3_; subst f4_; subst f5_))
           obtain ⟨Ao24, co24, eo24⟩ := Kd.S_slice HO116.out
           (first | subst eo24 | (injection eo24 with f1_ f2_ f3_; have f4_ := f1_.symm; have f5_ := f3_.symm; clear f1_ f2_ f3_; subst f4_; subst f5_))
           refine hK.out _ _ ⟨bc_ BK111 0, bc_ BK111 1, bc_ BK111 2, bc_ BK111 3⟩ (fun hHeld => ?_)
           clear hK K
           refine nm_ ?_
           refine pI_ 5 14 HT_ #[true, true, true, true, true, true, true, false] rfl rfl ?_
           exact norm_ (qa0_) (hJ2_3_4_6 (.slice Ao24 y114.length co24, .slice Ao23 y117.length co23, .slice Ao22 y120.length co22, gb123) _ ⟨hHeld, (qa1_), (rq_ HO119.out), (rq_ HO122.out), (bq_ BK111.out), (bq_ BK112.out), (bq_ BK123.out), GW123.out, GE123.out, NB111_123.out, NB123_111.out, NB112_123.out, NB123_112.out, (hb_ HB.out)⟩)
         ·
          skip
          rintro ⟨v115, v121, gb123⟩ w19 ⟨hS_, h0_, h1_, h2_, h3_, h4_, h5_, h6_, h7_, h8_, h9_, h10_, h11_⟩
          have n0_ : Aside0 (Kd.S k_Row 26 w19 w.heap.size (fun _ => True) v115 y114) := ⟨h0_⟩
          have n1_ : Aside0 (Kd.R k_Answer 144 w19 w.heap.size (fun _ => True) v121 y120) := ⟨h1_⟩
          have n2_ : Aside0 (w19.heap[gb111]? = some (.cells #[.int .i64 a0_0, .int .i64 a0_1, .int .i64 a0_2, .int .i64 a0_3] 82 (0, 0))) := ⟨h2_⟩
          have n3_ : Aside0 (w19.heap[gb112]? = some (.cells #[.slice none 0 0, .slice none 0 0, .slice none 0 0, .int .i64 0, .slice none 0 0, .slice none 0 0] 80 (0, 0))) := ⟨h3_⟩
          have n4_ : Aside0 (w19.heap[gb123]? = some (.cells #[.slice none 0 0, .slice none 0 0, .slice none 0 0, .int .i64 0, .slice none 0 0, .slice none 0 0] 80 (0, 0))) := ⟨h4_⟩
          have n5_ : Aside0 (w.heap.size ≤ gb123) := ⟨h5_⟩
          have n6_ : Aside0 (w.heap.size ≤ gb123) := ⟨h6_⟩
          have n7_ : Aside0 (gb111 ≠ gb123) := ⟨h7_⟩
          have n8_ : Aside0 (gb123 ≠ gb111) := ⟨h8_⟩
          have n9_ : Aside0 (gb112 ≠ gb123) := ⟨h9_⟩
          have n10_ : Aside0 (gb123 ≠ gb112) := ⟨h10_⟩
          have n11_ : Aside0 (Below w.heap.size w w19) := ⟨h11_⟩
          clear BK111
          clear BK112
          clear HB
          clear h0_ h1_ h2_ h3_ h4_ h5_ h6_ h7_ h8_ h9_ h10_ h11_
          have HO116 := n0_
          have HO122 := n1_
          have BK111 := n2_
          have BK112 := n3_
          have BK123 := n4_
          have GW123 := n5_
          have GE123 := n6_
          have NB111_123 := n7_
          have NB123_111 := n8_
          have NB112_123 := n9_
          have NB123_112 := n10_
          have HB := n11_
          clear n0_ n1_ n2_ n3_ n4_ n5_ n6_ n7_ n8_ n9_ n10_ n11_
          have hHeld : w19.cell? ⟨gb111, 0, none⟩ = some (.int .i64 a0_0) ∧ w19.cell? ⟨gb111, 1, none⟩ = some (.int .i64 a0_1) ∧ w19.cell? ⟨gb111, 2, none⟩ = some (.int .i64 a0_2) ∧ w19.cell? ⟨gb111, 3, none⟩ = some (.int .i64 a0_3) := hS_
          refine norm_ (a' := ?_) ?_ ?_
          rotate_left; (focus simp only [putAll, Act.put, List.setIfInBounds_toArray, List.set_cons_zero, List.set_cons_succ]; rfl)
          refine on_ 3 12 HT_ #[true, true, true, true, true, false, true, false] rfl rfl (fun K hK => ?_)
          refine Kd.R_make_step (Kd.int .i64) _ 3 (by rfl) (N := 12) rfl 77 _ _ rfl 4 rfl rfl Try.underlying77 (.int .i64 0) 8 info3 rfl (by decide) (by omega) 0 (ok := fun _ => True) (okp := fun _ => True) rfl (fun _ hk => hk) trivial (by omega) (by omega) (Below.refl _ _) (Nat.le_refl _) ?_
          intro v118 w20 ho21 hb hg_ hnew_
          clear hg_ hnew_
          (first | rw [← Ny117.out] at ho21 | (simp only [Int.reduceToNat] at ho21; rw [← Ny117.out] at ho21))
          have HO119 := Aside0.mk (Kd.R_lower ho21 (below_size (hb_ HB.out)))
          replace HO116 := Aside0.mk (Kd.S_below (qa1_) hb)
          replace HO122 := cr_ HO122 hb
          replace BK111 := cb_ BK111 hb
          replace BK112 := cb_ BK112 hb
          replace BK123 := cb_ BK123 hb
          replace HB := ch_ HB hb
          clear hb ho21
          obtain ⟨Ao22, co22, eo22⟩ := Kd.R_slice HO122.out
          (first | subst eo22 | (injection eo22 with f1_ f2_ f3_; have f4_ := f1_.symm; have f5_ := f3_.symm; clear f1_ f2_ f3_; subst f4_; subst f5_))
          obtain ⟨Ao23, co23, eo23⟩ := Kd.R_slice HO119.out
          (first | subst eo23 | (injection eo23 with f1_ f2_ f3_; have f4_ := f1_.symm; have f5_ := f3_.symm; clear f1_ f2_ f3_; subst f4_; subst f5_))
          obtain ⟨Ao24, co24, eo24⟩ := Kd.S_slice HO116.out
          (first | subst eo24 | (injection eo24 with f1_ f2_ f3_; have f4_ := f1_.symm; have f5_ := f3_.symm; clear f1_ f2_ f3_; subst f4_; subst f5_))
          refine hK.out _ _ ⟨bc_ BK111 0, bc_ BK111 1, bc_ BK111 2, bc_ BK111 3⟩ (fun hHeld => ?_)
          clear hK K
          refine nm_ ?_
          refine pI_ 5 14 HT_ #[true, true, true, true, true, true, true, false] rfl rfl ?_
          exact norm_ (qa0_) (hJ2_3_4_6 (.slice Ao24 y114.length co24, .slice Ao23 y117.length co23, .slice Ao22 y120.length co22, gb123) _ ⟨hHeld, (qa1_), (rq_ HO119.out), (rq_ HO122.out), (bq_ BK111.out), (bq_ BK112.out), (bq_ BK123.out), GW123.out, GE123.out, NB111_123.out, NB123_111.out, NB112_123.out, NB123_112.out, (hb_ HB.out)⟩)
        ·
         skip
         rintro ⟨v115, v118, gb123⟩ w19 ⟨hS_, h0_, h1_, h2_, h3_, h4_, h5_, h6_, h7_, h8_, h9_, h10_, h11_⟩
         have n0_ : Aside0 (Kd.S k_Row 26 w19 w.heap.size (fun _ => True) v115 y114) := ⟨h0_⟩
         have n1_ : Aside0 (Kd.R (Kd.int .i64) 3 w19 w.heap.size (fun _ => True) v118 y117) := ⟨h1_⟩
         have n2_ : Aside0 (w19.heap[gb111]? = some (.cells #[.int .i64 a0_0, .int .i64 a0_1, .int .i64 a0_2, .int .i64 a0_3] 82 (0, 0))) := ⟨h2_⟩
         have n3_ : Aside0 (w19.heap[gb112]? = some (.cells #[.slice none 0 0, .slice none 0 0, .slice none 0 0, .int .i64 0, .slice none 0 0, .slice none 0 0] 80 (0, 0))) := ⟨h3_⟩
         have n4_ : Aside0 (w19.heap[gb123]? = some (.cells #[.slice none 0 0, .slice none 0 0, .slice none 0 0, .int .i64 0, .slice none 0 0, .slice none 0 0] 80 (0, 0))) := ⟨h4_⟩
         have n5_ : Aside0 (w.heap.size ≤ gb123) := ⟨h5_⟩
         have n6_ : Aside0 (w.heap.size ≤ gb123) := ⟨h6_⟩
         have n7_ : Aside0 (gb111 ≠ gb123) := ⟨h7_⟩
         have n8_ : Aside0 (gb123 ≠ gb111) := ⟨h8_⟩
         have n9_ : Aside0 (gb112 ≠ gb123) := ⟨h9_⟩
         have n10_ : Aside0 (gb123 ≠ gb112) := ⟨h10_⟩
         have n11_ : Aside0 (Below w.heap.size w w19) := ⟨h11_⟩
         clear BK111
         clear BK112
         clear HB
         clear h0_ h1_ h2_ h3_ h4_ h5_ h6_ h7_ h8_ h9_ h10_ h11_
         have HO116 := n0_
         have HO119 := n1_
         have BK111 := n2_
         have BK112 := n3_
         have BK123 := n4_
         have GW123 := n5_
         have GE123 := n6_
         have NB111_123 := n7_
         have NB123_111 := n8_
         have NB112_123 := n9_
         have NB123_112 := n10_
         have HB := n11_
         clear n0_ n1_ n2_ n3_ n4_ n5_ n6_ n7_ n8_ n9_ n10_ n11_
         have hHeld : w19.cell? ⟨gb111, 0, none⟩ = some (.int .i64 a0_0) ∧ w19.cell? ⟨gb111, 1, none⟩ = some (.int .i64 a0_1) ∧ w19.cell? ⟨gb111, 2, none⟩ = some (.int .i64 a0_2) ∧ w19.cell? ⟨gb111, 3, none⟩ = some (.int .i64 a0_3) := hS_
         refine norm_ (a' := ?_) ?_ ?_
         rotate_left; (focus simp only [putAll, Act.put, List.setIfInBounds_toArray, List.set_cons_zero, List.set_cons_succ]; rfl)
         refine on_ 4 13 HT_ #[true, true, true, true, true, false, true, false] rfl rfl (fun K hK => ?_)
         refine Kd.R_make_step k_Answer _ 144 (by rfl) (N := 13) rfl 78 _ _ rfl 4 rfl rfl Try.underlying78 (.agg #[(.int .i64 0), (.int .i64 0), (.string ⟨#[]⟩), (.string ⟨#[]⟩)]) 48 info144 rfl (by decide) (by omega) z_Answer (ok := fun _ => True) (okp := fun _ => True) (k_Answer_mkM _ _ _ z_Answer ) (fun _ hk => hk) trivial (by omega) (by omega) (Below.refl _ _) (Nat.le_refl _) ?_
         intro v121 w20 ho21 hb hg_ hnew_
         clear hg_ hnew_
         (first | rw [← Ny120.out] at ho21 | (simp only [Int.reduceToNat] at ho21; rw [← Ny120.out] at ho21))
         have HO122 := Aside0.mk (Kd.R_lower ho21 (below_size (hb_ HB.out)))
         replace HO116 := Aside0.mk (Kd.S_below (qa1_) hb)
         replace HO119 := cr_ HO119 hb
         replace BK111 := cb_ BK111 hb
         replace BK112 := cb_ BK112 hb
         replace BK123 := cb_ BK123 hb
         replace HB := ch_ HB hb
         clear hb ho21
         obtain ⟨Ao22, co22, eo22⟩ := Kd.R_slice HO122.out
         (first | subst eo22 | (injection eo22 with f1_ f2_ f3_; have f4_ := f1_.symm; have f5_ := f3_.symm; clear f1_ f2_ f3_; subst f4_; subst f5_))
         obtain ⟨Ao23, co23, eo23⟩ := Kd.R_slice HO119.out
         (first | subst eo23 | (injection eo23 with f1_ f2_ f3_; have f4_ := f1_.symm; have f5_ := f3_.symm; clear f1_ f2_ f3_; subst f4_; subst f5_))
         obtain ⟨Ao24, co24, eo24⟩ := Kd.S_slice HO116.out
         (first | subst eo24 | (injection eo24 with f1_ f2_ f3_; have f4_ := f1_.symm; have f5_ := f3_.symm; clear f1_ f2_ f3_; subst f4_; subst f5_))
         refine hK.out _ _ ⟨bc_ BK111 0, bc_ BK111 1, bc_ BK111 2, bc_ BK111 3⟩ (fun hHeld => ?_)
         clear hK K
         refine nm_ ?_
         refine pI_ 5 14 HT_ #[true, true, true, true, true, true, true, false] rfl rfl ?_
         exact norm_ (qa0_) (hJ2_3_4_6 (.slice Ao24 y114.length co24, .slice Ao23 y117.length co23, .slice Ao22 y120.length co22, gb123) _ ⟨hHeld, (qa1_), (rq_ HO119.out), (rq_ HO122.out), (bq_ BK111.out), (bq_ BK112.out), (bq_ BK123.out), GW123.out, GE123.out, NB111_123.out, NB123_111.out, NB112_123.out, NB123_112.out, (hb_ HB.out)⟩)
       ·
        skip
        rintro ⟨v115, v118, v121⟩ w23 ⟨hS_, h0_, h1_, h2_, h3_, h4_, h5_⟩
        have n0_ : Aside0 (Kd.S k_Row 26 w23 w.heap.size (fun _ => True) v115 y114) := ⟨h0_⟩
        have n1_ : Aside0 (Kd.R (Kd.int .i64) 3 w23 w.heap.size (fun _ => True) v118 y117) := ⟨h1_⟩
        have n2_ : Aside0 (Kd.R k_Answer 144 w23 w.heap.size (fun _ => True) v121 y120) := ⟨h2_⟩
        have n3_ : Aside0 (w23.heap[gb111]? = some (.cells #[.int .i64 a0_0, .int .i64 a0_1, .int .i64 a0_2, .int .i64 a0_3] 82 (0, 0))) := ⟨h3_⟩
        have n4_ : Aside0 (w23.heap[gb112]? = some (.cells #[.slice none 0 0, .slice none 0 0, .slice none 0 0, .int .i64 0, .slice none 0 0, .slice none 0 0] 80 (0, 0))) := ⟨h4_⟩
        have n5_ : Aside0 (Below w.heap.size w w23) := ⟨h5_⟩
        clear BK111
        clear BK112
        clear HB
        clear h0_ h1_ h2_ h3_ h4_ h5_
        have HO116 := n0_
        have HO119 := n1_
        have HO122 := n2_
        have BK111 := n3_
        have BK112 := n4_
        have HB := n5_
        clear n0_ n1_ n2_ n3_ n4_ n5_
        have hHeld : w23.cell? ⟨gb111, 0, none⟩ = some (.int .i64 a0_0) ∧ w23.cell? ⟨gb111, 1, none⟩ = some (.int .i64 a0_1) ∧ w23.cell? ⟨gb111, 2, none⟩ = some (.int .i64 a0_2) ∧ w23.cell? ⟨gb111, 3, none⟩ = some (.int .i64 a0_3) := hS_
        obtain ⟨Ao24, co24, eo24⟩ := Kd.R_slice HO122.out
        (first | subst eo24 | (injection eo24 with f1_ f2_ f3_; have f4_ := f1_.symm; have f5_ := f3_.symm; clear f1_ f2_ f3_; subst f4_; subst f5_))
        obtain ⟨Ao25, co25, eo25⟩ := Kd.R_slice HO119.out
        (first | subst eo25 | (injection eo25 with f1_ f2_ f3_; have f4_ := f1_.symm; have f5_ := f3_.symm; clear f1_ f2_ f3_; subst f4_; subst f5_))
        obtain ⟨Ao26, co26, eo26⟩ := Kd.S_slice HO116.out
        (first | subst eo26 | (injection eo26 with f1_ f2_ f3_; have f4_ := f1_.symm; have f5_ := f3_.symm; clear f1_ f2_ f3_; subst f4_; subst f5_))
        refine norm_ (a' := ?_) ?_ ?_
        rotate_left; (focus simp only [putAll, Act.put, List.setIfInBounds_toArray, List.set_cons_zero, List.set_cons_succ]; rfl)
        refine on_ 6 3 HT_ #[true, true, true, true, true, true, true, false] rfl rfl (fun K hK => ?_)
        refine box_step ?hg (N := 3) ?hd (cs := #[.slice none 0 0, .slice none 0 0, .slice none 0 0, .int .i64 0, .slice none 0 0, .slice none 0 0]) (t := 80) ?hr ?_; (case hd => rfl); (case hg => rfl); (case hr => first | (go_simp; done) | (go_simp; rfl))
        intro gb123 hg w27 hbox hb
        have BK123 := Aside0.mk (hbox)
        have GW123 := cz_ HB hg
        have GE123 := cz_ HB hg
        have NB111_123 := cn_ BK111 hg
        have NB123_111 := cm_ BK111 hg
        have NB112_123 := cn_ BK112 hg
        have NB123_112 := cm_ BK112 hg
        replace HO116 := Aside0.mk (Kd.S_below (qa1_) hb)
        replace HO119 := cr_ HO119 hb
        replace HO122 := cr_ HO122 hb
        replace BK111 := cb_ BK111 hb
        replace BK112 := cb_ BK112 hb
        replace HB := ch_ HB hb
        clear hb hbox hg
        refine hK.out _ _ ⟨bc_ BK111 0, bc_ BK111 1, bc_ BK111 2, bc_ BK111 3⟩ (fun hHeld => ?_)
        clear hK K
        refine nm_ ?_
        exact norm_ (qa0_) (hJ2_3_4_6 (.slice Ao26 y114.length co26, .slice Ao25 y117.length co25, .slice Ao24 y120.length co24, gb123) _ ⟨hHeld, (qa1_), (rq_ HO119.out), (rq_ HO122.out), (bq_ BK111.out), (bq_ BK112.out), (bq_ BK123.out), GW123.out, GE123.out, NB111_123.out, NB123_111.out, NB112_123.out, NB123_112.out, (hb_ HB.out)⟩)
      rintro ⟨v115, v118, v121, gb123⟩ w24 ⟨hS_, h0_, h1_, h2_, h3_, h4_, h5_, h6_, h7_, h8_, h9_, h10_, h11_, h12_⟩
      have n0_ : Aside0 (Kd.S k_Row 26 w24 w.heap.size (fun _ => True) v115 y114) := ⟨h0_⟩
      have n1_ : Aside0 (Kd.R (Kd.int .i64) 3 w24 w.heap.size (fun _ => True) v118 y117) := ⟨h1_⟩
      have n2_ : Aside0 (Kd.R k_Answer 144 w24 w.heap.size (fun _ => True) v121 y120) := ⟨h2_⟩
      have n3_ : Aside0 (w24.heap[gb111]? = some (.cells #[.int .i64 a0_0, .int .i64 a0_1, .int .i64 a0_2, .int .i64 a0_3] 82 (0, 0))) := ⟨h3_⟩
      have n4_ : Aside0 (w24.heap[gb112]? = some (.cells #[.slice none 0 0, .slice none 0 0, .slice none 0 0, .int .i64 0, .slice none 0 0, .slice none 0 0] 80 (0, 0))) := ⟨h4_⟩
      have n5_ : Aside0 (w24.heap[gb123]? = some (.cells #[.slice none 0 0, .slice none 0 0, .slice none 0 0, .int .i64 0, .slice none 0 0, .slice none 0 0] 80 (0, 0))) := ⟨h5_⟩
      have n6_ : Aside0 (w.heap.size ≤ gb123) := ⟨h6_⟩
      have n7_ : Aside0 (w.heap.size ≤ gb123) := ⟨h7_⟩
      have n8_ : Aside0 (gb111 ≠ gb123) := ⟨h8_⟩
      have n9_ : Aside0 (gb123 ≠ gb111) := ⟨h9_⟩
      have n10_ : Aside0 (gb112 ≠ gb123) := ⟨h10_⟩
      have n11_ : Aside0 (gb123 ≠ gb112) := ⟨h11_⟩
      have n12_ : Aside0 (Below w.heap.size w w24) := ⟨h12_⟩
      clear BK111
      clear BK112
      clear HB
      clear h0_ h1_ h2_ h3_ h4_ h5_ h6_ h7_ h8_ h9_ h10_ h11_ h12_
      have HO116 := n0_
      have HO119 := n1_
      have HO122 := n2_
      have BK111 := n3_
      have BK112 := n4_
      have BK123 := n5_
      have GW123 := n6_
      have GE123 := n7_
      have NB111_123 := n8_
      have NB123_111 := n9_
      have NB112_123 := n10_
      have NB123_112 := n11_
      have HB := n12_
      clear n0_ n1_ n2_ n3_ n4_ n5_ n6_ n7_ n8_ n9_ n10_ n11_ n12_
      have hHeld : w24.cell? ⟨gb111, 0, none⟩ = some (.int .i64 a0_0) ∧ w24.cell? ⟨gb111, 1, none⟩ = some (.int .i64 a0_1) ∧ w24.cell? ⟨gb111, 2, none⟩ = some (.int .i64 a0_2) ∧ w24.cell? ⟨gb111, 3, none⟩ = some (.int .i64 a0_3) := hS_
      obtain ⟨Ao25, co25, eo25⟩ := Kd.R_slice HO122.out
      (first | subst eo25 | (injection eo25 with f1_ f2_ f3_; have f4_ := f1_.symm; have f5_ := f3_.symm; clear f1_ f2_ f3_; subst f4_; subst f5_))
      obtain ⟨Ao26, co26, eo26⟩ := Kd.R_slice HO119.out
      (first | subst eo26 | (injection eo26 with f1_ f2_ f3_; have f4_ := f1_.symm; have f5_ := f3_.symm; clear f1_ f2_ f3_; subst f4_; subst f5_))
      obtain ⟨Ao27, co27, eo27⟩ := Kd.S_slice HO116.out
      (first | subst eo27 | (injection eo27 with f1_ f2_ f3_; have f4_ := f1_.symm; have f5_ := f3_.symm; clear f1_ f2_ f3_; subst f4_; subst f5_))
      refine norm_ (a' := ?_) ?_ ?_
      rotate_left; (focus simp only [putAll, Act.put, List.setIfInBounds_toArray, List.set_cons_zero, List.set_cons_succ]; rfl)
      refine one_ (i := 7) (N := none) #[true, true, true, true, true, true, true, true] rfl rfl (one_of HT_.out (by kernel_rfl)) (by decide) (fun K hK => ?_)
      have hs28 : w24.cell? ⟨gb123, 0, none⟩ = some (.slice none 0 0) := bc_ BK123 0
      have hfs28 := blk_frozen BK123.out 0
      have hns28_0 := NB111_123.out
      have hns28_1 := NB112_123.out
      have hms28_0 := NB123_111.out
      have hms28_1 := NB123_112.out
      have hs29 : w24.cell? ⟨gb123, 1, none⟩ = some (.slice none 0 0) := bc_ BK123 1
      have hfs29 := blk_frozen BK123.out 1
      have hns29_0 := NB111_123.out
      have hns29_1 := NB112_123.out
      have hms29_0 := NB123_111.out
      have hms29_1 := NB123_112.out
      have hs30 : w24.cell? ⟨gb123, 2, none⟩ = some (.slice none 0 0) := bc_ BK123 2
      have hfs30 := blk_frozen BK123.out 2
      have hns30_0 := NB111_123.out
      have hns30_1 := NB112_123.out
      have hms30_0 := NB123_111.out
      have hms30_1 := NB123_112.out
      have hs31 : w24.cell? ⟨gb123, 3, none⟩ = some (.int .i64 0) := bc_ BK123 3
      have hfs31 := blk_frozen BK123.out 3
      have hns31_0 := NB111_123.out
      have hns31_1 := NB112_123.out
      have hms31_0 := NB123_111.out
      have hms31_1 := NB123_112.out
      have hs32 : w24.cell? ⟨gb123, 4, none⟩ = some (.slice none 0 0) := bc_ BK123 4
      have hfs32 := blk_frozen BK123.out 4
      have hns32_0 := NB111_123.out
      have hns32_1 := NB112_123.out
      have hms32_0 := NB123_111.out
      have hms32_1 := NB123_112.out
      have hs33 : w24.cell? ⟨gb123, 5, none⟩ = some (.slice none 0 0) := bc_ BK123 5
      have hfs33 := blk_frozen BK123.out 5
      have hns33_0 := NB111_123.out
      have hns33_1 := NB112_123.out
      have hms33_0 := NB123_111.out
      have hms33_1 := NB123_112.out
      refine skip_ (w1 := ?_) (by rfl) rfl ?_ ?_
      rotate_left; (focus go_simp; rfl)
      refine hK.out _ _ ⟨(cfs_ NB111_123.out (hHeld.1)), (cfs_ NB111_123.out (hHeld.2.1)), (cfs_ NB111_123.out (hHeld.2.2.1)), (cfs_ NB111_123.out (hHeld.2.2.2))⟩ (fun hHeld => ?_)
      clear hK K
      refine done_ (done_of HT_.out (by kernel_rfl)) ?_
      try go_wp2
      go_loopg [4] k (fun kq v4 w' => ∃ (x4_1 : Int) (x124002_1 : List (S_Group)) (u124002 : Value), v4 = .int .i64 x4_1 ∧ Aside0 (spec_KeepNew.l0 kq x4_1 a0_0 a0_1 a0_2 a0_3 y114 x124002_1 0 y117 y120 = some (r1, r2, r3, r4, r5, r6)) ∧ Aside0 (kq ≤ k) ∧ Aside0 (Kd.S k_Row 26 w' w.heap.size (fun _ => True) (.slice Ao27 y114.length co27) y114) ∧ Aside0 (Kd.S k_Group 115 w' w.heap.size (fun k_ => some k_ ≠ ((.slice Ao26 y117.length co26) : Value).ownBlock) u124002 x124002_1) ∧ Aside0 (Kd.R (Kd.int .i64) 3 w' w.heap.size (fun _ => True) (.slice Ao26 y117.length co26) y117) ∧ Aside0 (Kd.R k_Answer 144 w' w.heap.size (fun _ => True) (.slice Ao25 y120.length co25) y120) ∧ Aside0 (w'.heap[gb111]? = some (.cells #[.int .i64 a0_0, .int .i64 a0_1, .int .i64 a0_2, .int .i64 a0_3] 82 (0, 0))) ∧ Aside0 (w'.heap[gb112]? = some (.cells #[(.slice none 0 0), (.slice none 0 0), (.slice none 0 0), .int .i64 0, (.slice none 0 0), (.slice none 0 0)] 80 (0, 0))) ∧ Aside0 (w'.heap[gb123]? = some (.cells #[(.slice Ao27 y114.length co27), (.slice none 0 0), u124002, .int .i64 0, (.slice Ao26 y117.length co26), (.slice Ao25 y120.length co25)] 80 (0, 0))) ∧ Aside0 (Below w.heap.size w w'))
      case atStart => exact ⟨(0), (([] : List (S_Group))), (.slice none 0 0), (qa12_), H', ⟨Nat.le_refl _⟩, ⟨by (with_reducible repeat (first | apply Kd.S_alloc | apply Kd.S_drewN | apply Kd.S_drew)); exact Kd.S_mono (Kd.S_far (p := ⟨gb123, 5, none⟩) (Kd.S_far (p := ⟨gb123, 4, none⟩) (Kd.S_far (p := ⟨gb123, 3, none⟩) (Kd.S_far (p := ⟨gb123, 2, none⟩) (Kd.S_far (p := ⟨gb123, 1, none⟩) (Kd.S_far (p := ⟨gb123, 0, none⟩) (Kd.S_types HO116.out BK123.out (by decide)) (fun _ hk => hk.2) (.slice Ao27 y114.length co27)) (fun _ hk => hk.2) (.slice none 0 0)) (fun _ hk => hk.2) (.slice none 0 0)) (fun _ hk => hk.2) (.int .i64 0)) (fun _ hk => hk.2) (.slice Ao26 y117.length co26)) (fun _ hk => hk.2) (.slice Ao25 y120.length co25)) (fun _ hk => trivial)⟩, ⟨qa7_⟩, ⟨by (with_reducible repeat (first | apply Kd.R_alloc | apply Kd.R_drewN | apply Kd.R_drew)); exact Kd.R_mono (Kd.R_far (p := ⟨gb123, 5, none⟩) (Kd.R_far (p := ⟨gb123, 4, none⟩) (Kd.R_far (p := ⟨gb123, 3, none⟩) (Kd.R_far (p := ⟨gb123, 2, none⟩) (Kd.R_far (p := ⟨gb123, 1, none⟩) (Kd.R_far (p := ⟨gb123, 0, none⟩) (Kd.R_types HO119.out BK123.out (by decide)) (fun _ hk => hk.2) (.slice Ao27 y114.length co27)) (fun _ hk => hk.2) (.slice none 0 0)) (fun _ hk => hk.2) (.slice none 0 0)) (fun _ hk => hk.2) (.int .i64 0)) (fun _ hk => hk.2) (.slice Ao26 y117.length co26)) (fun _ hk => hk.2) (.slice Ao25 y120.length co25)) (fun _ hk => trivial)⟩, ⟨by (with_reducible repeat (first | apply Kd.R_alloc | apply Kd.R_drewN | apply Kd.R_drew)); exact Kd.R_mono (Kd.R_far (p := ⟨gb123, 5, none⟩) (Kd.R_far (p := ⟨gb123, 4, none⟩) (Kd.R_far (p := ⟨gb123, 3, none⟩) (Kd.R_far (p := ⟨gb123, 2, none⟩) (Kd.R_far (p := ⟨gb123, 1, none⟩) (Kd.R_far (p := ⟨gb123, 0, none⟩) (Kd.R_types HO122.out BK123.out (by decide)) (fun _ hk => hk.2) (.slice Ao27 y114.length co27)) (fun _ hk => hk.2) (.slice none 0 0)) (fun _ hk => hk.2) (.slice none 0 0)) (fun _ hk => hk.2) (.int .i64 0)) (fun _ hk => hk.2) (.slice Ao26 y117.length co26)) (fun _ hk => hk.2) (.slice Ao25 y120.length co25)) (fun _ hk => trivial)⟩, ⟨bf_ NB111_123.out BK111.out⟩, ⟨bf_ NB112_123.out BK112.out⟩, ⟨bp_ BK123.out⟩, ⟨hb_ HB.out⟩⟩
      case round =>
       clear H'
       try clear p2
       obtain ⟨x4_1, x124002_1, u124002, rfl, HA, HK1, HO_124000, HO_124002, HO_124004, HO_124005, BK111, BK112, BK123, HB⟩ := hrel
       cases gk with
       | zero => exact absurd HA.out (by simp [spec_KeepNew.l0])
       | succ k1 =>
        have H := HA.out
        clear HA
        simp only [spec_KeepNew.l0] at H
        by_cases c34 : x4_1 < 2
        ·
         rw [if_pos c34] at H
         have c34b0 : decide (x4_1 < 2) = true := decide_eq_true c34
         clear c34
         replace H := Option.bind_eq_some_iff.mp H
         obtain ⟨⟨t124, t125, t128, t131⟩, A350, H⟩ := H
         replace H : (if x124002_1.length < 1759218604441 then (spec_KeepNew.l0 k1 (wrap64 (x4_1 + 1)) a0_0 a0_1 a0_2 a0_3 y114 (x124002_1 ++ [(⟨t124, t125, t128, t131⟩ : S_Group)]) 0 y117 y120) else (none)) = some (r1, r2, r3, r4, r5, r6) := H
         have A35 := Aside0.mk A350
         clear A350
         by_cases c36 : x124002_1.length < 1759218604441
         ·
          rw [if_pos c36] at H
          have LMc36 := Aside0.mk c36
          clear c36
          obtain ⟨y134, hy134⟩ : ∃ y_ : List (S_Group), y_ = (x124002_1 ++ [(⟨t124, t125, t128, t131⟩ : S_Group)]) := ⟨_, rfl⟩
          replace H : (spec_KeepNew.l0 k1 (wrap64 (x4_1 + 1)) a0_0 a0_1 a0_2 a0_3 y114 y134 0 y117 y120) = some (r1, r2, r3, r4, r5, r6) := by first | (rw [hy134]; with_reducible exact H) | (have H2_ := (Option.bind_some _ _).symm.trans H; rw [hy134]; with_reducible exact H2_) | (have H2_ := (Option.bind_some _ _).symm.trans H; with_reducible exact H2_) | with_reducible exact H | (rw [hy134]; exact H) | exact H
          have Ny134 := Aside0.mk hy134
          clear hy134
          have H' := Aside0.mk H
          clear H
          try go_wp2
          replace HO_124000 := Aside0.mk (Kd.S_drew HO_124000.out)
          replace HO_124002 := Aside0.mk (Kd.S_drew HO_124002.out)
          replace HO_124004 := Aside0.mk (Kd.R_drew HO_124004.out)
          replace HO_124005 := Aside0.mk (Kd.R_drew HO_124005.out)
          replace BK111 := Aside0.mk (blk_drew BK111.out)
          replace BK112 := Aside0.mk (blk_drew BK112.out)
          replace BK123 := Aside0.mk (blk_drew BK123.out)
          replace HB := Aside0.mk (below_drew1 HB.out)
          refine start_ (n := 9) (S := fun w' => w'.cell? ⟨gb123, 0, none⟩ = some (.slice Ao27 y114.length co27) ∧ w'.cell? ⟨gb123, 1, none⟩ = some (.slice none 0 0) ∧ w'.cell? ⟨gb123, 2, none⟩ = some (u124002) ∧ w'.cell? ⟨gb123, 3, none⟩ = some (.int .i64 0) ∧ w'.cell? ⟨gb123, 4, none⟩ = some (.slice Ao26 y117.length co26) ∧ w'.cell? ⟨gb123, 5, none⟩ = some (.slice Ao25 y120.length co25) ∧ w'.cell? ⟨gb111, 0, none⟩ = some (.int .i64 a0_0) ∧ w'.cell? ⟨gb111, 1, none⟩ = some (.int .i64 a0_1) ∧ w'.cell? ⟨gb111, 2, none⟩ = some (.int .i64 a0_2) ∧ w'.cell? ⟨gb111, 3, none⟩ = some (.int .i64 a0_3)) (ds := [8]) #[false, false, false, false, false, false, false, false, false] (by kernel_rfl) rfl rfl ⟨bc_ BK123 0, bc_ BK123 1, bc_ BK123 2, bc_ BK123 3, bc_ BK123 4, bc_ BK123 5, bc_ BK111 0, bc_ BK111 1, bc_ BK111 2, bc_ BK111 3⟩ (fun hHeld => ?_); refine with_tabW spec_KeepNew.tab7 spec_KeepNew.bits7 (fun HT_ HW_ => ?_)
          generalize wr.drew = w37 at HO_124000 HO_124002 HO_124004 HO_124005 BK111 BK112 BK123 HB hHeld ⊢
          refine pI_ 0 19 HT_ #[true, false, false, false, false, false, false, false, false] rfl rfl ?_
          refine pI_ 2 21 HT_ #[true, false, true, false, false, false, false, false, false] rfl rfl ?_
          refine tk_ 1 20 HT_ HW_ #[true, true, true, false, false, false, false, false, false] rfl rfl hHeld ?_
          refine tk_ 3 22 HT_ HW_ #[true, true, true, true, false, false, false, false, false] rfl rfl hHeld ?_
          refine on_ 4 23 HT_ #[true, true, true, true, true, false, false, false, false] rfl rfl (fun K hK => ?_)
          refine goes_ Try.func81 (by kernel_rfl) rfl #[.int .i64 a0_0] (by rfl) rfl rfl sm_ ?_
          with_reducible refine (spec_GroupNew.calls a0_0 t124 t125 t128 t131 _ A35.out).mono ?_
          rintro e w38 ⟨v126, v129, v132, rfl, ho0, ho1, ho2, hb⟩
          refine ⟨_, rfl, ?_⟩
          have HO127 := Aside0.mk (Kd.R_lower (Kd.R_new' ho0 (Kd.R_lt (rq_ HO_124004.out))) (below_size (hb_ HB.out)))
          have HO130 := Aside0.mk (Kd.R_lower (Kd.R_new' ho1 (Kd.R_lt (rq_ HO_124004.out))) (below_size (hb_ HB.out)))
          have HO133 := Aside0.mk (Kd.R_lower (Kd.R_new' ho2 (Kd.R_lt (rq_ HO_124004.out))) (below_size (hb_ HB.out)))
          replace HO_124000 := Aside0.mk (Kd.S_below (by (with_reducible repeat (first | apply Kd.S_alloc | apply Kd.S_drewN | apply Kd.S_drew)); exact HO_124000.out) hb)
          replace HO_124002 := Aside0.mk (Kd.S_mono (Kd.S_told (Kd.S_told (Kd.S_told (Kd.S_old (qa11_) hb) (Kd.R_base ho0)) (Kd.R_base ho1)) (Kd.R_base ho2)) (fun _ h_ => h_.1))
          replace HO_124004 := Aside0.mk (Kd.R_mono (Kd.R_told (Kd.R_told (Kd.R_told (Kd.R_old (rq_ HO_124004.out) hb) (Kd.R_base ho0)) (Kd.R_base ho1)) (Kd.R_base ho2)) (fun _ h_ => h_.1))
          replace HO_124005 := cr_ HO_124005 hb
          replace BK111 := cb_ BK111 hb
          replace BK112 := cb_ BK112 hb
          replace BK123 := cb_ BK123 hb
          replace HB := ch_ HB hb
          (try clear hb); (try clear hb2); (try clear hk); (try clear hi); (try clear ho0); (try clear ho1); (try clear ho2)
          obtain ⟨Ao40, co40, eo40⟩ := Kd.R_slice HO127.out
          (first | subst eo40 | (injection eo40 with f1_ f2_ f3_; have f4_ := f1_.symm; have f5_ := f3_.symm; clear f1_ f2_ f3_; subst f4_; subst f5_))
          obtain ⟨Ao41, co41, eo41⟩ := Kd.R_slice HO130.out
          (first | subst eo41 | (injection eo41 with f1_ f2_ f3_; have f4_ := f1_.symm; have f5_ := f3_.symm; clear f1_ f2_ f3_; subst f4_; subst f5_))
          obtain ⟨Ao42, co42, eo42⟩ := Kd.R_slice HO133.out
          (first | subst eo42 | (injection eo42 with f1_ f2_ f3_; have f4_ := f1_.symm; have f5_ := f3_.symm; clear f1_ f2_ f3_; subst f4_; subst f5_))
          refine hK.out _ _ ⟨bc_ BK123 0, bc_ BK123 1, bc_ BK123 2, bc_ BK123 3, bc_ BK123 4, bc_ BK123 5, bc_ BK111 0, bc_ BK111 1, bc_ BK111 2, bc_ BK111 3⟩ (fun hHeld => ?_)
          clear hK K
          refine nm_ ?_
          refine on_ 5 24 HT_ #[true, true, true, true, true, true, false, false, false] rfl rfl (fun K hK => ?_)
          refine value_ (w1 := ?_) (v := ?_) (by rfl) rfl ?_ ?_
          rotate_left 2
          ·
           go_simp
           constructor
           ·
            rfl
           ·
            rfl
          refine hK.out _ _ ⟨(blk_cell (blk_alloc BK123.out _) 0).trans rfl, (blk_cell (blk_alloc BK123.out _) 1).trans rfl, (blk_cell (blk_alloc BK123.out _) 2).trans rfl, (blk_cell (blk_alloc BK123.out _) 3).trans rfl, (blk_cell (blk_alloc BK123.out _) 4).trans rfl, (blk_cell (blk_alloc BK123.out _) 5).trans rfl, (blk_cell (blk_alloc BK111.out _) 0).trans rfl, (blk_cell (blk_alloc BK111.out _) 1).trans rfl, (blk_cell (blk_alloc BK111.out _) 2).trans rfl, (blk_cell (blk_alloc BK111.out _) 3).trans rfl⟩ (fun hHeld => ?_)
          clear hK K
          refine nm_ ?_
          refine on_ 6 25 HT_ #[true, true, true, true, true, true, true, false, false] rfl rfl (fun K hK => ?_)
          refine Kd.S_append_step k_Group (w0 := w) w.heap.size (by rfl) (.tmp 20) (.tmp 24) 76 115 (.agg #[(.int .i64 0), (.slice none 0 0), (.slice none 0 0), (.slice none 0 0)]) 80 rfl Try.underlying76 info115 rfl (by decide) (by omega) u124002 x124002_1 (⟨t124, t125, t128, t131⟩ : S_Group) [.int .i64 t124, .slice Ao40 t125.length co40, .slice Ao41 t128.length co41, .slice Ao42 t131.length co42] (fun k_ => some k_ ≠ (.slice Ao26 y117.length co26 : Value).ownBlock) (fun k_ => some k_ = (.slice Ao40 t125.length co40 : Value).ownBlock ∨ some k_ = (.slice Ao41 t128.length co41 : Value).ownBlock ∨ some k_ = (.slice Ao42 t131.length co42 : Value).ownBlock) rfl rfl ?aP (fun k_ hk_ => hk_.elim (fun h_ => ((Kd.R_mono (ok' := fun k_ => ((fun k_ => some k_ ≠ (.slice Ao26 y117.length co26 : Value).ownBlock)) k_ ∧ some k_ ≠ (u124002 : Value).ownBlock) (Kd.R_apart' (HO127.out) (Kd.S_typed HO_124002.out) (by decide)) (fun k_ hk => ⟨hk.1.2, hk.2⟩))).1 k_ h_.symm) (fun h_ => h_.elim (fun h_ => ((Kd.R_mono (ok' := fun k_ => ((fun k_ => some k_ ≠ (.slice Ao26 y117.length co26 : Value).ownBlock)) k_ ∧ some k_ ≠ (u124002 : Value).ownBlock) (Kd.R_apart' (HO130.out) (Kd.S_typed HO_124002.out) (by decide)) (fun k_ hk => ⟨hk.1.2, hk.2⟩))).1 k_ h_.symm) (fun h_ => ((Kd.R_mono (ok' := fun k_ => ((fun k_ => some k_ ≠ (.slice Ao26 y117.length co26 : Value).ownBlock)) k_ ∧ some k_ ≠ (u124002 : Value).ownBlock) (Kd.R_apart' (HO133.out) (Kd.S_typed HO_124002.out) (by decide)) (fun k_ hk => ⟨hk.1.2, hk.2⟩))).1 k_ h_.symm))) ?aF ?aO ?aB ?aS ?aL ?_
          (case aP => exact k_Group_mkM _ _ _ (⟨t124, t125, t128, t131⟩ : S_Group) (Kd.R_mono (Kd.R_tight rfl (Kd.R_mono (ok' := fun k_ => ((fun k_ => some k_ ≠ (.slice Ao26 y117.length co26 : Value).ownBlock)) k_ ∧ some k_ ≠ (u124002 : Value).ownBlock) (Kd.R_apart' (HO127.out) (Kd.S_typed HO_124002.out) (by decide)) (fun k_ hk => ⟨hk.1.2, hk.2⟩))) (fun _ h_ => Or.inl h_)) (Kd.R_mono (Kd.R_tight rfl (Kd.R_mono (ok' := fun k_ => ((fun k_ => some k_ ≠ (.slice Ao26 y117.length co26 : Value).ownBlock)) k_ ∧ some k_ ≠ (u124002 : Value).ownBlock) (Kd.R_apart' (HO130.out) (Kd.S_typed HO_124002.out) (by decide)) (fun k_ hk => ⟨hk.1.2, hk.2⟩))) (fun _ h_ => Or.inr (Or.inl h_))) (Kd.R_mono (Kd.R_tight rfl (Kd.R_mono (ok' := fun k_ => ((fun k_ => some k_ ≠ (.slice Ao26 y117.length co26 : Value).ownBlock)) k_ ∧ some k_ ≠ (u124002 : Value).ownBlock) (Kd.R_apart' (HO133.out) (Kd.S_typed HO_124002.out) (by decide)) (fun k_ hk => ⟨hk.1.2, hk.2⟩))) (fun _ h_ => Or.inr (Or.inr (h_)))) ⟨fun k_ h_ => by have q_ := HO127.out.1 k_ h_; first | exact q_ | exact q_.1 | exact q_.2 | exact q_.1.1 | exact q_.1.2 | exact q_.2.1 | exact q_.2.2 | exact q_.1.1.1 | exact q_.1.1.2 | exact q_.1.2.1 | exact q_.1.2.2, fun k_ h_ => by have q_ := HO127.out.1 k_ h_; first | exact q_ | exact q_.1 | exact q_.2 | exact q_.1.1 | exact q_.1.2 | exact q_.2.1 | exact q_.2.2 | exact q_.1.1.1 | exact q_.1.1.2 | exact q_.1.2.1 | exact q_.1.2.2, fun k_ h_ => by have q_ := HO130.out.1 k_ h_; first | exact q_ | exact q_.1 | exact q_.2 | exact q_.1.1 | exact q_.1.2 | exact q_.2.1 | exact q_.2.2 | exact q_.1.1.1 | exact q_.1.1.2 | exact q_.1.2.1 | exact q_.1.2.2⟩)
          (case aB => exact (hb_ HB.out))
          (case aF => exact (fun k_ hk => Kd.fresh' (Kd.R_lt (rq_ HO_124004.out)) k_ hk))
          (case aO => exact (by (with_reducible repeat (first | apply Kd.S_alloc | apply Kd.S_drewN | apply Kd.S_drew)); exact Kd.S_mono HO_124002.out (fun k_ hk => ⟨hk.1.1.1, fun e_ => e_.elim (fun h_ => hk.1.1.2 h_) (fun h_ => h_.elim (fun h_ => hk.1.2 h_) (fun h_ => hk.2 h_))⟩)))
          (case aS => exact (below_size (hb_ HB.out)))
          (case aL => have := LMc36.out; omega)
          intro v135 w39 ho hb hg hat
          rw [← Ny134.out] at ho
          have HO136 := Aside0.mk (ho)
          replace HO_124000 := Aside0.mk (Kd.S_over' (by (with_reducible repeat (first | apply Kd.S_alloc | apply Kd.S_drewN | apply Kd.S_drew)); exact HO_124000.out) (Kd.S_typed (qa11_)) (by decide) hg)
          replace HO_124004 := Aside0.mk (Kd.R_over' (rq_ HO_124004.out) (Kd.S_typed (qa11_)) (by decide) hg)
          replace HO_124005 := Aside0.mk (Kd.R_over' (rq_ HO_124005.out) (Kd.S_typed (qa11_)) (by decide) hg)
          replace BK111 := Aside0.mk (blk_grown (g := gb111) (o := .cells #[.int .i64 a0_0, .int .i64 a0_1, .int .i64 a0_2, .int .i64 a0_3] 82 (0, 0)) (bq_ BK111.out) hg (Kd.S_ne HO_124002.out BK111.out (by decide)))
          replace BK112 := Aside0.mk (blk_grown (g := gb112) (o := .cells #[.slice none 0 0, .slice none 0 0, .slice none 0 0, .int .i64 0, .slice none 0 0, .slice none 0 0] 80 (0, 0)) (bq_ BK112.out) hg (Kd.S_ne HO_124002.out BK112.out (by decide)))
          replace BK123 := Aside0.mk (blk_grown (g := gb123) (o := .cells #[.slice Ao27 y114.length co27, .slice none 0 0, u124002, .int .i64 0, .slice Ao26 y117.length co26, .slice Ao25 y120.length co25] 80 (0, 0)) (bq_ BK123.out) hg (Kd.S_ne HO_124002.out BK123.out (by decide)))
          replace HB := Aside0.mk (hb)
          clear HO_124002 HO127 HO130 HO133
          clear ho hb hg hat
          obtain ⟨Ao43, co43, eo43⟩ := Kd.S_slice HO136.out
          (first | subst eo43 | (injection eo43 with f1_ f2_ f3_; have f4_ := f1_.symm; have f5_ := f3_.symm; clear f1_ f2_ f3_; subst f4_; subst f5_))
          refine hK.out _ _ ⟨bc_ BK123 0, bc_ BK123 1, bc_ BK123 2, bc_ BK123 3, bc_ BK123 4, bc_ BK123 5, bc_ BK111 0, bc_ BK111 1, bc_ BK111 2, bc_ BK111 3⟩ (fun hHeld => ?_)
          clear hK K
          refine nm_ ?_
          refine pI_ 7 26 HT_ #[true, true, true, true, true, true, true, true, false] rfl rfl ?_
          refine last_ (i := 8) (N := none) #[true, true, true, true, true, true, true, true, true] rfl rfl (one_of HT_.out (by kernel_rfl)) (by decide) (fun K hK => ?_)
          have hs44 : w39.cell? ⟨gb123, 2, none⟩ = some (u124002) := bc_ BK123 2
          have hfs44 := blk_frozen BK123.out 2
          have hns44_0 := NB111_123.out
          have hns44_1 := NB112_123.out
          have hms44_0 := NB123_111.out
          have hms44_1 := NB123_112.out
          refine skip_ (w1 := ?_) (by rfl) rfl ?_ ?_
          rotate_left; (focus go_simp; rfl)
          refine hK.out _ _ ?_
          clear hK K
          refine done_ (done_of HT_.out (by kernel_rfl)) ?_
          try go_wp2
          go_roundg k1
          case measure => have := HK1.out; omega
          case rel => exact ⟨(wrap64 (x4_1 + 1)), (y134), (.slice Ao43 y134.length co43), (qa12_), H', ⟨by have := HK1.out; omega⟩, ⟨by (with_reducible repeat (first | apply Kd.S_alloc | apply Kd.S_drewN | apply Kd.S_drew)); exact Kd.S_mono (Kd.S_far (p := ⟨gb123, 2, none⟩) (Kd.S_types HO_124000.out BK123.out (by decide)) (fun _ hk => hk.2) (.slice Ao43 y134.length co43)) (fun _ hk => trivial)⟩, ⟨by (with_reducible repeat (first | apply Kd.S_alloc | apply Kd.S_drewN | apply Kd.S_drew)); exact Kd.S_mono (Kd.S_far (p := ⟨gb123, 2, none⟩) (Kd.S_types HO136.out BK123.out (by decide)) (fun _ hk => hk.2) (.slice Ao43 y134.length co43)) (fun _ hk => hk.1)⟩, ⟨by (with_reducible repeat (first | apply Kd.R_alloc | apply Kd.R_drewN | apply Kd.R_drew)); exact Kd.R_mono (Kd.R_far (p := ⟨gb123, 2, none⟩) (Kd.R_types HO_124004.out BK123.out (by decide)) (fun _ hk => hk.2) (.slice Ao43 y134.length co43)) (fun _ hk => trivial)⟩, ⟨by (with_reducible repeat (first | apply Kd.R_alloc | apply Kd.R_drewN | apply Kd.R_drew)); exact Kd.R_mono (Kd.R_far (p := ⟨gb123, 2, none⟩) (Kd.R_types HO_124005.out BK123.out (by decide)) (fun _ hk => hk.2) (.slice Ao43 y134.length co43)) (fun _ hk => trivial)⟩, ⟨bf_ NB111_123.out BK111.out⟩, ⟨bf_ NB112_123.out BK112.out⟩, ⟨bp_ BK123.out⟩, ⟨hb_ HB.out⟩⟩
         ·
          rw [if_neg c36] at H
          exact absurd H (by simp)
        ·
         rw [if_neg c34] at H
         have c34b0 : decide (x4_1 < 2) = false := decide_eq_false c34
         clear c34
         simp only [Option.some.injEq, Prod.mk.injEq] at H
         obtain ⟨rfl, rfl, rfl, rfl, rfl, rfl⟩ := H
         have hnb45 := NB123_111.out
         have hnc45 := NB111_123.out
         have hnb46 := NB123_112.out
         have hnc46 := NB112_123.out
         have hcz47_0 : wr.cell? ⟨gb123, 0, none⟩ = some (.slice Ao27 y114.length co27) := bc_ BK123 0
         have hcz47_1 : wr.cell? ⟨gb123, 1, none⟩ = some (.slice none 0 0) := bc_ BK123 1
         have hcz47_2 : wr.cell? ⟨gb123, 2, none⟩ = some (u124002) := bc_ BK123 2
         have hcz47_3 : wr.cell? ⟨gb123, 3, none⟩ = some (.int .i64 0) := bc_ BK123 3
         have hcz47_4 : wr.cell? ⟨gb123, 4, none⟩ = some (.slice Ao26 y117.length co26) := bc_ BK123 4
         have hcz47_5 : wr.cell? ⟨gb123, 5, none⟩ = some (.slice Ao25 y120.length co25) := bc_ BK123 5
         have hfz47_0 := blk_frozen BK123.out 0
         have hfz47_1 := blk_frozen BK123.out 1
         have hfz47_2 := blk_frozen BK123.out 2
         have hfz47_3 := blk_frozen BK123.out 3
         have hfz47_4 := blk_frozen BK123.out 4
         have hfz47_5 := blk_frozen BK123.out 5
         have hnb48 := NB112_111.out
         have hnc48 := NB111_112.out
         have hcz49_0 : wr.cell? ⟨gb112, 0, none⟩ = some (.slice none 0 0) := bc_ BK112 0
         have hcz49_1 : wr.cell? ⟨gb112, 1, none⟩ = some (.slice none 0 0) := bc_ BK112 1
         have hcz49_2 : wr.cell? ⟨gb112, 2, none⟩ = some (.slice none 0 0) := bc_ BK112 2
         have hcz49_3 : wr.cell? ⟨gb112, 3, none⟩ = some (.int .i64 0) := bc_ BK112 3
         have hcz49_4 : wr.cell? ⟨gb112, 4, none⟩ = some (.slice none 0 0) := bc_ BK112 4
         have hcz49_5 : wr.cell? ⟨gb112, 5, none⟩ = some (.slice none 0 0) := bc_ BK112 5
         have hfz49_0 := blk_frozen BK112.out 0
         have hfz49_1 := blk_frozen BK112.out 1
         have hfz49_2 := blk_frozen BK112.out 2
         have hfz49_3 := blk_frozen BK112.out 3
         have hfz49_4 := blk_frozen BK112.out 4
         have hfz49_5 := blk_frozen BK112.out 5
         obtain ⟨Ao50, co50, eo50⟩ := Kd.S_slice HO_124002.out
         subst eo50
         go_wp2
         refine bodyPost_ret (results_cell_row rfl _ _ gb112 80 #[.slice Ao27 y114.length co27, .slice none 0 0, .slice Ao50 x124002_1.length co50, .int .i64 0, .slice Ao26 y117.length co26, .slice Ao25 y120.length co25] (0, 0) _ rfl (bp_ BK112.out) Try.underlying80 rfl (by kernel_rfl)) rfl ?_
         exact ⟨_, _, _, _, _, er_, by (with_reducible repeat (first | apply Kd.S_alloc | apply Kd.S_drewN | apply Kd.S_drew)); exact Kd.S_mono (Kd.S_far (p := ⟨gb112, 5, none⟩) (Kd.S_far (p := ⟨gb112, 4, none⟩) (Kd.S_far (p := ⟨gb112, 3, none⟩) (Kd.S_far (p := ⟨gb112, 2, none⟩) (Kd.S_far (p := ⟨gb112, 1, none⟩) (Kd.S_far (p := ⟨gb112, 0, none⟩) (Kd.S_types HO_124000.out BK112.out (by decide)) (fun _ hk => hk.2) (.slice Ao27 y114.length co27)) (fun _ hk => hk.2) (.slice none 0 0)) (fun _ hk => hk.2) (.slice Ao50 x124002_1.length co50)) (fun _ hk => hk.2) (.int .i64 0)) (fun _ hk => hk.2) (.slice Ao26 y117.length co26)) (fun _ hk => hk.2) (.slice Ao25 y120.length co25)) (fun _ hk => trivial), qa7_, by (with_reducible repeat (first | apply Kd.S_alloc | apply Kd.S_drewN | apply Kd.S_drew)); exact Kd.S_mono (Kd.S_far (p := ⟨gb112, 5, none⟩) (Kd.S_far (p := ⟨gb112, 4, none⟩) (Kd.S_far (p := ⟨gb112, 3, none⟩) (Kd.S_far (p := ⟨gb112, 2, none⟩) (Kd.S_far (p := ⟨gb112, 1, none⟩) (Kd.S_far (p := ⟨gb112, 0, none⟩) (Kd.S_types HO_124002.out BK112.out (by decide)) (fun _ hk => hk.2) (.slice Ao27 y114.length co27)) (fun _ hk => hk.2) (.slice none 0 0)) (fun _ hk => hk.2) (.slice Ao50 x124002_1.length co50)) (fun _ hk => hk.2) (.int .i64 0)) (fun _ hk => hk.2) (.slice Ao26 y117.length co26)) (fun _ hk => hk.2) (.slice Ao25 y120.length co25)) (fun _ hk => hk.1), by (with_reducible repeat (first | apply Kd.R_alloc | apply Kd.R_drewN | apply Kd.R_drew)); exact Kd.R_mono (Kd.R_far (p := ⟨gb112, 5, none⟩) (Kd.R_far (p := ⟨gb112, 4, none⟩) (Kd.R_far (p := ⟨gb112, 3, none⟩) (Kd.R_far (p := ⟨gb112, 2, none⟩) (Kd.R_far (p := ⟨gb112, 1, none⟩) (Kd.R_far (p := ⟨gb112, 0, none⟩) (Kd.R_types HO_124004.out BK112.out (by decide)) (fun _ hk => hk.2) (.slice Ao27 y114.length co27)) (fun _ hk => hk.2) (.slice none 0 0)) (fun _ hk => hk.2) (.slice Ao50 x124002_1.length co50)) (fun _ hk => hk.2) (.int .i64 0)) (fun _ hk => hk.2) (.slice Ao26 y117.length co26)) (fun _ hk => hk.2) (.slice Ao25 y120.length co25)) (fun _ hk => trivial), by (with_reducible repeat (first | apply Kd.R_alloc | apply Kd.R_drewN | apply Kd.R_drew)); exact Kd.R_mono (Kd.R_far (p := ⟨gb112, 5, none⟩) (Kd.R_far (p := ⟨gb112, 4, none⟩) (Kd.R_far (p := ⟨gb112, 3, none⟩) (Kd.R_far (p := ⟨gb112, 2, none⟩) (Kd.R_far (p := ⟨gb112, 1, none⟩) (Kd.R_far (p := ⟨gb112, 0, none⟩) (Kd.R_types HO_124005.out BK112.out (by decide)) (fun _ hk => hk.2) (.slice Ao27 y114.length co27)) (fun _ hk => hk.2) (.slice none 0 0)) (fun _ hk => hk.2) (.slice Ao50 x124002_1.length co50)) (fun _ hk => hk.2) (.int .i64 0)) (fun _ hk => hk.2) (.slice Ao26 y117.length co26)) (fun _ hk => hk.2) (.slice Ao25 y120.length co25)) (fun _ hk => trivial), hb_ HB.out⟩
     ·
      rw [if_neg c7] at H
      exact absurd H (by simp)
    ·
     rw [if_neg c6] at H
     exact absurd H (by simp)
   ·
    rw [if_neg c5] at H
    exact absurd H (by simp)
  ·
   rw [if_neg c4] at H
   exact absurd H (by simp)
 ·
  replace c3 := Bool.eq_false_iff.mpr c3
  subst c3
  have H1 : (some (([] : List (S_Row)), ([] : List (S_Maker)), ([] : List (S_Group)), 0, ([] : List Int), ([] : List (S_Answer)))) = some (r1, r2, r3, r4, r5, r6) := by rw [if_neg (show ¬ (false = true) by decide)] at H; exact H
  clear H
  have H := H1
  clear H1
  simp only [Option.some.injEq, Prod.mk.injEq] at H
  obtain ⟨rfl, rfl, rfl, rfl, rfl, rfl⟩ := H
  go_enter Try.func44, Try.ntmps44
  go_wp2_with (first | ((with_reducible refine gate_dst (N := 1) rfl ?_); refine box_event ?hg (N := 1) ?hd (cs := #[.int .i64 a0_0, .int .i64 a0_1, .int .i64 a0_2, .int .i64 a0_3]) (t := 82) ?hr ?_; (case hd => rfl); (case hg => rfl); (case hr => first | (go_simp; done) | (go_simp; rfl)); intro gb111 hg w51 hbox hb; have BK111 := Aside0.mk (hbox); have GW111 := cz_ HB hg; have GE111 := cz_ HB hg; replace HB := ch_ HB hb; clear hb hbox hg) | ((with_reducible refine gate_dst (N := 2) rfl ?_); refine box_event ?hg (N := 2) ?hd (cs := #[.slice none 0 0, .slice none 0 0, .slice none 0 0, .int .i64 0, .slice none 0 0, .slice none 0 0]) (t := 80) ?hr ?_; (case hd => rfl); (case hg => rfl); (case hr => first | (go_simp; done) | (go_simp; rfl)); intro gb112 hg w52 hbox hb; have BK112 := Aside0.mk (hbox); have GW112 := cz_ HB hg; have GE112 := cz_ HB hg; have NB111_112 := cn_ BK111 hg; have NB112_111 := cm_ BK111 hg; replace BK111 := cb_ BK111 hb; replace HB := ch_ HB hb; clear hb hbox hg; have hnb53 := NB111_112.out; have hnc53 := NB112_111.out; have hcz54_0 : w52.cell? ⟨gb111, 0, none⟩ = some (.int .i64 a0_0) := bc_ BK111 0; have hcz54_1 : w52.cell? ⟨gb111, 1, none⟩ = some (.int .i64 a0_1) := bc_ BK111 1; have hcz54_2 : w52.cell? ⟨gb111, 2, none⟩ = some (.int .i64 a0_2) := bc_ BK111 2; have hcz54_3 : w52.cell? ⟨gb111, 3, none⟩ = some (.int .i64 a0_3) := bc_ BK111 3; have hfz54_0 := blk_frozen BK111.out 0; have hfz54_1 := blk_frozen BK111.out 1; have hfz54_2 := blk_frozen BK111.out 2; have hfz54_3 := blk_frozen BK111.out 3) | ((with_reducible refine gate_callee (f := 80) rfl ?_); refine goesL_ (some 6) rfl rfl Try.func80 (by kernel_rfl) rfl #[.agg #[.int .i64 a0_0, .int .i64 a0_1, .int .i64 a0_2, .int .i64 a0_3]] rfl sm_ ?_; (with_reducible refine (spec_SetupOk.calls a0_0 a0_1 a0_2 a0_3 false _ A2.out).mono ?_); rintro e w55 ⟨rfl, hb⟩; refine ⟨_, rfl, ?_⟩; replace BK111 := cb_ BK111 hb; replace BK112 := cb_ BK112 hb; replace HB := ch_ HB hb; (try clear hb); (try clear hb2); (try clear hk); (try clear hi); have hcz56_0 : w55.cell? ⟨gb112, 0, none⟩ = some (.slice none 0 0) := bc_ BK112 0; have hcz56_1 : w55.cell? ⟨gb112, 1, none⟩ = some (.slice none 0 0) := bc_ BK112 1; have hcz56_2 : w55.cell? ⟨gb112, 2, none⟩ = some (.slice none 0 0) := bc_ BK112 2; have hcz56_3 : w55.cell? ⟨gb112, 3, none⟩ = some (.int .i64 0) := bc_ BK112 3; have hcz56_4 : w55.cell? ⟨gb112, 4, none⟩ = some (.slice none 0 0) := bc_ BK112 4; have hcz56_5 : w55.cell? ⟨gb112, 5, none⟩ = some (.slice none 0 0) := bc_ BK112 5; have hfz56_0 := blk_frozen BK112.out 0; have hfz56_1 := blk_frozen BK112.out 1; have hfz56_2 := blk_frozen BK112.out 2; have hfz56_3 := blk_frozen BK112.out 3; have hfz56_4 := blk_frozen BK112.out 4; have hfz56_5 := blk_frozen BK112.out 5))
  refine bodyPost_ret (results_cell_row rfl _ _ gb112 80 #[.slice none 0 0, .slice none 0 0, .slice none 0 0, .int .i64 0, .slice none 0 0, .slice none 0 0] (0, 0) _ rfl (bp_ BK112.out) Try.underlying80 rfl (by kernel_rfl)) rfl ?_
  exact ⟨_, _, _, _, _, er_, qa7_, qa7_, qa7_, qa3_, qa3_, hb_ HB.out⟩
/-! ### laws_toSetup: function 45 -/
def laws_toSetup.f (a0_0 : Int) (a0_1 : Int) (a0_2 : Int) (a0_3 : Int) : Option (Int × Int × Int × Int) := some (a0_0, a0_1, a0_2, a0_3)
set_option maxHeartbeats 8000000 in
set_option maxRecDepth 100000 in
theorem laws_toSetup.calls (a0_0 : Int) (a0_1 : Int) (a0_2 : Int) (a0_3 : Int) (r1 : Int) (r2 : Int) (r3 : Int) (r4 : Int) (w : World) (h : laws_toSetup.f a0_0 a0_1 a0_2 a0_3 = some (r1, r2, r3, r4)) :
    Calls Try.prog 45 #[.agg #[.int .i64 a0_0, .int .i64 a0_1, .int .i64 a0_2, .int .i64 a0_3]] w fun e w' => e = .returned (.agg #[.int .i64 r1, .int .i64 r2, .int .i64 r3, .int .i64 r4]) ∧ Below w.heap.size w w' := by
  have hu74 := Try.underlying74
  have hu82 := Try.underlying82
  have HB := Aside0.mk (Below.refl w.heap.size w)
  have H : (some (a0_0, a0_1, a0_2, a0_3)) = some (r1, r2, r3, r4) := h
  clear h
  simp only [Option.some.injEq, Prod.mk.injEq] at H
  obtain ⟨rfl, rfl, rfl, rfl⟩ := H
  go_enter Try.func45, Try.ntmps45
  go_wp2_with (first | ((with_reducible refine gate_dst (N := 1) rfl ?_); refine box_event ?hg (N := 1) ?hd (cs := #[.int .i64 a0_0, .int .i64 a0_1, .int .i64 a0_2, .int .i64 a0_3]) (t := 74) ?hr ?_; (case hd => rfl); (case hg => rfl); (case hr => first | (go_simp; done) | (go_simp; rfl)); intro gb137 hg w2 hbox hb; have BK137 := Aside0.mk (hbox); have GW137 := Aside0.mk ((by rw [hg]; exact (below_size (qa2_)) : w.heap.size ≤ gb137)); have GE137 := Aside0.mk ((by rw [hg]; exact (below_size (qa2_)) : w.heap.size ≤ gb137)); replace HB := Aside0.mk (below_step (qa2_) hb); clear hb hbox hg) | ((with_reducible refine gate_dst (N := 2) rfl ?_); refine box_event ?hg (N := 2) ?hd (cs := #[.int .i64 0, .int .i64 0, .int .i64 0, .int .i64 0]) (t := 82) ?hr ?_; (case hd => rfl); (case hg => rfl); (case hr => first | (go_simp; done) | (go_simp; rfl)); intro gb138 hg w3 hbox hb; have BK138 := Aside0.mk (hbox); have GW138 := Aside0.mk ((by rw [hg]; exact (below_size (qa10_)) : w.heap.size ≤ gb138)); have GE138 := Aside0.mk ((by rw [hg]; exact (below_size (qa10_)) : w.heap.size ≤ gb138)); have NB137_138 := Aside0.mk ((by rw [hg]; exact Nat.ne_of_lt (blk_lt (g := gb137) (o := .cells #[.int .i64 a0_0, .int .i64 a0_1, .int .i64 a0_2, .int .i64 a0_3] 74 (0, 0)) (bq_ BK137.out)) : gb137 ≠ gb138)); have NB138_137 := Aside0.mk ((by rw [hg]; exact Nat.ne_of_gt (blk_lt (g := gb137) (o := .cells #[.int .i64 a0_0, .int .i64 a0_1, .int .i64 a0_2, .int .i64 a0_3] 74 (0, 0)) (bq_ BK137.out)) : gb138 ≠ gb137)); replace BK137 := Aside0.mk (blk_below (g := gb137) (o := .cells #[.int .i64 a0_0, .int .i64 a0_1, .int .i64 a0_2, .int .i64 a0_3] 74 (0, 0)) (bq_ BK137.out) hb); replace HB := Aside0.mk (below_step (qa10_) hb); clear hb hbox hg) | ((with_reducible refine gate_dst (N := 3) rfl ?_); refine box_event ?hg (N := 3) ?hd (cs := #[.int .i64 0, .int .i64 0, .int .i64 0, .int .i64 0]) (t := 82) ?hr ?_; (case hd => rfl); (case hg => rfl); (case hr => first | (go_simp; done) | (go_simp; rfl)); intro gb139 hg w4 hbox hb; have BK139 := Aside0.mk (hbox); have GW139 := Aside0.mk ((by rw [hg]; exact (below_size (qa9_)) : w.heap.size ≤ gb139)); have GE139 := Aside0.mk ((by rw [hg]; exact (below_size (qa9_)) : w.heap.size ≤ gb139)); have NB137_139 := Aside0.mk ((by rw [hg]; exact Nat.ne_of_lt (blk_lt (g := gb137) (o := .cells #[.int .i64 a0_0, .int .i64 a0_1, .int .i64 a0_2, .int .i64 a0_3] 74 (0, 0)) (bq_ BK137.out)) : gb137 ≠ gb139)); have NB139_137 := Aside0.mk ((by rw [hg]; exact Nat.ne_of_gt (blk_lt (g := gb137) (o := .cells #[.int .i64 a0_0, .int .i64 a0_1, .int .i64 a0_2, .int .i64 a0_3] 74 (0, 0)) (bq_ BK137.out)) : gb139 ≠ gb137)); have NB138_139 := Aside0.mk ((by rw [hg]; exact Nat.ne_of_lt (blk_lt (g := gb138) (o := .cells #[.int .i64 0, .int .i64 0, .int .i64 0, .int .i64 0] 82 (0, 0)) (bq_ BK138.out)) : gb138 ≠ gb139)); have NB139_138 := Aside0.mk ((by rw [hg]; exact Nat.ne_of_gt (blk_lt (g := gb138) (o := .cells #[.int .i64 0, .int .i64 0, .int .i64 0, .int .i64 0] 82 (0, 0)) (bq_ BK138.out)) : gb139 ≠ gb138)); replace BK137 := Aside0.mk (blk_below (g := gb137) (o := .cells #[.int .i64 a0_0, .int .i64 a0_1, .int .i64 a0_2, .int .i64 a0_3] 74 (0, 0)) (bq_ BK137.out) hb); replace BK138 := Aside0.mk (blk_below (g := gb138) (o := .cells #[.int .i64 0, .int .i64 0, .int .i64 0, .int .i64 0] 82 (0, 0)) (bq_ BK138.out) hb); replace HB := Aside0.mk (below_step (qa9_) hb); clear hb hbox hg; have hnb5 := NB137_138.out; have hnc5 := NB138_137.out; have hnb6 := NB137_139.out; have hnc6 := NB139_137.out; have hcz7_0 : w4.cell? ⟨gb137, 0, none⟩ = some (.int .i64 a0_0) := bc_ BK137 0; have hcz7_1 : w4.cell? ⟨gb137, 1, none⟩ = some (.int .i64 a0_1) := bc_ BK137 1; have hcz7_2 : w4.cell? ⟨gb137, 2, none⟩ = some (.int .i64 a0_2) := bc_ BK137 2; have hcz7_3 : w4.cell? ⟨gb137, 3, none⟩ = some (.int .i64 a0_3) := bc_ BK137 3; have hfz7_0 := blk_frozen BK137.out 0; have hfz7_1 := blk_frozen BK137.out 1; have hfz7_2 := blk_frozen BK137.out 2; have hfz7_3 := blk_frozen BK137.out 3; have hnb8 := NB139_138.out; have hnc8 := NB138_139.out; have hcz9_0 : w4.cell? ⟨gb139, 0, none⟩ = some (.int .i64 0) := bc_ BK139 0; have hcz9_1 : w4.cell? ⟨gb139, 1, none⟩ = some (.int .i64 0) := bc_ BK139 1; have hcz9_2 : w4.cell? ⟨gb139, 2, none⟩ = some (.int .i64 0) := bc_ BK139 2; have hcz9_3 : w4.cell? ⟨gb139, 3, none⟩ = some (.int .i64 0) := bc_ BK139 3; have hfz9_0 := blk_frozen BK139.out 0; have hfz9_1 := blk_frozen BK139.out 1; have hfz9_2 := blk_frozen BK139.out 2; have hfz9_3 := blk_frozen BK139.out 3; have hcz10_0 : w4.cell? ⟨gb138, 0, none⟩ = some (.int .i64 0) := bc_ BK138 0; have hcz10_1 : w4.cell? ⟨gb138, 1, none⟩ = some (.int .i64 0) := bc_ BK138 1; have hcz10_2 : w4.cell? ⟨gb138, 2, none⟩ = some (.int .i64 0) := bc_ BK138 2; have hcz10_3 : w4.cell? ⟨gb138, 3, none⟩ = some (.int .i64 0) := bc_ BK138 3; have hfz10_0 := blk_frozen BK138.out 0; have hfz10_1 := blk_frozen BK138.out 1; have hfz10_2 := blk_frozen BK138.out 2; have hfz10_3 := blk_frozen BK138.out 3))
  refine bodyPost_ret (results_cell_row rfl _ _ gb138 82 #[.int .i64 a0_0, .int .i64 a0_1, .int .i64 a0_2, .int .i64 a0_3] (0, 0) _ rfl (by_ BK138.out) Try.underlying82 rfl (by kernel_rfl)) rfl ?_
  exact ⟨qa6_, by repeat (first | (with_reducible first | exact HB.out | apply below_alloc | apply pw_below_drewN | apply below_drew1 | refine below_set ?_ GE137.out | refine below_set ?_ GE138.out | refine below_set ?_ GE139.out) | exact HB.out)⟩

/-! ### impl_within: function 58 -/
def impl_within.f (a0 : Int) (a1 : Int) (a2 : Int) : Option (Bool) := if a0 ≥ a1 then (some (decide (a0 ≤ a2))) else (some false)
set_option maxHeartbeats 8000000 in
set_option maxRecDepth 100000 in
theorem impl_within.calls (a0 : Int) (a1 : Int) (a2 : Int) (r : Bool) (w : World) (h : impl_within.f a0 a1 a2 = some r) :
    Calls Try.prog 58 #[.int .i64 a0, .int .i64 a1, .int .i64 a2] w fun e w' => e = .returned (.bool r) ∧ Drawn0 w w' := by
  have H : (if a0 ≥ a1 then (some (decide (a0 ≤ a2))) else (some false)) = some r := h
  clear h
  by_cases c4 : a0 ≥ a1
  · rw [if_pos c4] at H
    have c4b0 : decide (a1 ≤ a0) = true := decide_eq_true c4
    clear c4
    obtain rfl := Option.some.inj H
    go_enter Try.func58, Try.ntmps58
    go_wp2
    go_ret
    exact ⟨qa12_, qa13_⟩
  · rw [if_neg c4] at H
    have c4b0 : decide (a1 ≤ a0) = false := decide_eq_false c4
    clear c4
    obtain rfl := Option.some.inj H
    go_enter Try.func58, Try.ntmps58
    go_wp2
    go_ret
    exact ⟨qa12_, qa13_⟩

end Go.Proofs.Ythmjhhkheohgfaa.Q
