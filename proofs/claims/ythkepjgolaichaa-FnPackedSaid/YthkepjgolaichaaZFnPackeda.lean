/- Made by a program of ours out of the print of the loaded functions: for each of some functions a plain function, and the walk that shows that a call comes to what it says. No condition but those of each theorem. -/
import Derived.Test.YthkepjgolaichaaZFnPacked0
namespace Go.Proofs.Ythkepjgolaichaa.Q
open Go.RowKit Go.Proofs.YthkepjgolaichaaW.PrintWords Go.Proofs.YthkepjgolaichaaW.PrintLast Go.Proofs.YthkepjgolaichaaW.PrintMore
attribute [local go_sem] max2_int min2_int max_two min_two max_three min_three max_four min_four   -- for this text's walks alone
set_option linter.unusedVariables false
set_option linter.unusedSimpArgs false
theorem qa0_ {P : Prop} (h : P := by repeat (first | exact Drawn0.refl _ | apply Drawn0.step)) : P := h
theorem qa1_ {P : Prop} (h : P := by first | rfl | (simp; done) | (simp [*]; done)) : P := h
theorem qa2_ {P : Prop} (h : P := by repeat (first | (with_reducible first | exact HB.out | apply below_alloc | apply pw_below_drewN | apply below_drew1 | refine below_set ?_ GE431.out | refine below_set ?_ GE432.out) | exact HB.out)) : P := h
theorem qa3_ {P : Prop} (h : P := by repeat (first | (with_reducible first | exact HB.out | apply below_alloc | apply pw_below_drewN | apply below_drew1 | refine below_set ?_ GE431.out) | exact HB.out)) : P := h
theorem qa4_ {P : Prop} (h : P := by repeat (first | (with_reducible first | exact HB.out | apply below_alloc | apply pw_below_drewN | apply below_drew1) | exact HB.out)) : P := h
theorem qa5_ {P : Prop} (h : P := by first | rfl | (simp [errW_none, errW_some] <;> rfl) | (simp [*, errW_none, errW_some] <;> rfl)) : P := h

theorem hk_ {w W W' : World} {g : Nat} {row row' : Option Nat} (x : KeepBut w W g row) (h : KeepBut w W g row → KeepBut w W' g row' := by intro h_; repeat (first | (with_reducible first | exact h_ | apply KeepBut.set_ | apply keep_drewN | apply keep_drew | apply keep_alloc | refine keep_far ?_ (Aside0.out (by assumption)) _) | exact h_)) : KeepBut w W' g row' := h x
theorem nl_ {g b : Nat} {o : Obj} {W w : World} (x : W.heap[g]? = some o) (hg : b = w.heap.size) (h : W.heap[g]? = some o → w.heap[g]? = some o := by intro h_; (with_reducible repeat (first | refine blk_drewN ?_ _ | refine blk_drew ?_ | refine blk_alloc ?_ _)); exact h_) : g ≠ b := by rw [hg]; exact Nat.ne_of_lt (blk_lt (h x))
theorem ng_ {g b : Nat} {o : Obj} {W w : World} (x : W.heap[g]? = some o) (hg : b = w.heap.size) (h : W.heap[g]? = some o → w.heap[g]? = some o := by intro h_; (with_reducible repeat (first | refine blk_drewN ?_ _ | refine blk_drew ?_ | refine blk_alloc ?_ _)); exact h_) : b ≠ g := by rw [hg]; exact Nat.ne_of_gt (blk_lt (h x))
theorem er_ {q : Prop} (h : q := by first | rfl | (simp [errW_none, errW_some] <;> rfl) | (simp [*, errW_none, errW_some] <;> rfl)) : q := h
theorem eqA_Item (d : Nat) (w : World) (x0 y0 : Int) (x1 y1 : ByteArray) (x2 y2 : ByteArray) (x3 y3 : Int) (x4 y4 : Int) :
    (Op.equalIn (d + 2) 55 (.agg #[.int .i64 x0, .string x1, .string x2, .int .i64 x3, .int .i64 x4]) (.agg #[.int .i64 y0, .string y1, .string y2, .int .i64 y3, .int .i64 y4])).run Try.prog w = .ok (x0 == y0 && (x1.toList == y1.toList && (x2.toList == y2.toList && (x3 == y3 && (x4 == y4))))) w := by
  refine eqA_of Try.underlying55 (by kernel_rfl) ?_
  refine eqf_cons (by rfl) (by go_simp; rfl) (by go_simp; rfl) (by go_simp) ?_
  refine eqf_cons (by rfl) (by go_simp; rfl) (by go_simp; rfl) (by go_simp) ?_
  refine eqf_cons (by rfl) (by go_simp; rfl) (by go_simp; rfl) (by go_simp) ?_
  refine eqf_cons (by rfl) (by go_simp; rfl) (by go_simp; rfl) (by go_simp) ?_
  exact eqf_last (by rfl) (by go_simp; rfl) (by go_simp; rfl) (by go_simp)
/-! ### spec_l1In: function 58 -/
def spec_l1In.f (a0 : Int) (a1 : Int) (a2 : Int) : Option (Bool) := if a0 ≥ a1 then (some (decide (a0 ≤ a2))) else (some false)
set_option maxHeartbeats 8000000 in
set_option maxRecDepth 100000 in
theorem spec_l1In.calls (a0 : Int) (a1 : Int) (a2 : Int) (r : Bool) (w : World) (h : spec_l1In.f a0 a1 a2 = some r) :
    Calls Try.prog 58 #[.int .i64 a0, .int .i64 a1, .int .i64 a2] w fun e w' => e = .returned (.bool r) ∧ Drawn0 w w' := by
  have H : (if a0 ≥ a1 then (some (decide (a0 ≤ a2))) else (some false)) = some r := h
  clear h
  by_cases c4 : a0 ≥ a1
  · rw [if_pos c4] at H
    have c4b0 : decide (a1 ≤ a0) = true := decide_eq_true c4
    clear c4
    obtain rfl := Option.some.inj H
    go_enter Try.func58, Try.ntmps58
    go_wp2
    go_ret
    exact ⟨qa1_, qa0_⟩
  · rw [if_neg c4] at H
    have c4b0 : decide (a1 ≤ a0) = false := decide_eq_false c4
    clear c4
    obtain rfl := Option.some.inj H
    go_enter Try.func58, Try.ntmps58
    go_wp2
    go_ret
    exact ⟨qa1_, qa0_⟩

/-! ### spec_l2Text: function 60 -/
def spec_l2Text.l0 : Nat → ByteArray → Int → Option (Bool)
  | 0, _, _ => none
  | k + 1, x0, x3 => if x3 < (x0.size : Int) then (if 0 ≤ x3 then (if (bt x0 x3) ≥ 97 then (if (bt x0 x3) ≤ 122 then (spec_l2Text.l0 k x0 (wrap64 (x3 + 1))) else (if (bt x0 x3) ≥ 48 then (if (bt x0 x3) ≤ 57 then (spec_l2Text.l0 k x0 (wrap64 (x3 + 1))) else (if ((bt x0 x3) = 32) then (spec_l2Text.l0 k x0 (wrap64 (x3 + 1))) else (some false))) else (if ((bt x0 x3) = 32) then (spec_l2Text.l0 k x0 (wrap64 (x3 + 1))) else (some false)))) else (if (bt x0 x3) ≥ 48 then (if (bt x0 x3) ≤ 57 then (spec_l2Text.l0 k x0 (wrap64 (x3 + 1))) else (if ((bt x0 x3) = 32) then (spec_l2Text.l0 k x0 (wrap64 (x3 + 1))) else (some false))) else (if ((bt x0 x3) = 32) then (spec_l2Text.l0 k x0 (wrap64 (x3 + 1))) else (some false)))) else (none)) else (some (decide ((x0.size : Int) ≤ 30)))
def spec_l2Text.f (k : Nat) (a0 : ByteArray) : Option (Bool) := spec_l2Text.l0 k a0 0
theorem spec_l2Text.mono_l : ∀ k, (∀ y0 y1, LeO (spec_l2Text.l0 k y0 y1) (spec_l2Text.l0 (k + 1) y0 y1))
  | 0 => fun _ _ r h => by simp [spec_l2Text.l0] at h
  | k + 1 => by
    have ih0 := spec_l2Text.mono_l k
    · intro y0 y1
      unfold spec_l2Text.l0
      repeat' first
      | (with_reducible exact ih0 _ _)
      | (with_reducible exact LeO.refl _)
      | (with_reducible exact LeO.none _)
      | (with_reducible refine LeO.ite ?_ ?_)
      | (with_reducible refine LeO.bind ?_ (fun _ => ?_))
      | exact ih0 _ _
      | exact LeO.none _
      | refine LeO.ite ?_ ?_
      | refine LeO.bind ?_ (fun _ => ?_)
theorem spec_l2Text.mono : ∀ a0 k, LeO (spec_l2Text.f k a0) (spec_l2Text.f (k + 1) a0) := by
  intro a0 k
  have ih0 := spec_l2Text.mono_l k
  unfold spec_l2Text.f
  repeat' first
      | (with_reducible exact ih0 _ _)
      | (with_reducible exact LeO.refl _)
      | (with_reducible exact LeO.none _)
      | (with_reducible refine LeO.ite ?_ ?_)
      | (with_reducible refine LeO.bind ?_ (fun _ => ?_))
      | exact ih0 _ _
      | exact LeO.none _
      | refine LeO.ite ?_ ?_
      | refine LeO.bind ?_ (fun _ => ?_)
set_option maxHeartbeats 8000000 in
set_option maxRecDepth 100000 in
theorem spec_l2Text.calls (k : Nat) (a0 : ByteArray) (r : Bool) (w : World) (h : spec_l2Text.f k a0 = some r) :
    Calls Try.prog 60 #[.string a0] w fun e w' => e = .returned (.bool r) ∧ Drawn0 w w' := by
  have H : (spec_l2Text.l0 k a0 0) = some r := h
  clear h
  have H' := Aside0.mk H
  clear H
  go_enter Try.func60, Try.ntmps60
  go_wp2
  go_loopg [3] k (fun kq v3 w' => ∃ (x3_1 : Int), v3 = .int .i64 x3_1 ∧ Aside0 (spec_l2Text.l0 kq a0 x3_1 = some r) ∧ Aside0 (kq ≤ k) ∧ Drawn0 w w')
  case atStart => exact ⟨(0), (qa1_), H', ⟨Nat.le_refl _⟩, qa0_⟩
  case round =>
    clear H'
    obtain ⟨x3_1, rfl, HA, HK1, ⟨m1, rfl⟩⟩ := hrel
    cases gk with
    | zero => exact absurd HA.out (by simp [spec_l2Text.l0])
    | succ k1 =>
      have H := HA.out
      clear HA
      simp only [spec_l2Text.l0] at H
      by_cases c2 : x3_1 < (a0.size : Int)
      · rw [if_pos c2] at H
        have c2b0 : decide (x3_1 < (a0.size : Int)) = true := decide_eq_true c2
        clear c2
        by_cases c3 : 0 ≤ x3_1
        · rw [if_pos c3] at H
          have c3b0 : decide (0 ≤ x3_1) = true := decide_eq_true c3
          clear c3
          by_cases c5 : (bt a0 x3_1) ≥ 97
          · rw [if_pos c5] at H
            have c5b0 : decide (97 ≤ (bt a0 x3_1)) = true := decide_eq_true c5
            clear c5
            by_cases c6 : (bt a0 x3_1) ≤ 122
            · rw [if_pos c6] at H
              have c6b0 : decide ((bt a0 x3_1) ≤ 122) = true := decide_eq_true c6
              clear c6
              have H' := Aside0.mk H
              clear H
              have p4 : 0 ≤ (x3_1 : Int) := of_decide_eq_true dt_
              have q4 : x3_1 < (a0.size : Int) := of_decide_eq_true dt_
              have hx4 := bt_at a0 x3_1
              replace p4 := eq_true p4
              replace q4 := eq_true q4
              go_wp2
              go_roundg k1
              case measure => have := HK1.out; omega
              case rel => exact ⟨(wrap64 (x3_1 + 1)), (qa1_), H', ⟨by have := HK1.out; omega⟩, qa0_⟩
            · rw [if_neg c6] at H
              have c6b0 : decide ((bt a0 x3_1) ≤ 122) = false := decide_eq_false c6
              clear c6
              by_cases c7 : (bt a0 x3_1) ≥ 48
              · rw [if_pos c7] at H
                have c7b0 : decide (48 ≤ (bt a0 x3_1)) = true := decide_eq_true c7
                clear c7
                by_cases c8 : (bt a0 x3_1) ≤ 57
                · rw [if_pos c8] at H
                  have c8b0 : decide ((bt a0 x3_1) ≤ 57) = true := decide_eq_true c8
                  clear c8
                  have H' := Aside0.mk H
                  clear H
                  have p4 : 0 ≤ (x3_1 : Int) := of_decide_eq_true dt_
                  have q4 : x3_1 < (a0.size : Int) := of_decide_eq_true dt_
                  have hx4 := bt_at a0 x3_1
                  replace p4 := eq_true p4
                  replace q4 := eq_true q4
                  go_wp2
                  go_roundg k1
                  case measure => have := HK1.out; omega
                  case rel => exact ⟨(wrap64 (x3_1 + 1)), (qa1_), H', ⟨by have := HK1.out; omega⟩, qa0_⟩
                · rw [if_neg c8] at H
                  have c8b0 : decide ((bt a0 x3_1) ≤ 57) = false := decide_eq_false c8
                  clear c8
                  by_cases c9 : ((bt a0 x3_1) = 32)
                  · rw [if_pos c9] at H
                    have c9b0 : ((bt a0 x3_1) == 32) = true := beq_iff_eq.mpr c9
                    have c9b1 : ((bt a0 x3_1) != 32) = false := bne_eq_false_iff_eq.mpr c9
                    clear c9
                    have H' := Aside0.mk H
                    clear H
                    have p4 : 0 ≤ (x3_1 : Int) := of_decide_eq_true dt_
                    have q4 : x3_1 < (a0.size : Int) := of_decide_eq_true dt_
                    have hx4 := bt_at a0 x3_1
                    replace p4 := eq_true p4
                    replace q4 := eq_true q4
                    go_wp2
                    go_roundg k1
                    case measure => have := HK1.out; omega
                    case rel => exact ⟨(wrap64 (x3_1 + 1)), (qa1_), H', ⟨by have := HK1.out; omega⟩, qa0_⟩
                  · rw [if_neg c9] at H
                    have c9b0 : ((bt a0 x3_1) == 32) = false := beq_eq_false_iff_ne.mpr c9
                    have c9b1 : ((bt a0 x3_1) != 32) = true := bne_iff_ne.mpr c9
                    obtain rfl := Option.some.inj H
                    have p4 : 0 ≤ (x3_1 : Int) := of_decide_eq_true dt_
                    have q4 : x3_1 < (a0.size : Int) := of_decide_eq_true dt_
                    have hx4 := bt_at a0 x3_1
                    replace p4 := eq_true p4
                    replace q4 := eq_true q4
                    go_wp2
                    go_ret
                    exact ⟨qa1_, qa0_⟩
              · rw [if_neg c7] at H
                have c7b0 : decide (48 ≤ (bt a0 x3_1)) = false := decide_eq_false c7
                clear c7
                by_cases c10 : ((bt a0 x3_1) = 32)
                · rw [if_pos c10] at H
                  have c10b0 : ((bt a0 x3_1) == 32) = true := beq_iff_eq.mpr c10
                  have c10b1 : ((bt a0 x3_1) != 32) = false := bne_eq_false_iff_eq.mpr c10
                  clear c10
                  have H' := Aside0.mk H
                  clear H
                  have p4 : 0 ≤ (x3_1 : Int) := of_decide_eq_true dt_
                  have q4 : x3_1 < (a0.size : Int) := of_decide_eq_true dt_
                  have hx4 := bt_at a0 x3_1
                  replace p4 := eq_true p4
                  replace q4 := eq_true q4
                  go_wp2
                  go_roundg k1
                  case measure => have := HK1.out; omega
                  case rel => exact ⟨(wrap64 (x3_1 + 1)), (qa1_), H', ⟨by have := HK1.out; omega⟩, qa0_⟩
                · rw [if_neg c10] at H
                  have c10b0 : ((bt a0 x3_1) == 32) = false := beq_eq_false_iff_ne.mpr c10
                  have c10b1 : ((bt a0 x3_1) != 32) = true := bne_iff_ne.mpr c10
                  obtain rfl := Option.some.inj H
                  have p4 : 0 ≤ (x3_1 : Int) := of_decide_eq_true dt_
                  have q4 : x3_1 < (a0.size : Int) := of_decide_eq_true dt_
                  have hx4 := bt_at a0 x3_1
                  replace p4 := eq_true p4
                  replace q4 := eq_true q4
                  go_wp2
                  go_ret
                  exact ⟨qa1_, qa0_⟩
          · rw [if_neg c5] at H
            have c5b0 : decide (97 ≤ (bt a0 x3_1)) = false := decide_eq_false c5
            clear c5
            by_cases c11 : (bt a0 x3_1) ≥ 48
            · rw [if_pos c11] at H
              have c11b0 : decide (48 ≤ (bt a0 x3_1)) = true := decide_eq_true c11
              clear c11
              by_cases c12 : (bt a0 x3_1) ≤ 57
              · rw [if_pos c12] at H
                have c12b0 : decide ((bt a0 x3_1) ≤ 57) = true := decide_eq_true c12
                clear c12
                have H' := Aside0.mk H
                clear H
                have p4 : 0 ≤ (x3_1 : Int) := of_decide_eq_true dt_
                have q4 : x3_1 < (a0.size : Int) := of_decide_eq_true dt_
                have hx4 := bt_at a0 x3_1
                replace p4 := eq_true p4
                replace q4 := eq_true q4
                go_wp2
                go_roundg k1
                case measure => have := HK1.out; omega
                case rel => exact ⟨(wrap64 (x3_1 + 1)), (qa1_), H', ⟨by have := HK1.out; omega⟩, qa0_⟩
              · rw [if_neg c12] at H
                have c12b0 : decide ((bt a0 x3_1) ≤ 57) = false := decide_eq_false c12
                clear c12
                by_cases c13 : ((bt a0 x3_1) = 32)
                · rw [if_pos c13] at H
                  have c13b0 : ((bt a0 x3_1) == 32) = true := beq_iff_eq.mpr c13
                  have c13b1 : ((bt a0 x3_1) != 32) = false := bne_eq_false_iff_eq.mpr c13
                  clear c13
                  have H' := Aside0.mk H
                  clear H
                  have p4 : 0 ≤ (x3_1 : Int) := of_decide_eq_true dt_
                  have q4 : x3_1 < (a0.size : Int) := of_decide_eq_true dt_
                  have hx4 := bt_at a0 x3_1
                  replace p4 := eq_true p4
                  replace q4 := eq_true q4
                  go_wp2
                  go_roundg k1
                  case measure => have := HK1.out; omega
                  case rel => exact ⟨(wrap64 (x3_1 + 1)), (qa1_), H', ⟨by have := HK1.out; omega⟩, qa0_⟩
                · rw [if_neg c13] at H
                  have c13b0 : ((bt a0 x3_1) == 32) = false := beq_eq_false_iff_ne.mpr c13
                  have c13b1 : ((bt a0 x3_1) != 32) = true := bne_iff_ne.mpr c13
                  obtain rfl := Option.some.inj H
                  have p4 : 0 ≤ (x3_1 : Int) := of_decide_eq_true dt_
                  have q4 : x3_1 < (a0.size : Int) := of_decide_eq_true dt_
                  have hx4 := bt_at a0 x3_1
                  replace p4 := eq_true p4
                  replace q4 := eq_true q4
                  go_wp2
                  go_ret
                  exact ⟨qa1_, qa0_⟩
            · rw [if_neg c11] at H
              have c11b0 : decide (48 ≤ (bt a0 x3_1)) = false := decide_eq_false c11
              clear c11
              by_cases c14 : ((bt a0 x3_1) = 32)
              · rw [if_pos c14] at H
                have c14b0 : ((bt a0 x3_1) == 32) = true := beq_iff_eq.mpr c14
                have c14b1 : ((bt a0 x3_1) != 32) = false := bne_eq_false_iff_eq.mpr c14
                clear c14
                have H' := Aside0.mk H
                clear H
                have p4 : 0 ≤ (x3_1 : Int) := of_decide_eq_true dt_
                have q4 : x3_1 < (a0.size : Int) := of_decide_eq_true dt_
                have hx4 := bt_at a0 x3_1
                replace p4 := eq_true p4
                replace q4 := eq_true q4
                go_wp2
                go_roundg k1
                case measure => have := HK1.out; omega
                case rel => exact ⟨(wrap64 (x3_1 + 1)), (qa1_), H', ⟨by have := HK1.out; omega⟩, qa0_⟩
              · rw [if_neg c14] at H
                have c14b0 : ((bt a0 x3_1) == 32) = false := beq_eq_false_iff_ne.mpr c14
                have c14b1 : ((bt a0 x3_1) != 32) = true := bne_iff_ne.mpr c14
                obtain rfl := Option.some.inj H
                have p4 : 0 ≤ (x3_1 : Int) := of_decide_eq_true dt_
                have q4 : x3_1 < (a0.size : Int) := of_decide_eq_true dt_
                have hx4 := bt_at a0 x3_1
                replace p4 := eq_true p4
                replace q4 := eq_true q4
                go_wp2
                go_ret
                exact ⟨qa1_, qa0_⟩
        · rw [if_neg c3] at H
          exact absurd H (by simp)
      · rw [if_neg c2] at H
        have c2b0 : decide (x3_1 < (a0.size : Int)) = false := decide_eq_false c2
        clear c2
        obtain rfl := Option.some.inj H
        go_wp2
        go_ret
        exact ⟨qa1_, qa0_⟩

/-! ### impl_within: function 59 -/
def impl_within.f (a0 : Int) (a1 : Int) (a2 : Int) : Option (Bool) := if a0 ≥ a1 then (some (decide (a0 ≤ a2))) else (some false)
set_option maxHeartbeats 8000000 in
set_option maxRecDepth 100000 in
theorem impl_within.calls (a0 : Int) (a1 : Int) (a2 : Int) (r : Bool) (w : World) (h : impl_within.f a0 a1 a2 = some r) :
    Calls Try.prog 59 #[.int .i64 a0, .int .i64 a1, .int .i64 a2] w fun e w' => e = .returned (.bool r) ∧ Drawn0 w w' := by
  have H : (if a0 ≥ a1 then (some (decide (a0 ≤ a2))) else (some false)) = some r := h
  clear h
  by_cases c4 : a0 ≥ a1
  · rw [if_pos c4] at H
    have c4b0 : decide (a1 ≤ a0) = true := decide_eq_true c4
    clear c4
    obtain rfl := Option.some.inj H
    go_enter Try.func59, Try.ntmps59
    go_wp2
    go_ret
    exact ⟨qa1_, qa0_⟩
  · rw [if_neg c4] at H
    have c4b0 : decide (a1 ≤ a0) = false := decide_eq_false c4
    clear c4
    obtain rfl := Option.some.inj H
    go_enter Try.func59, Try.ntmps59
    go_wp2
    go_ret
    exact ⟨qa1_, qa0_⟩
/-! ### impl_wordsOk: function 61 -/
def impl_wordsOk.l0 : Nat → ByteArray → Int → Option (Bool)
  | 0, _, _ => none
  | k + 1, x0, x3 => if x3 < (x0.size : Int) then (if 0 ≤ x3 then (if (bt x0 x3) < 97 then (if (bt x0 x3) < 48 then (if (bt x0 x3) = 32 then (impl_wordsOk.l0 k x0 (wrap64 (x3 + 1))) else (some false)) else (if (bt x0 x3) > 57 then (if (bt x0 x3) = 32 then (impl_wordsOk.l0 k x0 (wrap64 (x3 + 1))) else (some false)) else (impl_wordsOk.l0 k x0 (wrap64 (x3 + 1))))) else (if (bt x0 x3) > 122 then (if (bt x0 x3) < 48 then (if (bt x0 x3) = 32 then (impl_wordsOk.l0 k x0 (wrap64 (x3 + 1))) else (some false)) else (if (bt x0 x3) > 57 then (if (bt x0 x3) = 32 then (impl_wordsOk.l0 k x0 (wrap64 (x3 + 1))) else (some false)) else (impl_wordsOk.l0 k x0 (wrap64 (x3 + 1))))) else (impl_wordsOk.l0 k x0 (wrap64 (x3 + 1))))) else (none)) else (some (decide ((x0.size : Int) ≤ 30)))
def impl_wordsOk.f (k : Nat) (a0 : ByteArray) : Option (Bool) := impl_wordsOk.l0 k a0 0
theorem impl_wordsOk.mono_l : ∀ k, (∀ y0 y1, LeO (impl_wordsOk.l0 k y0 y1) (impl_wordsOk.l0 (k + 1) y0 y1))
  | 0 => fun _ _ r h => by simp [impl_wordsOk.l0] at h
  | k + 1 => by
    have ih0 := impl_wordsOk.mono_l k
    · intro y0 y1
      unfold impl_wordsOk.l0
      repeat' first
      | (with_reducible exact ih0 _ _)
      | (with_reducible exact LeO.refl _)
      | (with_reducible exact LeO.none _)
      | (with_reducible refine LeO.ite ?_ ?_)
      | (with_reducible refine LeO.bind ?_ (fun _ => ?_))
      | exact ih0 _ _
      | exact LeO.none _
      | refine LeO.ite ?_ ?_
      | refine LeO.bind ?_ (fun _ => ?_)
theorem impl_wordsOk.mono : ∀ a0 k, LeO (impl_wordsOk.f k a0) (impl_wordsOk.f (k + 1) a0) := by
  intro a0 k
  have ih0 := impl_wordsOk.mono_l k
  unfold impl_wordsOk.f
  repeat' first
      | (with_reducible exact ih0 _ _)
      | (with_reducible exact LeO.refl _)
      | (with_reducible exact LeO.none _)
      | (with_reducible refine LeO.ite ?_ ?_)
      | (with_reducible refine LeO.bind ?_ (fun _ => ?_))
      | exact ih0 _ _
      | exact LeO.none _
      | refine LeO.ite ?_ ?_
      | refine LeO.bind ?_ (fun _ => ?_)
set_option maxHeartbeats 8000000 in
set_option maxRecDepth 100000 in
theorem impl_wordsOk.calls (k : Nat) (a0 : ByteArray) (r : Bool) (w : World) (h : impl_wordsOk.f k a0 = some r) :
    Calls Try.prog 61 #[.string a0] w fun e w' => e = .returned (.bool r) ∧ Drawn0 w w' := by
  have H : (impl_wordsOk.l0 k a0 0) = some r := h
  clear h
  have H' := Aside0.mk H
  clear H
  go_enter Try.func61, Try.ntmps61
  go_wp2
  go_loopg [3] k (fun kq v3 w' => ∃ (x3_1 : Int), v3 = .int .i64 x3_1 ∧ Aside0 (impl_wordsOk.l0 kq a0 x3_1 = some r) ∧ Aside0 (kq ≤ k) ∧ Drawn0 w w')
  case atStart => exact ⟨(0), (qa1_), H', ⟨Nat.le_refl _⟩, qa0_⟩
  case round =>
    clear H'
    obtain ⟨x3_1, rfl, HA, HK1, ⟨m1, rfl⟩⟩ := hrel
    cases gk with
    | zero => exact absurd HA.out (by simp [impl_wordsOk.l0])
    | succ k1 =>
      have H := HA.out
      clear HA
      simp only [impl_wordsOk.l0] at H
      by_cases c2 : x3_1 < (a0.size : Int)
      · rw [if_pos c2] at H
        have c2b0 : decide (x3_1 < (a0.size : Int)) = true := decide_eq_true c2
        clear c2
        by_cases c3 : 0 ≤ x3_1
        · rw [if_pos c3] at H
          have c3b0 : decide (0 ≤ x3_1) = true := decide_eq_true c3
          clear c3
          by_cases c5 : (bt a0 x3_1) < 97
          · rw [if_pos c5] at H
            have c5b0 : decide ((bt a0 x3_1) < 97) = true := decide_eq_true c5
            clear c5
            by_cases c6 : (bt a0 x3_1) < 48
            · rw [if_pos c6] at H
              have c6b0 : decide ((bt a0 x3_1) < 48) = true := decide_eq_true c6
              clear c6
              by_cases c7 : (bt a0 x3_1) = 32
              · rw [if_pos c7] at H
                have c7b0 : ((bt a0 x3_1) == 32) = true := beq_iff_eq.mpr c7
                have c7b1 : ((bt a0 x3_1) != 32) = false := bne_eq_false_iff_eq.mpr c7
                clear c7
                have H' := Aside0.mk H
                clear H
                have p4 : 0 ≤ (x3_1 : Int) := of_decide_eq_true dt_
                have q4 : x3_1 < (a0.size : Int) := of_decide_eq_true dt_
                have hx4 := bt_at a0 x3_1
                replace p4 := eq_true p4
                replace q4 := eq_true q4
                go_wp2
                go_roundg k1
                case measure => have := HK1.out; omega
                case rel => exact ⟨(wrap64 (x3_1 + 1)), (qa1_), H', ⟨by have := HK1.out; omega⟩, qa0_⟩
              · rw [if_neg c7] at H
                have c7b0 : ((bt a0 x3_1) == 32) = false := beq_eq_false_iff_ne.mpr c7
                have c7b1 : ((bt a0 x3_1) != 32) = true := bne_iff_ne.mpr c7
                obtain rfl := Option.some.inj H
                have p4 : 0 ≤ (x3_1 : Int) := of_decide_eq_true dt_
                have q4 : x3_1 < (a0.size : Int) := of_decide_eq_true dt_
                have hx4 := bt_at a0 x3_1
                replace p4 := eq_true p4
                replace q4 := eq_true q4
                go_wp2
                go_ret
                exact ⟨qa1_, qa0_⟩
            · rw [if_neg c6] at H
              have c6b0 : decide ((bt a0 x3_1) < 48) = false := decide_eq_false c6
              clear c6
              by_cases c8 : (bt a0 x3_1) > 57
              · rw [if_pos c8] at H
                have c8b0 : decide (57 < (bt a0 x3_1)) = true := decide_eq_true c8
                clear c8
                by_cases c9 : (bt a0 x3_1) = 32
                · rw [if_pos c9] at H
                  have c9b0 : ((bt a0 x3_1) == 32) = true := beq_iff_eq.mpr c9
                  have c9b1 : ((bt a0 x3_1) != 32) = false := bne_eq_false_iff_eq.mpr c9
                  clear c9
                  have H' := Aside0.mk H
                  clear H
                  have p4 : 0 ≤ (x3_1 : Int) := of_decide_eq_true dt_
                  have q4 : x3_1 < (a0.size : Int) := of_decide_eq_true dt_
                  have hx4 := bt_at a0 x3_1
                  replace p4 := eq_true p4
                  replace q4 := eq_true q4
                  go_wp2
                  go_roundg k1
                  case measure => have := HK1.out; omega
                  case rel => exact ⟨(wrap64 (x3_1 + 1)), (qa1_), H', ⟨by have := HK1.out; omega⟩, qa0_⟩
                · rw [if_neg c9] at H
                  have c9b0 : ((bt a0 x3_1) == 32) = false := beq_eq_false_iff_ne.mpr c9
                  have c9b1 : ((bt a0 x3_1) != 32) = true := bne_iff_ne.mpr c9
                  obtain rfl := Option.some.inj H
                  have p4 : 0 ≤ (x3_1 : Int) := of_decide_eq_true dt_
                  have q4 : x3_1 < (a0.size : Int) := of_decide_eq_true dt_
                  have hx4 := bt_at a0 x3_1
                  replace p4 := eq_true p4
                  replace q4 := eq_true q4
                  go_wp2
                  go_ret
                  exact ⟨qa1_, qa0_⟩
              · rw [if_neg c8] at H
                have c8b0 : decide (57 < (bt a0 x3_1)) = false := decide_eq_false c8
                clear c8
                have H' := Aside0.mk H
                clear H
                have p4 : 0 ≤ (x3_1 : Int) := of_decide_eq_true dt_
                have q4 : x3_1 < (a0.size : Int) := of_decide_eq_true dt_
                have hx4 := bt_at a0 x3_1
                replace p4 := eq_true p4
                replace q4 := eq_true q4
                go_wp2
                go_roundg k1
                case measure => have := HK1.out; omega
                case rel => exact ⟨(wrap64 (x3_1 + 1)), (qa1_), H', ⟨by have := HK1.out; omega⟩, qa0_⟩
          · rw [if_neg c5] at H
            have c5b0 : decide ((bt a0 x3_1) < 97) = false := decide_eq_false c5
            clear c5
            by_cases c10 : (bt a0 x3_1) > 122
            · rw [if_pos c10] at H
              have c10b0 : decide (122 < (bt a0 x3_1)) = true := decide_eq_true c10
              clear c10
              by_cases c11 : (bt a0 x3_1) < 48
              · rw [if_pos c11] at H
                have c11b0 : decide ((bt a0 x3_1) < 48) = true := decide_eq_true c11
                clear c11
                by_cases c12 : (bt a0 x3_1) = 32
                · rw [if_pos c12] at H
                  have c12b0 : ((bt a0 x3_1) == 32) = true := beq_iff_eq.mpr c12
                  have c12b1 : ((bt a0 x3_1) != 32) = false := bne_eq_false_iff_eq.mpr c12
                  clear c12
                  have H' := Aside0.mk H
                  clear H
                  have p4 : 0 ≤ (x3_1 : Int) := of_decide_eq_true dt_
                  have q4 : x3_1 < (a0.size : Int) := of_decide_eq_true dt_
                  have hx4 := bt_at a0 x3_1
                  replace p4 := eq_true p4
                  replace q4 := eq_true q4
                  go_wp2
                  go_roundg k1
                  case measure => have := HK1.out; omega
                  case rel => exact ⟨(wrap64 (x3_1 + 1)), (qa1_), H', ⟨by have := HK1.out; omega⟩, qa0_⟩
                · rw [if_neg c12] at H
                  have c12b0 : ((bt a0 x3_1) == 32) = false := beq_eq_false_iff_ne.mpr c12
                  have c12b1 : ((bt a0 x3_1) != 32) = true := bne_iff_ne.mpr c12
                  obtain rfl := Option.some.inj H
                  have p4 : 0 ≤ (x3_1 : Int) := of_decide_eq_true dt_
                  have q4 : x3_1 < (a0.size : Int) := of_decide_eq_true dt_
                  have hx4 := bt_at a0 x3_1
                  replace p4 := eq_true p4
                  replace q4 := eq_true q4
                  go_wp2
                  go_ret
                  exact ⟨qa1_, qa0_⟩
              · rw [if_neg c11] at H
                have c11b0 : decide ((bt a0 x3_1) < 48) = false := decide_eq_false c11
                clear c11
                by_cases c13 : (bt a0 x3_1) > 57
                · rw [if_pos c13] at H
                  have c13b0 : decide (57 < (bt a0 x3_1)) = true := decide_eq_true c13
                  clear c13
                  by_cases c14 : (bt a0 x3_1) = 32
                  · rw [if_pos c14] at H
                    have c14b0 : ((bt a0 x3_1) == 32) = true := beq_iff_eq.mpr c14
                    have c14b1 : ((bt a0 x3_1) != 32) = false := bne_eq_false_iff_eq.mpr c14
                    clear c14
                    have H' := Aside0.mk H
                    clear H
                    have p4 : 0 ≤ (x3_1 : Int) := of_decide_eq_true dt_
                    have q4 : x3_1 < (a0.size : Int) := of_decide_eq_true dt_
                    have hx4 := bt_at a0 x3_1
                    replace p4 := eq_true p4
                    replace q4 := eq_true q4
                    go_wp2
                    go_roundg k1
                    case measure => have := HK1.out; omega
                    case rel => exact ⟨(wrap64 (x3_1 + 1)), (qa1_), H', ⟨by have := HK1.out; omega⟩, qa0_⟩
                  · rw [if_neg c14] at H
                    have c14b0 : ((bt a0 x3_1) == 32) = false := beq_eq_false_iff_ne.mpr c14
                    have c14b1 : ((bt a0 x3_1) != 32) = true := bne_iff_ne.mpr c14
                    obtain rfl := Option.some.inj H
                    have p4 : 0 ≤ (x3_1 : Int) := of_decide_eq_true dt_
                    have q4 : x3_1 < (a0.size : Int) := of_decide_eq_true dt_
                    have hx4 := bt_at a0 x3_1
                    replace p4 := eq_true p4
                    replace q4 := eq_true q4
                    go_wp2
                    go_ret
                    exact ⟨qa1_, qa0_⟩
                · rw [if_neg c13] at H
                  have c13b0 : decide (57 < (bt a0 x3_1)) = false := decide_eq_false c13
                  clear c13
                  have H' := Aside0.mk H
                  clear H
                  have p4 : 0 ≤ (x3_1 : Int) := of_decide_eq_true dt_
                  have q4 : x3_1 < (a0.size : Int) := of_decide_eq_true dt_
                  have hx4 := bt_at a0 x3_1
                  replace p4 := eq_true p4
                  replace q4 := eq_true q4
                  go_wp2
                  go_roundg k1
                  case measure => have := HK1.out; omega
                  case rel => exact ⟨(wrap64 (x3_1 + 1)), (qa1_), H', ⟨by have := HK1.out; omega⟩, qa0_⟩
            · rw [if_neg c10] at H
              have c10b0 : decide (122 < (bt a0 x3_1)) = false := decide_eq_false c10
              clear c10
              have H' := Aside0.mk H
              clear H
              have p4 : 0 ≤ (x3_1 : Int) := of_decide_eq_true dt_
              have q4 : x3_1 < (a0.size : Int) := of_decide_eq_true dt_
              have hx4 := bt_at a0 x3_1
              replace p4 := eq_true p4
              replace q4 := eq_true q4
              go_wp2
              go_roundg k1
              case measure => have := HK1.out; omega
              case rel => exact ⟨(wrap64 (x3_1 + 1)), (qa1_), H', ⟨by have := HK1.out; omega⟩, qa0_⟩
        · rw [if_neg c3] at H
          exact absurd H (by simp)
      · rw [if_neg c2] at H
        have c2b0 : decide (x3_1 < (a0.size : Int)) = false := decide_eq_false c2
        clear c2
        obtain rfl := Option.some.inj H
        go_wp2
        go_ret
        exact ⟨qa1_, qa0_⟩

/-! ### laws_big: function 30 -/
def laws_big.f (l0 : List Int) : Option (Bool) := some (decide ((l0.length : Int) > 1048576))
set_option maxHeartbeats 8000000 in
set_option maxRecDepth 100000 in
theorem laws_big.calls (A0 : Option Addr) (c0 : Nat) (l0 : List Int) (r : Bool) (w : World) (hr0 : Kd.C (Kd.int .u8) w A0 l0.length l0) (hc0 : l0.length ≤ c0) (h : laws_big.f l0 = some r) :
    Calls Try.prog 30 #[.slice A0 l0.length c0] w fun e w' => e = .returned (.bool r) ∧ Drawn0 w w' := by
  have HR0 := Aside0.mk hr0
  have HC0 := Aside0.mk hc0
  clear hr0 hc0
  have H : (some (decide ((l0.length : Int) > 1048576))) = some r := h
  clear h
  obtain rfl := Option.some.inj H
  go_enter Try.func30, Try.ntmps30
  go_wp2
  go_ret
  exact ⟨qa1_, qa0_⟩
section
attribute [local go_sem high] eqA_Item
/-! ### laws_sameRow: function 33 -/
mutual
def laws_sameRow.j0 : Nat → Bool → Int → Int → List (S_Item) → Int → Int → List (S_Item) → Option (Bool)
  | 0, _, _, _, _, _, _, _ => none
  | k + 1, x26, x432000, x432001, x432002, x433000, x433001, x433002 => if x26 = true then (some false) else (laws_sameRow.l0 k 0 x432000 x432001 x432002 x433000 x433001 x433002)
def laws_sameRow.l0 : Nat → Int → Int → Int → List (S_Item) → Int → Int → List (S_Item) → Option (Bool)
  | 0, _, _, _, _, _, _, _ => none
  | k + 1, x5, x432000, x432001, x432002, x433000, x433001, x433002 => if x5 < (x432002.length : Int) then (if 0 ≤ x5 then (if x5 < (x433002.length : Int) then (if (!(((rd_Item x432002 x5).f0) == ((rd_Item x433002 x5).f0)) || (!((((rd_Item x432002 x5).f1).toList) == (((rd_Item x433002 x5).f1).toList)) || (!((((rd_Item x432002 x5).f2).toList) == (((rd_Item x433002 x5).f2).toList)) || (!(((rd_Item x432002 x5).f3) == ((rd_Item x433002 x5).f3)) || (!(((rd_Item x432002 x5).f4) == ((rd_Item x433002 x5).f4))))))) = true then (some false) else (laws_sameRow.l0 k (wrap64 (x5 + 1)) x432000 x432001 x432002 x433000 x433001 x433002)) else (none)) else (none)) else (some true)
end
def laws_sameRow.f (k : Nat) (a0_0 : Int) (a0_1 : Int) (l0_2 : List (S_Item)) (a1_0 : Int) (a1_1 : Int) (l1_2 : List (S_Item)) : Option (Bool) := if a0_0 = a1_0 then (if a0_1 = a1_1 then (laws_sameRow.j0 k ((l0_2.length : Int) != (l1_2.length : Int)) a0_0 a0_1 l0_2 a1_0 a1_1 l1_2) else (laws_sameRow.j0 k true a0_0 a0_1 l0_2 a1_0 a1_1 l1_2)) else (laws_sameRow.j0 k true a0_0 a0_1 l0_2 a1_0 a1_1 l1_2)
theorem laws_sameRow.mono_l : ∀ k, (∀ y0 y1 y2 y3 y4 y5 y6, LeO (laws_sameRow.j0 k y0 y1 y2 y3 y4 y5 y6) (laws_sameRow.j0 (k + 1) y0 y1 y2 y3 y4 y5 y6)) ∧ (∀ y0 y1 y2 y3 y4 y5 y6, LeO (laws_sameRow.l0 k y0 y1 y2 y3 y4 y5 y6) (laws_sameRow.l0 (k + 1) y0 y1 y2 y3 y4 y5 y6))
  | 0 => ⟨fun _ _ _ _ _ _ _ r h => by simp [laws_sameRow.j0] at h, fun _ _ _ _ _ _ _ r h => by simp [laws_sameRow.l0] at h⟩
  | k + 1 => by
    obtain ⟨ih0, ih1⟩ := laws_sameRow.mono_l k
    refine ⟨?_, ?_⟩
    · intro y0 y1 y2 y3 y4 y5 y6
      unfold laws_sameRow.j0
      repeat' first
      | (with_reducible exact ih0 _ _ _ _ _ _ _)
      | (with_reducible exact ih1 _ _ _ _ _ _ _)
      | (with_reducible exact LeO.refl _)
      | (with_reducible exact LeO.none _)
      | (with_reducible refine LeO.ite ?_ ?_)
      | (with_reducible refine LeO.bind ?_ (fun _ => ?_))
      | exact ih0 _ _ _ _ _ _ _
      | exact ih1 _ _ _ _ _ _ _
      | exact LeO.none _
      | refine LeO.ite ?_ ?_
      | refine LeO.bind ?_ (fun _ => ?_)
    · intro y0 y1 y2 y3 y4 y5 y6
      unfold laws_sameRow.l0
      repeat' first
      | (with_reducible exact ih0 _ _ _ _ _ _ _)
      | (with_reducible exact ih1 _ _ _ _ _ _ _)
      | (with_reducible exact LeO.refl _)
      | (with_reducible exact LeO.none _)
      | (with_reducible refine LeO.ite ?_ ?_)
      | (with_reducible refine LeO.bind ?_ (fun _ => ?_))
      | exact ih0 _ _ _ _ _ _ _
      | exact ih1 _ _ _ _ _ _ _
      | exact LeO.none _
      | refine LeO.ite ?_ ?_
      | refine LeO.bind ?_ (fun _ => ?_)
theorem laws_sameRow.mono : ∀ a0 a1 a2 a3 a4 a5 k, LeO (laws_sameRow.f k a0 a1 a2 a3 a4 a5) (laws_sameRow.f (k + 1) a0 a1 a2 a3 a4 a5) := by
  intro a0 a1 a2 a3 a4 a5 k
  obtain ⟨ih0, ih1⟩ := laws_sameRow.mono_l k
  unfold laws_sameRow.f
  repeat' first
      | (with_reducible exact ih0 _ _ _ _ _ _ _)
      | (with_reducible exact ih1 _ _ _ _ _ _ _)
      | (with_reducible exact LeO.refl _)
      | (with_reducible exact LeO.none _)
      | (with_reducible refine LeO.ite ?_ ?_)
      | (with_reducible refine LeO.bind ?_ (fun _ => ?_))
      | exact ih0 _ _ _ _ _ _ _
      | exact ih1 _ _ _ _ _ _ _
      | exact LeO.none _
      | refine LeO.ite ?_ ?_
      | refine LeO.bind ?_ (fun _ => ?_)
set_option maxHeartbeats 8000000 in
set_option maxRecDepth 100000 in
theorem laws_sameRow.calls (k : Nat) (a0_0 : Int) (a0_1 : Int) (A0_2 : Option Addr) (c0_2 : Nat) (l0_2 : List (S_Item)) (a1_0 : Int) (a1_1 : Int) (A1_2 : Option Addr) (c1_2 : Nat) (l1_2 : List (S_Item)) (r : Bool) (w : World) (hr0_2 : Kd.C k_Item w A0_2 l0_2.length l0_2) (hc0_2 : l0_2.length ≤ c0_2) (hr1_2 : Kd.C k_Item w A1_2 l1_2.length l1_2) (hc1_2 : l1_2.length ≤ c1_2) (h : laws_sameRow.f k a0_0 a0_1 l0_2 a1_0 a1_1 l1_2 = some r) :
    Calls Try.prog 33 #[.agg #[.int .i64 a0_0, .int .i64 a0_1, .slice A0_2 l0_2.length c0_2], .agg #[.int .i64 a1_0, .int .i64 a1_1, .slice A1_2 l1_2.length c1_2]] w fun e w' => e = .returned (.bool r) ∧ Below w.heap.size w w' := by
  have hu48 := Try.underlying48
  have hu55 := Try.underlying55
  have HR0_2 := Aside0.mk hr0_2
  have HC0_2 := Aside0.mk hc0_2
  clear hr0_2 hc0_2
  have HR1_2 := Aside0.mk hr1_2
  have HC1_2 := Aside0.mk hc1_2
  clear hr1_2 hc1_2
  have HB := Aside0.mk (Below.refl w.heap.size w)
  have H : (if a0_0 = a1_0 then (if a0_1 = a1_1 then (laws_sameRow.j0 k ((l0_2.length : Int) != (l1_2.length : Int)) a0_0 a0_1 l0_2 a1_0 a1_1 l1_2) else (laws_sameRow.j0 k true a0_0 a0_1 l0_2 a1_0 a1_1 l1_2)) else (laws_sameRow.j0 k true a0_0 a0_1 l0_2 a1_0 a1_1 l1_2)) = some r := h
  clear h
  have HC3 := Aside0.mk H
  clear H
  go_enter Try.func33, Try.ntmps33
  go_upto_region 1 with (first | (go_quiet (fail)) | ((with_reducible refine gate_dst (N := 2) rfl ?_); (try (refine gate_guard (by rfl) ?_; dsimp only)); refine box_event ?hg (N := 2) ?hd (cs := #[.int .i64 a0_0, .int .i64 a0_1, .slice A0_2 l0_2.length c0_2]) (t := 48) ?hr ?_; (case hd => rfl); (case hg => rfl); (case hr => first | (go_simp; done) | (go_simp; rfl)); intro gb431 hg w4 hbox hb; have n0_ := Aside0.mk (below_step (qa4_) hb); have n1_ := Aside0.mk (hbox); have n2_ := Aside0.mk ((by rw [hg]; exact (below_size (qa4_)) : w.heap.size ≤ gb431)); have n3_ := Aside0.mk ((by rw [hg]; exact (below_size (qa4_)) : w.heap.size ≤ gb431)); clear HB; have HB := n0_; have BK431 := n1_; have GW431 := n2_; have GE431 := n3_; clear n0_ n1_ n2_ n3_; clear hb hbox hg) | ((with_reducible refine gate_dst (N := 3) rfl ?_); (try (refine gate_guard (by rfl) ?_; dsimp only)); refine box_event ?hg (N := 3) ?hd (cs := #[.int .i64 a1_0, .int .i64 a1_1, .slice A1_2 l1_2.length c1_2]) (t := 48) ?hr ?_; (case hd => rfl); (case hg => rfl); (case hr => first | (go_simp; done) | (go_simp; rfl)); intro gb432 hg w5 hbox hb; have n0_ := Aside0.mk (blk_below (g := gb431) (o := .cells #[.int .i64 a0_0, .int .i64 a0_1, .slice A0_2 l0_2.length c0_2] 48 (0, 0)) (bq_ BK431.out) hb); have n1_ := Aside0.mk (below_step (qa3_) hb); have n2_ := Aside0.mk (hbox); have n3_ := Aside0.mk ((by rw [hg]; exact (below_size (qa3_)) : w.heap.size ≤ gb432)); have n4_ := Aside0.mk ((by rw [hg]; exact (below_size (qa3_)) : w.heap.size ≤ gb432)); have n5_ := Aside0.mk ((by rw [hg]; exact Nat.ne_of_lt (blk_lt (g := gb431) (o := .cells #[.int .i64 a0_0, .int .i64 a0_1, .slice A0_2 l0_2.length c0_2] 48 (0, 0)) (bq_ BK431.out)) : gb431 ≠ gb432)); have n6_ := Aside0.mk ((by rw [hg]; exact Nat.ne_of_gt (blk_lt (g := gb431) (o := .cells #[.int .i64 a0_0, .int .i64 a0_1, .slice A0_2 l0_2.length c0_2] 48 (0, 0)) (bq_ BK431.out)) : gb432 ≠ gb431)); clear BK431; clear HB; have BK431 := n0_; have HB := n1_; have BK432 := n2_; have GW432 := n3_; have GE432 := n4_; have NB431_432 := n5_; have NB432_431 := n6_; clear n0_ n1_ n2_ n3_ n4_ n5_ n6_; clear hb hbox hg))
  (try simp only [Act.put, List.setIfInBounds_toArray, List.set_cons_zero, List.set_cons_succ])
  go_cut [26] (fun v26 wc => ∃ (kq : Nat) (x26_2 : Bool), v26 = .bool x26_2 ∧ Aside0 (laws_sameRow.j0 kq x26_2 a0_0 a0_1 l0_2 a1_0 a1_1 l1_2 = some r) ∧ Aside0 (kq ≤ k) ∧ Aside0 (wc.heap[gb431]? = some (.cells #[.int .i64 a0_0, .int .i64 a0_1, (.slice A0_2 l0_2.length c0_2)] 48 (0, 0))) ∧ Aside0 (wc.heap[gb432]? = some (.cells #[.int .i64 a1_0, .int .i64 a1_1, (.slice A1_2 l1_2.length c1_2)] 48 (0, 0))) ∧ Aside0 (Below w.heap.size w wc))
  case first =>
    have H := HC3.out
    clear HC3
    by_cases c6 : a0_0 = a1_0
    · rw [if_pos c6] at H
      have c6b0 : (a0_0 == a1_0) = true := beq_iff_eq.mpr c6
      have c6b1 : (a0_0 != a1_0) = false := bne_eq_false_iff_eq.mpr c6
      clear c6
      (first | rw [c6b0] | (simp only [i64_w, i32_w]; rw [c6b0]) | rw [c6b4] | rw [c6b3] | skip)
      by_cases c7 : a0_1 = a1_1
      · rw [if_pos c7] at H
        have c7b0 : (a0_1 == a1_1) = true := beq_iff_eq.mpr c7
        have c7b1 : (a0_1 != a1_1) = false := bne_eq_false_iff_eq.mpr c7
        clear c7
        have H' := Aside0.mk H
        clear H
        have hnb8 := NB431_432.out
        have hnc8 := NB432_431.out
        have hcz9_0 : w5.cell? ⟨gb431, 0, none⟩ = some (.int .i64 a0_0) := bc_ BK431 0
        have hcz9_1 : w5.cell? ⟨gb431, 1, none⟩ = some (.int .i64 a0_1) := bc_ BK431 1
        have hcz9_2 : w5.cell? ⟨gb431, 2, none⟩ = some (.slice A0_2 l0_2.length c0_2) := bc_ BK431 2
        have hfz9_0 := blk_frozen BK431.out 0
        have hfz9_1 := blk_frozen BK431.out 1
        have hfz9_2 := blk_frozen BK431.out 2
        have hcz10_0 : w5.cell? ⟨gb432, 0, none⟩ = some (.int .i64 a1_0) := bc_ BK432 0
        have hcz10_1 : w5.cell? ⟨gb432, 1, none⟩ = some (.int .i64 a1_1) := bc_ BK432 1
        have hcz10_2 : w5.cell? ⟨gb432, 2, none⟩ = some (.slice A1_2 l1_2.length c1_2) := bc_ BK432 2
        have hfz10_0 := blk_frozen BK432.out 0
        have hfz10_1 := blk_frozen BK432.out 1
        have hfz10_2 := blk_frozen BK432.out 2
        go_wp2
        repeat (go_quiet (fail); try go_wp2)
        go_meet
        case rel => exact ⟨_, (((l0_2.length : Int) != (l1_2.length : Int))), (qa1_), H', ⟨by first | omega | exact Nat.le_refl _⟩, ⟨bq_ BK431.out⟩, ⟨bq_ BK432.out⟩, ⟨qa2_⟩⟩
      · rw [if_neg c7] at H
        have c7b0 : (a0_1 == a1_1) = false := beq_eq_false_iff_ne.mpr c7
        have c7b1 : (a0_1 != a1_1) = true := bne_iff_ne.mpr c7
        have H' := Aside0.mk H
        clear H
        have hnb11 := NB431_432.out
        have hnc11 := NB432_431.out
        have hcz12_0 : w5.cell? ⟨gb431, 0, none⟩ = some (.int .i64 a0_0) := bc_ BK431 0
        have hcz12_1 : w5.cell? ⟨gb431, 1, none⟩ = some (.int .i64 a0_1) := bc_ BK431 1
        have hcz12_2 : w5.cell? ⟨gb431, 2, none⟩ = some (.slice A0_2 l0_2.length c0_2) := bc_ BK431 2
        have hfz12_0 := blk_frozen BK431.out 0
        have hfz12_1 := blk_frozen BK431.out 1
        have hfz12_2 := blk_frozen BK431.out 2
        have hcz13_0 : w5.cell? ⟨gb432, 0, none⟩ = some (.int .i64 a1_0) := bc_ BK432 0
        have hcz13_1 : w5.cell? ⟨gb432, 1, none⟩ = some (.int .i64 a1_1) := bc_ BK432 1
        have hcz13_2 : w5.cell? ⟨gb432, 2, none⟩ = some (.slice A1_2 l1_2.length c1_2) := bc_ BK432 2
        have hfz13_0 := blk_frozen BK432.out 0
        have hfz13_1 := blk_frozen BK432.out 1
        have hfz13_2 := blk_frozen BK432.out 2
        go_wp2
        repeat (go_quiet (fail); try go_wp2)
        go_meet
        case rel => exact ⟨_, (true), (qa1_), H', ⟨by first | omega | exact Nat.le_refl _⟩, ⟨bq_ BK431.out⟩, ⟨bq_ BK432.out⟩, ⟨qa2_⟩⟩
    · rw [if_neg c6] at H
      have c6b0 : (a0_0 == a1_0) = false := beq_eq_false_iff_ne.mpr c6
      have c6b1 : (a0_0 != a1_0) = true := bne_iff_ne.mpr c6
      (first | rw [c6b0] | (simp only [i64_w, i32_w]; rw [c6b0]) | rw [c6b4] | rw [c6b3] | skip)
      have H' := Aside0.mk H
      clear H
      have hnb14 := NB431_432.out
      have hnc14 := NB432_431.out
      have hcz15_0 : w5.cell? ⟨gb431, 0, none⟩ = some (.int .i64 a0_0) := bc_ BK431 0
      have hcz15_1 : w5.cell? ⟨gb431, 1, none⟩ = some (.int .i64 a0_1) := bc_ BK431 1
      have hcz15_2 : w5.cell? ⟨gb431, 2, none⟩ = some (.slice A0_2 l0_2.length c0_2) := bc_ BK431 2
      have hfz15_0 := blk_frozen BK431.out 0
      have hfz15_1 := blk_frozen BK431.out 1
      have hfz15_2 := blk_frozen BK431.out 2
      have hcz16_0 : w5.cell? ⟨gb432, 0, none⟩ = some (.int .i64 a1_0) := bc_ BK432 0
      have hcz16_1 : w5.cell? ⟨gb432, 1, none⟩ = some (.int .i64 a1_1) := bc_ BK432 1
      have hcz16_2 : w5.cell? ⟨gb432, 2, none⟩ = some (.slice A1_2 l1_2.length c1_2) := bc_ BK432 2
      have hfz16_0 := blk_frozen BK432.out 0
      have hfz16_1 := blk_frozen BK432.out 1
      have hfz16_2 := blk_frozen BK432.out 2
      go_wp2
      repeat (go_quiet (fail); try go_wp2)
      go_meet
      case rel => exact ⟨_, (true), (qa1_), H', ⟨by first | omega | exact Nat.le_refl _⟩, ⟨bq_ BK431.out⟩, ⟨bq_ BK432.out⟩, ⟨qa2_⟩⟩
  case rest =>
    clear HC3
    try clear c1
    try clear p2
    try clear c3
    try clear c6
    try clear c6b0
    try clear c6b1
    try clear c7
    try clear c7b0
    try clear c7b1
    try clear c8
    try clear c11
    try clear c14
    try clear hcz10_0
    try clear hcz10_1
    try clear hcz10_2
    try clear hcz12_0
    try clear hcz12_1
    try clear hcz12_2
    try clear hcz13_0
    try clear hcz13_1
    try clear hcz13_2
    try clear hcz15_0
    try clear hcz15_1
    try clear hcz15_2
    try clear hcz16_0
    try clear hcz16_1
    try clear hcz16_2
    try clear hcz9_0
    try clear hcz9_1
    try clear hcz9_2
    try clear hfz10_0
    try clear hfz10_1
    try clear hfz10_2
    try clear hfz12_0
    try clear hfz12_1
    try clear hfz12_2
    try clear hfz13_0
    try clear hfz13_1
    try clear hfz13_2
    try clear hfz15_0
    try clear hfz15_1
    try clear hfz15_2
    try clear hfz16_0
    try clear hfz16_1
    try clear hfz16_2
    try clear hfz9_0
    try clear hfz9_1
    try clear hfz9_2
    obtain ⟨kq, x26_2, rfl, HA, HJ2, BK431, BK432, HB⟩ := hcut
    cases kq with
    | zero => exact absurd HA.out (by simp [laws_sameRow.j0])
    | succ kj2 =>
      have H := HA.out
      clear HA
      simp only [laws_sameRow.j0] at H
      by_cases c17 : x26_2 = true
      · subst c17
        have H1 : (some false) = some r := by rw [if_pos rfl] at H; exact H
        clear H
        have H := H1
        clear H1
        obtain rfl := Option.some.inj H
        go_wp2
        repeat (go_quiet (fail); try go_wp2)
        go_ret
        exact ⟨qa5_, qa2_⟩
      · replace c17 := Bool.eq_false_iff.mpr c17
        subst c17
        have H1 : (laws_sameRow.l0 kj2 0 a0_0 a0_1 l0_2 a1_0 a1_1 l1_2) = some r := by rw [if_neg (show ¬ (false = true) by decide)] at H; exact H
        clear H
        have H := H1
        clear H1
        have H' := Aside0.mk H
        clear H
        go_wp2
        repeat (go_quiet (fail); try go_wp2)
        go_loopg [5] kj2 (fun kq v5 w' => ∃ (x5_2 : Int), v5 = .int .i64 x5_2 ∧ Aside0 (laws_sameRow.l0 kq x5_2 a0_0 a0_1 l0_2 a1_0 a1_1 l1_2 = some r) ∧ Aside0 (kq ≤ kj2) ∧ Aside0 (w'.heap[gb431]? = some (.cells #[.int .i64 a0_0, .int .i64 a0_1, (.slice A0_2 l0_2.length c0_2)] 48 (0, 0))) ∧ Aside0 (w'.heap[gb432]? = some (.cells #[.int .i64 a1_0, .int .i64 a1_1, (.slice A1_2 l1_2.length c1_2)] 48 (0, 0))) ∧ Aside0 (Below w.heap.size w w'))
        case atStart => exact ⟨(0), (qa1_), H', ⟨Nat.le_refl _⟩, ⟨bq_ BK431.out⟩, ⟨bq_ BK432.out⟩, ⟨qa2_⟩⟩
        case round =>
          clear H'
          try clear c1
          try clear p2
          try clear c3
          try clear c6
          try clear c6b0
          try clear c6b1
          try clear c7
          try clear c7b0
          try clear c7b1
          try clear c8
          try clear c11
          try clear c14
          try clear c17
          try clear hcz10_0
          try clear hcz10_1
          try clear hcz10_2
          try clear hcz12_0
          try clear hcz12_1
          try clear hcz12_2
          try clear hcz13_0
          try clear hcz13_1
          try clear hcz13_2
          try clear hcz15_0
          try clear hcz15_1
          try clear hcz15_2
          try clear hcz16_0
          try clear hcz16_1
          try clear hcz16_2
          try clear hcz9_0
          try clear hcz9_1
          try clear hcz9_2
          try clear hfz10_0
          try clear hfz10_1
          try clear hfz10_2
          try clear hfz12_0
          try clear hfz12_1
          try clear hfz12_2
          try clear hfz13_0
          try clear hfz13_1
          try clear hfz13_2
          try clear hfz15_0
          try clear hfz15_1
          try clear hfz15_2
          try clear hfz16_0
          try clear hfz16_1
          try clear hfz16_2
          try clear hfz9_0
          try clear hfz9_1
          try clear hfz9_2
          try clear p2
          obtain ⟨x5_2, rfl, HA, HK2, BK431, BK432, HB⟩ := hrel
          cases gk with
          | zero => exact absurd HA.out (by simp [laws_sameRow.l0])
          | succ k2 =>
            have H := HA.out
            clear HA
            simp only [laws_sameRow.l0] at H
            by_cases c18 : x5_2 < (l0_2.length : Int)
            · rw [if_pos c18] at H
              have c18b0 : decide (x5_2 < (l0_2.length : Int)) = true := decide_eq_true c18
              clear c18
              by_cases c19 : 0 ≤ x5_2
              · rw [if_pos c19] at H
                have c19b0 : decide (0 ≤ x5_2) = true := decide_eq_true c19
                clear c19
                by_cases c20 : x5_2 < (l1_2.length : Int)
                · rw [if_pos c20] at H
                  have c20b0 : decide (x5_2 < (l1_2.length : Int)) = true := decide_eq_true c20
                  clear c20
                  by_cases c21 : (!(((rd_Item l0_2 x5_2).f0) == ((rd_Item l1_2 x5_2).f0)) || (!((((rd_Item l0_2 x5_2).f1).toList) == (((rd_Item l1_2 x5_2).f1).toList)) || (!((((rd_Item l0_2 x5_2).f2).toList) == (((rd_Item l1_2 x5_2).f2).toList)) || (!(((rd_Item l0_2 x5_2).f3) == ((rd_Item l1_2 x5_2).f3)) || (!(((rd_Item l0_2 x5_2).f4) == ((rd_Item l1_2 x5_2).f4))))))) = true
                  · rw [if_pos c21] at H
                    have c21b0 : (!(((rd_Item l0_2 x5_2).f0) == ((rd_Item l1_2 x5_2).f0)) || (!((((rd_Item l0_2 x5_2).f1).toList) == (((rd_Item l1_2 x5_2).f1).toList)) || (!((((rd_Item l0_2 x5_2).f2).toList) == (((rd_Item l1_2 x5_2).f2).toList)) || (!(((rd_Item l0_2 x5_2).f3) == ((rd_Item l1_2 x5_2).f3)) || (!(((rd_Item l0_2 x5_2).f4) == ((rd_Item l1_2 x5_2).f4))))))) = true := c21
                    clear c21
                    obtain rfl := Option.some.inj H
                    have hnb22 := NB431_432.out
                    have hnc22 := NB432_431.out
                    have hcz23_0 : wr.cell? ⟨gb431, 0, none⟩ = some (.int .i64 a0_0) := bc_ BK431 0
                    have hcz23_1 : wr.cell? ⟨gb431, 1, none⟩ = some (.int .i64 a0_1) := bc_ BK431 1
                    have hcz23_2 : wr.cell? ⟨gb431, 2, none⟩ = some (.slice A0_2 l0_2.length c0_2) := bc_ BK431 2
                    have hfz23_0 := blk_frozen BK431.out 0
                    have hfz23_1 := blk_frozen BK431.out 1
                    have hfz23_2 := blk_frozen BK431.out 2
                    have p433 : 0 ≤ (x5_2 : Int) := of_decide_eq_true dt_
                    have q433 : x5_2 < (l0_2.length : Int) := of_decide_eq_true dt_
                    obtain ⟨ad433, e433, hx433_0, hx433_1, hx433_2, hx433_3, hx433_4⟩ := at_Item HR0_2.out x5_2 p433 q433
                    cases e433
                    replace hx433_0 := hc_ HB hx433_0
                    replace hx433_1 := hc_ HB hx433_1
                    replace hx433_2 := hc_ HB hx433_2
                    replace hx433_3 := hc_ HB hx433_3
                    replace hx433_4 := hc_ HB hx433_4
                    replace p433 := eq_true p433
                    replace q433 := eq_true q433
                    have hcz24_0 : wr.cell? ⟨gb432, 0, none⟩ = some (.int .i64 a1_0) := bc_ BK432 0
                    have hcz24_1 : wr.cell? ⟨gb432, 1, none⟩ = some (.int .i64 a1_1) := bc_ BK432 1
                    have hcz24_2 : wr.cell? ⟨gb432, 2, none⟩ = some (.slice A1_2 l1_2.length c1_2) := bc_ BK432 2
                    have hfz24_0 := blk_frozen BK432.out 0
                    have hfz24_1 := blk_frozen BK432.out 1
                    have hfz24_2 := blk_frozen BK432.out 2
                    have p434 : 0 ≤ (x5_2 : Int) := of_decide_eq_true dt_
                    have q434 : x5_2 < (l1_2.length : Int) := of_decide_eq_true dt_
                    obtain ⟨ad434, e434, hx434_0, hx434_1, hx434_2, hx434_3, hx434_4⟩ := at_Item HR1_2.out x5_2 p434 q434
                    cases e434
                    replace hx434_0 := hc_ HB hx434_0
                    replace hx434_1 := hc_ HB hx434_1
                    replace hx434_2 := hc_ HB hx434_2
                    replace hx434_3 := hc_ HB hx434_3
                    replace hx434_4 := hc_ HB hx434_4
                    replace p434 := eq_true p434
                    replace q434 := eq_true q434
                    go_wp2
                    repeat (go_quiet (fail); try go_wp2)
                    go_ret
                    exact ⟨qa5_, qa2_⟩
                  · rw [if_neg c21] at H
                    have c21b0 : (!(((rd_Item l0_2 x5_2).f0) == ((rd_Item l1_2 x5_2).f0)) || (!((((rd_Item l0_2 x5_2).f1).toList) == (((rd_Item l1_2 x5_2).f1).toList)) || (!((((rd_Item l0_2 x5_2).f2).toList) == (((rd_Item l1_2 x5_2).f2).toList)) || (!(((rd_Item l0_2 x5_2).f3) == ((rd_Item l1_2 x5_2).f3)) || (!(((rd_Item l0_2 x5_2).f4) == ((rd_Item l1_2 x5_2).f4))))))) = false := by simpa using c21
                    clear c21
                    have H' := Aside0.mk H
                    clear H
                    have hnb25 := NB431_432.out
                    have hnc25 := NB432_431.out
                    have hcz26_0 : wr.cell? ⟨gb431, 0, none⟩ = some (.int .i64 a0_0) := bc_ BK431 0
                    have hcz26_1 : wr.cell? ⟨gb431, 1, none⟩ = some (.int .i64 a0_1) := bc_ BK431 1
                    have hcz26_2 : wr.cell? ⟨gb431, 2, none⟩ = some (.slice A0_2 l0_2.length c0_2) := bc_ BK431 2
                    have hfz26_0 := blk_frozen BK431.out 0
                    have hfz26_1 := blk_frozen BK431.out 1
                    have hfz26_2 := blk_frozen BK431.out 2
                    have p433 : 0 ≤ (x5_2 : Int) := of_decide_eq_true dt_
                    have q433 : x5_2 < (l0_2.length : Int) := of_decide_eq_true dt_
                    obtain ⟨ad433, e433, hx433_0, hx433_1, hx433_2, hx433_3, hx433_4⟩ := at_Item HR0_2.out x5_2 p433 q433
                    cases e433
                    replace hx433_0 := hc_ HB hx433_0
                    replace hx433_1 := hc_ HB hx433_1
                    replace hx433_2 := hc_ HB hx433_2
                    replace hx433_3 := hc_ HB hx433_3
                    replace hx433_4 := hc_ HB hx433_4
                    replace p433 := eq_true p433
                    replace q433 := eq_true q433
                    have hcz27_0 : wr.cell? ⟨gb432, 0, none⟩ = some (.int .i64 a1_0) := bc_ BK432 0
                    have hcz27_1 : wr.cell? ⟨gb432, 1, none⟩ = some (.int .i64 a1_1) := bc_ BK432 1
                    have hcz27_2 : wr.cell? ⟨gb432, 2, none⟩ = some (.slice A1_2 l1_2.length c1_2) := bc_ BK432 2
                    have hfz27_0 := blk_frozen BK432.out 0
                    have hfz27_1 := blk_frozen BK432.out 1
                    have hfz27_2 := blk_frozen BK432.out 2
                    have p434 : 0 ≤ (x5_2 : Int) := of_decide_eq_true dt_
                    have q434 : x5_2 < (l1_2.length : Int) := of_decide_eq_true dt_
                    obtain ⟨ad434, e434, hx434_0, hx434_1, hx434_2, hx434_3, hx434_4⟩ := at_Item HR1_2.out x5_2 p434 q434
                    cases e434
                    replace hx434_0 := hc_ HB hx434_0
                    replace hx434_1 := hc_ HB hx434_1
                    replace hx434_2 := hc_ HB hx434_2
                    replace hx434_3 := hc_ HB hx434_3
                    replace hx434_4 := hc_ HB hx434_4
                    replace p434 := eq_true p434
                    replace q434 := eq_true q434
                    go_wp2
                    repeat (go_quiet (fail); try go_wp2)
                    go_roundg k2
                    case measure => have := HJ2.out; have := HK2.out; omega
                    case rel => exact ⟨(wrap64 (x5_2 + 1)), (qa1_), H', ⟨by have := HJ2.out; have := HK2.out; omega⟩, ⟨bq_ BK431.out⟩, ⟨bq_ BK432.out⟩, ⟨qa2_⟩⟩
                · rw [if_neg c20] at H
                  exact absurd H (by simp)
              · rw [if_neg c19] at H
                exact absurd H (by simp)
            · rw [if_neg c18] at H
              have c18b0 : decide (x5_2 < (l0_2.length : Int)) = false := decide_eq_false c18
              clear c18
              obtain rfl := Option.some.inj H
              have hnb28 := NB431_432.out
              have hnc28 := NB432_431.out
              have hcz29_0 : wr.cell? ⟨gb431, 0, none⟩ = some (.int .i64 a0_0) := bc_ BK431 0
              have hcz29_1 : wr.cell? ⟨gb431, 1, none⟩ = some (.int .i64 a0_1) := bc_ BK431 1
              have hcz29_2 : wr.cell? ⟨gb431, 2, none⟩ = some (.slice A0_2 l0_2.length c0_2) := bc_ BK431 2
              have hfz29_0 := blk_frozen BK431.out 0
              have hfz29_1 := blk_frozen BK431.out 1
              have hfz29_2 := blk_frozen BK431.out 2
              go_wp2
              repeat (go_quiet (fail); try go_wp2)
              go_ret
              exact ⟨qa5_, qa2_⟩
end
end Go.Proofs.Ythkepjgolaichaa.Q
