/- Made by a program of ours out of the print of the loaded functions: for each of some functions a plain function, and the walk that shows that a call comes to what it says. No condition but those of each theorem. -/
import Derived.Test.YtiknkolclcdajaaZXRowPut0
namespace Go.Proofs.Ytiknkolclcdajaa.Q
open Go.RowKit Go.Proofs.YtiknkolclcdajaaW.PrintWords Go.Proofs.YtiknkolclcdajaaW.PrintLast Go.Proofs.YtiknkolclcdajaaW.PrintMore
attribute [local go_sem] max2_int min2_int max_two min_two max_three min_three max_four min_four   -- for this text's walks alone
set_option linter.unusedVariables false
set_option linter.unusedSimpArgs false

theorem hk_ {p q : Prop} (x : p) (h : p → q := by intro h_; repeat (first | (with_reducible first | exact h_ | apply KeepBut.set_ | apply keep_drewN | apply keep_drew | apply keep_alloc | refine keep_far ?_ (Aside0.out (by assumption)) _) | exact h_)) : q := h x
/-! ### impl_within: function 82 -/
def impl_within.f (a0 : Int) (a1 : Int) (a2 : Int) : Option (Bool) := if a0 ≥ a1 then (some (decide (a0 ≤ a2))) else (some false)
set_option maxHeartbeats 8000000 in
set_option maxRecDepth 100000 in
theorem impl_within.calls (a0 : Int) (a1 : Int) (a2 : Int) (r : Bool) (w : World) (h : impl_within.f a0 a1 a2 = some r) :
 Calls Try.prog 82 #[.int .i64 a0, .int .i64 a1, .int .i64 a2] w fun e w' => e = .returned (.bool r) ∧ Drawn0 w w' := by
 have H : (if a0 ≥ a1 then (some (decide (a0 ≤ a2))) else (some false)) = some r := h
 clear h
 by_cases c4 : a0 ≥ a1
 ·
  rw [if_pos c4] at H
  have c4b0 : decide (a1 ≤ a0) = true := decide_eq_true c4
  clear c4
  obtain rfl := Option.some.inj H
  go_enter Try.func82, Try.ntmps82
  go_wp2
  go_ret
  exact ⟨by first | rfl | (simp; done) | (simp [*]; done), by repeat (first | exact Drawn0.refl _ | apply Drawn0.step)⟩
 ·
  rw [if_neg c4] at H
  have c4b0 : decide (a1 ≤ a0) = false := decide_eq_false c4
  clear c4
  obtain rfl := Option.some.inj H
  go_enter Try.func82, Try.ntmps82
  go_wp2
  go_ret
  exact ⟨by first | rfl | (simp; done) | (simp [*]; done), by repeat (first | exact Drawn0.refl _ | apply Drawn0.step)⟩

/-! ### impl_wordsOk: function 106 -/
def impl_wordsOk.l0 : Nat → ByteArray → Int → Option (Bool)
 | 0, _, _ => none
 | k + 1, x0, x3 => if x3 < (x0.size : Int) then (if 0 ≤ x3 then (if (bt x0 x3) < 97 then (if (bt x0 x3) < 48 then (if (bt x0 x3) = 32 then (impl_wordsOk.l0 k x0 (wrap64 (x3 + 1))) else (some false)) else (if (bt x0 x3) > 57 then (if (bt x0 x3) = 32 then (impl_wordsOk.l0 k x0 (wrap64 (x3 + 1))) else (some false)) else (impl_wordsOk.l0 k x0 (wrap64 (x3 + 1))))) else (if (bt x0 x3) > 122 then (if (bt x0 x3) < 48 then (if (bt x0 x3) = 32 then (impl_wordsOk.l0 k x0 (wrap64 (x3 + 1))) else (some false)) else (if (bt x0 x3) > 57 then (if (bt x0 x3) = 32 then (impl_wordsOk.l0 k x0 (wrap64 (x3 + 1))) else (some false)) else (impl_wordsOk.l0 k x0 (wrap64 (x3 + 1))))) else (impl_wordsOk.l0 k x0 (wrap64 (x3 + 1))))) else (none)) else (some (decide ((x0.size : Int) ≤ 30)))
def impl_wordsOk.f (k : Nat) (a0 : ByteArray) : Option (Bool) := impl_wordsOk.l0 k a0 0
theorem impl_wordsOk.mono_l : ∀ k, (∀ y0 y1, LeO (impl_wordsOk.l0 k y0 y1) (impl_wordsOk.l0 (k + 1) y0 y1))
 | 0 => fun _ _ r h => by simp [impl_wordsOk.l0] at h
 | k + 1 => by
  have ih0 := impl_wordsOk.mono_l k
  ·
   intro y0 y1
   unfold impl_wordsOk.l0
   repeat' first
   | (with_reducible exact ih0 _ _)
   | (with_reducible exact LeO.refl _)
   | (with_reducible exact LeO.none _)
   | (with_reducible refine LeO.ite ?_ ?_)
   | (with_reducible refine LeO.bind ?_ (fun _ => ?_))
   | exact ih0 _ _
   | exact LeO.none _
   | refine LeO.ite ?_ ?_
   | refine LeO.bind ?_ (fun _ => ?_)
theorem impl_wordsOk.mono : ∀ a0 k, LeO (impl_wordsOk.f k a0) (impl_wordsOk.f (k + 1) a0) := by
 intro a0 k
 have ih0 := impl_wordsOk.mono_l k
 unfold impl_wordsOk.f
 repeat' first
  | (with_reducible exact ih0 _ _)
  | (with_reducible exact LeO.refl _)
  | (with_reducible exact LeO.none _)
  | (with_reducible refine LeO.ite ?_ ?_)
  | (with_reducible refine LeO.bind ?_ (fun _ => ?_))
  | exact ih0 _ _
  | exact LeO.none _
  | refine LeO.ite ?_ ?_
  | refine LeO.bind ?_ (fun _ => ?_)
set_option maxHeartbeats 8000000 in
set_option maxRecDepth 100000 in
theorem impl_wordsOk.calls (k : Nat) (a0 : ByteArray) (r : Bool) (w : World) (h : impl_wordsOk.f k a0 = some r) :
 Calls Try.prog 106 #[.string a0] w fun e w' => e = .returned (.bool r) ∧ Drawn0 w w' := by
 have H : (impl_wordsOk.l0 k a0 0) = some r := h
 clear h
 have H' := Aside0.mk H
 clear H
 go_enter Try.func106, Try.ntmps106
 go_wp2
 go_loopg [3] k (fun kq v3 w' => ∃ (x3_1 : Int), v3 = .int .i64 x3_1 ∧ Aside0 (impl_wordsOk.l0 kq a0 x3_1 = some r) ∧ Aside0 (kq ≤ k) ∧ Drawn0 w w')
 case atStart => exact ⟨(0), (by first | rfl | (simp; done) | (simp [*]; done)), H', ⟨Nat.le_refl _⟩, by repeat (first | exact Drawn0.refl _ | apply Drawn0.step)⟩
 case round =>
  clear H'
  try clear c1
  obtain ⟨x3_1, rfl, HA, HK1, ⟨m1, rfl⟩⟩ := hrel
  cases gk with
  | zero => exact absurd HA.out (by simp [impl_wordsOk.l0])
  | succ k1 =>
   have H := HA.out
   clear HA
   simp only [impl_wordsOk.l0] at H
   by_cases c2 : x3_1 < (a0.size : Int)
   ·
    rw [if_pos c2] at H
    have c2b0 : decide (x3_1 < (a0.size : Int)) = true := decide_eq_true c2
    clear c2
    by_cases c3 : 0 ≤ x3_1
    ·
     rw [if_pos c3] at H
     have c3b0 : decide (0 ≤ x3_1) = true := decide_eq_true c3
     clear c3
     by_cases c5 : (bt a0 x3_1) < 97
     ·
      rw [if_pos c5] at H
      have c5b0 : decide ((bt a0 x3_1) < 97) = true := decide_eq_true c5
      clear c5
      by_cases c6 : (bt a0 x3_1) < 48
      ·
       rw [if_pos c6] at H
       have c6b0 : decide ((bt a0 x3_1) < 48) = true := decide_eq_true c6
       clear c6
       by_cases c7 : (bt a0 x3_1) = 32
       ·
        rw [if_pos c7] at H
        have c7b0 : ((bt a0 x3_1) == 32) = true := beq_iff_eq.mpr c7
        have c7b1 : ((bt a0 x3_1) != 32) = false := bne_eq_false_iff_eq.mpr c7
        clear c7
        have H' := Aside0.mk H
        clear H
        have p4 : 0 ≤ (x3_1 : Int) := of_decide_eq_true (by first | (with_reducible assumption) | assumption)
        have q4 : x3_1 < (a0.size : Int) := of_decide_eq_true (by first | (with_reducible assumption) | assumption)
        have hx4 := bt_at a0 x3_1
        replace p4 := eq_true p4
        replace q4 := eq_true q4
        go_wp2
        go_roundg k1
        case measure => have := HK1.out; omega
        case rel => exact ⟨(wrap64 (x3_1 + 1)), (by first | rfl | (simp; done) | (simp [*]; done)), H', ⟨by have := HK1.out; omega⟩, by repeat (first | exact Drawn0.refl _ | apply Drawn0.step)⟩
       ·
        rw [if_neg c7] at H
        have c7b0 : ((bt a0 x3_1) == 32) = false := beq_eq_false_iff_ne.mpr c7
        have c7b1 : ((bt a0 x3_1) != 32) = true := bne_iff_ne.mpr c7
        obtain rfl := Option.some.inj H
        have p4 : 0 ≤ (x3_1 : Int) := of_decide_eq_true (by first | (with_reducible assumption) | assumption)
        have q4 : x3_1 < (a0.size : Int) := of_decide_eq_true (by first | (with_reducible assumption) | assumption)
        have hx4 := bt_at a0 x3_1
        replace p4 := eq_true p4
        replace q4 := eq_true q4
        go_wp2
        go_ret
        exact ⟨by first | rfl | (simp; done) | (simp [*]; done), by repeat (first | exact Drawn0.refl _ | apply Drawn0.step)⟩
      ·
       rw [if_neg c6] at H
       have c6b0 : decide ((bt a0 x3_1) < 48) = false := decide_eq_false c6
       clear c6
       by_cases c8 : (bt a0 x3_1) > 57
       ·
        rw [if_pos c8] at H
        have c8b0 : decide (57 < (bt a0 x3_1)) = true := decide_eq_true c8
        clear c8
        by_cases c9 : (bt a0 x3_1) = 32
        ·
         rw [if_pos c9] at H
         have c9b0 : ((bt a0 x3_1) == 32) = true := beq_iff_eq.mpr c9
         have c9b1 : ((bt a0 x3_1) != 32) = false := bne_eq_false_iff_eq.mpr c9
         clear c9
         have H' := Aside0.mk H
         clear H
         have p4 : 0 ≤ (x3_1 : Int) := of_decide_eq_true (by first | (with_reducible assumption) | assumption)
         have q4 : x3_1 < (a0.size : Int) := of_decide_eq_true (by first | (with_reducible assumption) | assumption)
         have hx4 := bt_at a0 x3_1
         replace p4 := eq_true p4
         replace q4 := eq_true q4
         go_wp2
         go_roundg k1
         case measure => have := HK1.out; omega
         case rel => exact ⟨(wrap64 (x3_1 + 1)), (by first | rfl | (simp; done) | (simp [*]; done)), H', ⟨by have := HK1.out; omega⟩, by repeat (first | exact Drawn0.refl _ | apply Drawn0.step)⟩
        ·
         rw [if_neg c9] at H
         have c9b0 : ((bt a0 x3_1) == 32) = false := beq_eq_false_iff_ne.mpr c9
         have c9b1 : ((bt a0 x3_1) != 32) = true := bne_iff_ne.mpr c9
         obtain rfl := Option.some.inj H
         have p4 : 0 ≤ (x3_1 : Int) := of_decide_eq_true (by first | (with_reducible assumption) | assumption)
         have q4 : x3_1 < (a0.size : Int) := of_decide_eq_true (by first | (with_reducible assumption) | assumption)
         have hx4 := bt_at a0 x3_1
         replace p4 := eq_true p4
         replace q4 := eq_true q4
         go_wp2
         go_ret
         exact ⟨by first | rfl | (simp; done) | (simp [*]; done), by repeat (first | exact Drawn0.refl _ | apply Drawn0.step)⟩
       ·
        rw [if_neg c8] at H
        have c8b0 : decide (57 < (bt a0 x3_1)) = false := decide_eq_false c8
        clear c8
        have H' := Aside0.mk H
        clear H
        have p4 : 0 ≤ (x3_1 : Int) := of_decide_eq_true (by first | (with_reducible assumption) | assumption)
        have q4 : x3_1 < (a0.size : Int) := of_decide_eq_true (by first | (with_reducible assumption) | assumption)
        have hx4 := bt_at a0 x3_1
        replace p4 := eq_true p4
        replace q4 := eq_true q4
        go_wp2
        go_roundg k1
        case measure => have := HK1.out; omega
        case rel => exact ⟨(wrap64 (x3_1 + 1)), (by first | rfl | (simp; done) | (simp [*]; done)), H', ⟨by have := HK1.out; omega⟩, by repeat (first | exact Drawn0.refl _ | apply Drawn0.step)⟩
     ·
      rw [if_neg c5] at H
      have c5b0 : decide ((bt a0 x3_1) < 97) = false := decide_eq_false c5
      clear c5
      by_cases c10 : (bt a0 x3_1) > 122
      ·
       rw [if_pos c10] at H
       have c10b0 : decide (122 < (bt a0 x3_1)) = true := decide_eq_true c10
       clear c10
       by_cases c11 : (bt a0 x3_1) < 48
       ·
        rw [if_pos c11] at H
        have c11b0 : decide ((bt a0 x3_1) < 48) = true := decide_eq_true c11
        clear c11
        by_cases c12 : (bt a0 x3_1) = 32
        ·
         rw [if_pos c12] at H
         have c12b0 : ((bt a0 x3_1) == 32) = true := beq_iff_eq.mpr c12
         have c12b1 : ((bt a0 x3_1) != 32) = false := bne_eq_false_iff_eq.mpr c12
         clear c12
         have H' := Aside0.mk H
         clear H
         have p4 : 0 ≤ (x3_1 : Int) := of_decide_eq_true (by first | (with_reducible assumption) | assumption)
         have q4 : x3_1 < (a0.size : Int) := of_decide_eq_true (by first | (with_reducible assumption) | assumption)
         have hx4 := bt_at a0 x3_1
         replace p4 := eq_true p4
         replace q4 := eq_true q4
         go_wp2
         go_roundg k1
         case measure => have := HK1.out; omega
         case rel => exact ⟨(wrap64 (x3_1 + 1)), (by first | rfl | (simp; done) | (simp [*]; done)), H', ⟨by have := HK1.out; omega⟩, by repeat (first | exact Drawn0.refl _ | apply Drawn0.step)⟩
        ·
         rw [if_neg c12] at H
         have c12b0 : ((bt a0 x3_1) == 32) = false := beq_eq_false_iff_ne.mpr c12
         have c12b1 : ((bt a0 x3_1) != 32) = true := bne_iff_ne.mpr c12
         obtain rfl := Option.some.inj H
         have p4 : 0 ≤ (x3_1 : Int) := of_decide_eq_true (by first | (with_reducible assumption) | assumption)
         have q4 : x3_1 < (a0.size : Int) := of_decide_eq_true (by first | (with_reducible assumption) | assumption)
         have hx4 := bt_at a0 x3_1
         replace p4 := eq_true p4
         replace q4 := eq_true q4
         go_wp2
         go_ret
         exact ⟨by first | rfl | (simp; done) | (simp [*]; done), by repeat (first | exact Drawn0.refl _ | apply Drawn0.step)⟩
       ·
        rw [if_neg c11] at H
        have c11b0 : decide ((bt a0 x3_1) < 48) = false := decide_eq_false c11
        clear c11
        by_cases c13 : (bt a0 x3_1) > 57
        ·
         rw [if_pos c13] at H
         have c13b0 : decide (57 < (bt a0 x3_1)) = true := decide_eq_true c13
         clear c13
         by_cases c14 : (bt a0 x3_1) = 32
         ·
          rw [if_pos c14] at H
          have c14b0 : ((bt a0 x3_1) == 32) = true := beq_iff_eq.mpr c14
          have c14b1 : ((bt a0 x3_1) != 32) = false := bne_eq_false_iff_eq.mpr c14
          clear c14
          have H' := Aside0.mk H
          clear H
          have p4 : 0 ≤ (x3_1 : Int) := of_decide_eq_true (by first | (with_reducible assumption) | assumption)
          have q4 : x3_1 < (a0.size : Int) := of_decide_eq_true (by first | (with_reducible assumption) | assumption)
          have hx4 := bt_at a0 x3_1
          replace p4 := eq_true p4
          replace q4 := eq_true q4
          go_wp2
          go_roundg k1
          case measure => have := HK1.out; omega
          case rel => exact ⟨(wrap64 (x3_1 + 1)), (by first | rfl | (simp; done) | (simp [*]; done)), H', ⟨by have := HK1.out; omega⟩, by repeat (first | exact Drawn0.refl _ | apply Drawn0.step)⟩
         ·
          rw [if_neg c14] at H
          have c14b0 : ((bt a0 x3_1) == 32) = false := beq_eq_false_iff_ne.mpr c14
          have c14b1 : ((bt a0 x3_1) != 32) = true := bne_iff_ne.mpr c14
          obtain rfl := Option.some.inj H
          have p4 : 0 ≤ (x3_1 : Int) := of_decide_eq_true (by first | (with_reducible assumption) | assumption)
          have q4 : x3_1 < (a0.size : Int) := of_decide_eq_true (by first | (with_reducible assumption) | assumption)
          have hx4 := bt_at a0 x3_1
          replace p4 := eq_true p4
          replace q4 := eq_true q4
          go_wp2
          go_ret
          exact ⟨by first | rfl | (simp; done) | (simp [*]; done), by repeat (first | exact Drawn0.refl _ | apply Drawn0.step)⟩
        ·
         rw [if_neg c13] at H
         have c13b0 : decide (57 < (bt a0 x3_1)) = false := decide_eq_false c13
         clear c13
         have H' := Aside0.mk H
         clear H
         have p4 : 0 ≤ (x3_1 : Int) := of_decide_eq_true (by first | (with_reducible assumption) | assumption)
         have q4 : x3_1 < (a0.size : Int) := of_decide_eq_true (by first | (with_reducible assumption) | assumption)
         have hx4 := bt_at a0 x3_1
         replace p4 := eq_true p4
         replace q4 := eq_true q4
         go_wp2
         go_roundg k1
         case measure => have := HK1.out; omega
         case rel => exact ⟨(wrap64 (x3_1 + 1)), (by first | rfl | (simp; done) | (simp [*]; done)), H', ⟨by have := HK1.out; omega⟩, by repeat (first | exact Drawn0.refl _ | apply Drawn0.step)⟩
      ·
       rw [if_neg c10] at H
       have c10b0 : decide (122 < (bt a0 x3_1)) = false := decide_eq_false c10
       clear c10
       have H' := Aside0.mk H
       clear H
       have p4 : 0 ≤ (x3_1 : Int) := of_decide_eq_true (by first | (with_reducible assumption) | assumption)
       have q4 : x3_1 < (a0.size : Int) := of_decide_eq_true (by first | (with_reducible assumption) | assumption)
       have hx4 := bt_at a0 x3_1
       replace p4 := eq_true p4
       replace q4 := eq_true q4
       go_wp2
       go_roundg k1
       case measure => have := HK1.out; omega
       case rel => exact ⟨(wrap64 (x3_1 + 1)), (by first | rfl | (simp; done) | (simp [*]; done)), H', ⟨by have := HK1.out; omega⟩, by repeat (first | exact Drawn0.refl _ | apply Drawn0.step)⟩
    ·
     rw [if_neg c3] at H
     exact absurd H (by simp)
   ·
    rw [if_neg c2] at H
    have c2b0 : decide (x3_1 < (a0.size : Int)) = false := decide_eq_false c2
    clear c2
    obtain rfl := Option.some.inj H
    go_wp2
    go_ret
    exact ⟨by first | rfl | (simp; done) | (simp [*]; done), by repeat (first | exact Drawn0.refl _ | apply Drawn0.step)⟩
/-! ### spec_l1In: function 84 -/
def spec_l1In.f (a0 : Int) (a1 : Int) (a2 : Int) : Option (Bool) := if a0 ≥ a1 then (some (decide (a0 ≤ a2))) else (some false)
set_option maxHeartbeats 8000000 in
set_option maxRecDepth 100000 in
theorem spec_l1In.calls (a0 : Int) (a1 : Int) (a2 : Int) (r : Bool) (w : World) (h : spec_l1In.f a0 a1 a2 = some r) :
 Calls Try.prog 84 #[.int .i64 a0, .int .i64 a1, .int .i64 a2] w fun e w' => e = .returned (.bool r) ∧ Drawn0 w w' := by
 have H : (if a0 ≥ a1 then (some (decide (a0 ≤ a2))) else (some false)) = some r := h
 clear h
 by_cases c4 : a0 ≥ a1
 ·
  rw [if_pos c4] at H
  have c4b0 : decide (a1 ≤ a0) = true := decide_eq_true c4
  clear c4
  obtain rfl := Option.some.inj H
  go_enter Try.func84, Try.ntmps84
  go_wp2
  go_ret
  exact ⟨by first | rfl | (simp; done) | (simp [*]; done), by repeat (first | exact Drawn0.refl _ | apply Drawn0.step)⟩
 ·
  rw [if_neg c4] at H
  have c4b0 : decide (a1 ≤ a0) = false := decide_eq_false c4
  clear c4
  obtain rfl := Option.some.inj H
  go_enter Try.func84, Try.ntmps84
  go_wp2
  go_ret
  exact ⟨by first | rfl | (simp; done) | (simp [*]; done), by repeat (first | exact Drawn0.refl _ | apply Drawn0.step)⟩

/-! ### spec_l2Text: function 155 -/
def spec_l2Text.l0 : Nat → ByteArray → Int → Option (Bool)
 | 0, _, _ => none
 | k + 1, x0, x3 => if x3 < (x0.size : Int) then (if 0 ≤ x3 then (if (bt x0 x3) ≥ 97 then (if (bt x0 x3) ≤ 122 then (spec_l2Text.l0 k x0 (wrap64 (x3 + 1))) else (if (bt x0 x3) ≥ 48 then (if (bt x0 x3) ≤ 57 then (spec_l2Text.l0 k x0 (wrap64 (x3 + 1))) else (if ((bt x0 x3) = 32) then (spec_l2Text.l0 k x0 (wrap64 (x3 + 1))) else (some false))) else (if ((bt x0 x3) = 32) then (spec_l2Text.l0 k x0 (wrap64 (x3 + 1))) else (some false)))) else (if (bt x0 x3) ≥ 48 then (if (bt x0 x3) ≤ 57 then (spec_l2Text.l0 k x0 (wrap64 (x3 + 1))) else (if ((bt x0 x3) = 32) then (spec_l2Text.l0 k x0 (wrap64 (x3 + 1))) else (some false))) else (if ((bt x0 x3) = 32) then (spec_l2Text.l0 k x0 (wrap64 (x3 + 1))) else (some false)))) else (none)) else (some (decide ((x0.size : Int) ≤ 30)))
def spec_l2Text.f (k : Nat) (a0 : ByteArray) : Option (Bool) := spec_l2Text.l0 k a0 0
theorem spec_l2Text.mono_l : ∀ k, (∀ y0 y1, LeO (spec_l2Text.l0 k y0 y1) (spec_l2Text.l0 (k + 1) y0 y1))
 | 0 => fun _ _ r h => by simp [spec_l2Text.l0] at h
 | k + 1 => by
  have ih0 := spec_l2Text.mono_l k
  ·
   intro y0 y1
   unfold spec_l2Text.l0
   repeat' first
   | (with_reducible exact ih0 _ _)
   | (with_reducible exact LeO.refl _)
   | (with_reducible exact LeO.none _)
   | (with_reducible refine LeO.ite ?_ ?_)
   | (with_reducible refine LeO.bind ?_ (fun _ => ?_))
   | exact ih0 _ _
   | exact LeO.none _
   | refine LeO.ite ?_ ?_
   | refine LeO.bind ?_ (fun _ => ?_)
theorem spec_l2Text.mono : ∀ a0 k, LeO (spec_l2Text.f k a0) (spec_l2Text.f (k + 1) a0) := by
 intro a0 k
 have ih0 := spec_l2Text.mono_l k
 unfold spec_l2Text.f
 repeat' first
  | (with_reducible exact ih0 _ _)
  | (with_reducible exact LeO.refl _)
  | (with_reducible exact LeO.none _)
  | (with_reducible refine LeO.ite ?_ ?_)
  | (with_reducible refine LeO.bind ?_ (fun _ => ?_))
  | exact ih0 _ _
  | exact LeO.none _
  | refine LeO.ite ?_ ?_
  | refine LeO.bind ?_ (fun _ => ?_)
set_option maxHeartbeats 8000000 in
set_option maxRecDepth 100000 in
theorem spec_l2Text.calls (k : Nat) (a0 : ByteArray) (r : Bool) (w : World) (h : spec_l2Text.f k a0 = some r) :
 Calls Try.prog 155 #[.string a0] w fun e w' => e = .returned (.bool r) ∧ Drawn0 w w' := by
 have H : (spec_l2Text.l0 k a0 0) = some r := h
 clear h
 have H' := Aside0.mk H
 clear H
 go_enter Try.func155, Try.ntmps155
 go_wp2
 go_loopg [3] k (fun kq v3 w' => ∃ (x3_1 : Int), v3 = .int .i64 x3_1 ∧ Aside0 (spec_l2Text.l0 kq a0 x3_1 = some r) ∧ Aside0 (kq ≤ k) ∧ Drawn0 w w')
 case atStart => exact ⟨(0), (by first | rfl | (simp; done) | (simp [*]; done)), H', ⟨Nat.le_refl _⟩, by repeat (first | exact Drawn0.refl _ | apply Drawn0.step)⟩
 case round =>
  clear H'
  try clear c1
  obtain ⟨x3_1, rfl, HA, HK1, ⟨m1, rfl⟩⟩ := hrel
  cases gk with
  | zero => exact absurd HA.out (by simp [spec_l2Text.l0])
  | succ k1 =>
   have H := HA.out
   clear HA
   simp only [spec_l2Text.l0] at H
   by_cases c2 : x3_1 < (a0.size : Int)
   ·
    rw [if_pos c2] at H
    have c2b0 : decide (x3_1 < (a0.size : Int)) = true := decide_eq_true c2
    clear c2
    by_cases c3 : 0 ≤ x3_1
    ·
     rw [if_pos c3] at H
     have c3b0 : decide (0 ≤ x3_1) = true := decide_eq_true c3
     clear c3
     by_cases c5 : (bt a0 x3_1) ≥ 97
     ·
      rw [if_pos c5] at H
      have c5b0 : decide (97 ≤ (bt a0 x3_1)) = true := decide_eq_true c5
      clear c5
      by_cases c6 : (bt a0 x3_1) ≤ 122
      ·
       rw [if_pos c6] at H
       have c6b0 : decide ((bt a0 x3_1) ≤ 122) = true := decide_eq_true c6
       clear c6
       have H' := Aside0.mk H
       clear H
       have p4 : 0 ≤ (x3_1 : Int) := of_decide_eq_true (by first | (with_reducible assumption) | assumption)
       have q4 : x3_1 < (a0.size : Int) := of_decide_eq_true (by first | (with_reducible assumption) | assumption)
       have hx4 := bt_at a0 x3_1
       replace p4 := eq_true p4
       replace q4 := eq_true q4
       go_wp2
       go_roundg k1
       case measure => have := HK1.out; omega
       case rel => exact ⟨(wrap64 (x3_1 + 1)), (by first | rfl | (simp; done) | (simp [*]; done)), H', ⟨by have := HK1.out; omega⟩, by repeat (first | exact Drawn0.refl _ | apply Drawn0.step)⟩
      ·
       rw [if_neg c6] at H
       have c6b0 : decide ((bt a0 x3_1) ≤ 122) = false := decide_eq_false c6
       clear c6
       by_cases c7 : (bt a0 x3_1) ≥ 48
       ·
        rw [if_pos c7] at H
        have c7b0 : decide (48 ≤ (bt a0 x3_1)) = true := decide_eq_true c7
        clear c7
        by_cases c8 : (bt a0 x3_1) ≤ 57
        ·
         rw [if_pos c8] at H
         have c8b0 : decide ((bt a0 x3_1) ≤ 57) = true := decide_eq_true c8
         clear c8
         have H' := Aside0.mk H
         clear H
         have p4 : 0 ≤ (x3_1 : Int) := of_decide_eq_true (by first | (with_reducible assumption) | assumption)
         have q4 : x3_1 < (a0.size : Int) := of_decide_eq_true (by first | (with_reducible assumption) | assumption)
         have hx4 := bt_at a0 x3_1
         replace p4 := eq_true p4
         replace q4 := eq_true q4
         go_wp2
         go_roundg k1
         case measure => have := HK1.out; omega
         case rel => exact ⟨(wrap64 (x3_1 + 1)), (by first | rfl | (simp; done) | (simp [*]; done)), H', ⟨by have := HK1.out; omega⟩, by repeat (first | exact Drawn0.refl _ | apply Drawn0.step)⟩
        ·
         rw [if_neg c8] at H
         have c8b0 : decide ((bt a0 x3_1) ≤ 57) = false := decide_eq_false c8
         clear c8
         by_cases c9 : ((bt a0 x3_1) = 32)
         ·
          rw [if_pos c9] at H
          have c9b0 : ((bt a0 x3_1) == 32) = true := beq_iff_eq.mpr c9
          have c9b1 : ((bt a0 x3_1) != 32) = false := bne_eq_false_iff_eq.mpr c9
          clear c9
          have H' := Aside0.mk H
          clear H
          have p4 : 0 ≤ (x3_1 : Int) := of_decide_eq_true (by first | (with_reducible assumption) | assumption)
          have q4 : x3_1 < (a0.size : Int) := of_decide_eq_true (by first | (with_reducible assumption) | assumption)
          have hx4 := bt_at a0 x3_1
          replace p4 := eq_true p4
          replace q4 := eq_true q4
          go_wp2
          go_roundg k1
          case measure => have := HK1.out; omega
          case rel => exact ⟨(wrap64 (x3_1 + 1)), (by first | rfl | (simp; done) | (simp [*]; done)), H', ⟨by have := HK1.out; omega⟩, by repeat (first | exact Drawn0.refl _ | apply Drawn0.step)⟩
         ·
          rw [if_neg c9] at H
          have c9b0 : ((bt a0 x3_1) == 32) = false := beq_eq_false_iff_ne.mpr c9
          have c9b1 : ((bt a0 x3_1) != 32) = true := bne_iff_ne.mpr c9
          obtain rfl := Option.some.inj H
          have p4 : 0 ≤ (x3_1 : Int) := of_decide_eq_true (by first | (with_reducible assumption) | assumption)
          have q4 : x3_1 < (a0.size : Int) := of_decide_eq_true (by first | (with_reducible assumption) | assumption)
          have hx4 := bt_at a0 x3_1
          replace p4 := eq_true p4
          replace q4 := eq_true q4
          go_wp2
          go_ret
          exact ⟨by first | rfl | (simp; done) | (simp [*]; done), by repeat (first | exact Drawn0.refl _ | apply Drawn0.step)⟩
       ·
        rw [if_neg c7] at H
        have c7b0 : decide (48 ≤ (bt a0 x3_1)) = false := decide_eq_false c7
        clear c7
        by_cases c10 : ((bt a0 x3_1) = 32)
        ·
         rw [if_pos c10] at H
         have c10b0 : ((bt a0 x3_1) == 32) = true := beq_iff_eq.mpr c10
         have c10b1 : ((bt a0 x3_1) != 32) = false := bne_eq_false_iff_eq.mpr c10
         clear c10
         have H' := Aside0.mk H
         clear H
         have p4 : 0 ≤ (x3_1 : Int) := of_decide_eq_true (by first | (with_reducible assumption) | assumption)
         have q4 : x3_1 < (a0.size : Int) := of_decide_eq_true (by first | (with_reducible assumption) | assumption)
         have hx4 := bt_at a0 x3_1
         replace p4 := eq_true p4
         replace q4 := eq_true q4
         go_wp2
         go_roundg k1
         case measure => have := HK1.out; omega
         case rel => exact ⟨(wrap64 (x3_1 + 1)), (by first | rfl | (simp; done) | (simp [*]; done)), H', ⟨by have := HK1.out; omega⟩, by repeat (first | exact Drawn0.refl _ | apply Drawn0.step)⟩
        ·
         rw [if_neg c10] at H
         have c10b0 : ((bt a0 x3_1) == 32) = false := beq_eq_false_iff_ne.mpr c10
         have c10b1 : ((bt a0 x3_1) != 32) = true := bne_iff_ne.mpr c10
         obtain rfl := Option.some.inj H
         have p4 : 0 ≤ (x3_1 : Int) := of_decide_eq_true (by first | (with_reducible assumption) | assumption)
         have q4 : x3_1 < (a0.size : Int) := of_decide_eq_true (by first | (with_reducible assumption) | assumption)
         have hx4 := bt_at a0 x3_1
         replace p4 := eq_true p4
         replace q4 := eq_true q4
         go_wp2
         go_ret
         exact ⟨by first | rfl | (simp; done) | (simp [*]; done), by repeat (first | exact Drawn0.refl _ | apply Drawn0.step)⟩
     ·
      rw [if_neg c5] at H
      have c5b0 : decide (97 ≤ (bt a0 x3_1)) = false := decide_eq_false c5
      clear c5
      by_cases c11 : (bt a0 x3_1) ≥ 48
      ·
       rw [if_pos c11] at H
       have c11b0 : decide (48 ≤ (bt a0 x3_1)) = true := decide_eq_true c11
       clear c11
       by_cases c12 : (bt a0 x3_1) ≤ 57
       ·
        rw [if_pos c12] at H
        have c12b0 : decide ((bt a0 x3_1) ≤ 57) = true := decide_eq_true c12
        clear c12
        have H' := Aside0.mk H
        clear H
        have p4 : 0 ≤ (x3_1 : Int) := of_decide_eq_true (by first | (with_reducible assumption) | assumption)
        have q4 : x3_1 < (a0.size : Int) := of_decide_eq_true (by first | (with_reducible assumption) | assumption)
        have hx4 := bt_at a0 x3_1
        replace p4 := eq_true p4
        replace q4 := eq_true q4
        go_wp2
        go_roundg k1
        case measure => have := HK1.out; omega
        case rel => exact ⟨(wrap64 (x3_1 + 1)), (by first | rfl | (simp; done) | (simp [*]; done)), H', ⟨by have := HK1.out; omega⟩, by repeat (first | exact Drawn0.refl _ | apply Drawn0.step)⟩
       ·
        rw [if_neg c12] at H
        have c12b0 : decide ((bt a0 x3_1) ≤ 57) = false := decide_eq_false c12
        clear c12
        by_cases c13 : ((bt a0 x3_1) = 32)
        ·
         rw [if_pos c13] at H
         have c13b0 : ((bt a0 x3_1) == 32) = true := beq_iff_eq.mpr c13
         have c13b1 : ((bt a0 x3_1) != 32) = false := bne_eq_false_iff_eq.mpr c13
         clear c13
         have H' := Aside0.mk H
         clear H
         have p4 : 0 ≤ (x3_1 : Int) := of_decide_eq_true (by first | (with_reducible assumption) | assumption)
         have q4 : x3_1 < (a0.size : Int) := of_decide_eq_true (by first | (with_reducible assumption) | assumption)
         have hx4 := bt_at a0 x3_1
         replace p4 := eq_true p4
         replace q4 := eq_true q4
         go_wp2
         go_roundg k1
         case measure => have := HK1.out; omega
         case rel => exact ⟨(wrap64 (x3_1 + 1)), (by first | rfl | (simp; done) | (simp [*]; done)), H', ⟨by have := HK1.out; omega⟩, by repeat (first | exact Drawn0.refl _ | apply Drawn0.step)⟩
        ·
         rw [if_neg c13] at H
         have c13b0 : ((bt a0 x3_1) == 32) = false := beq_eq_false_iff_ne.mpr c13
         have c13b1 : ((bt a0 x3_1) != 32) = true := bne_iff_ne.mpr c13
         obtain rfl := Option.some.inj H
         have p4 : 0 ≤ (x3_1 : Int) := of_decide_eq_true (by first | (with_reducible assumption) | assumption)
         have q4 : x3_1 < (a0.size : Int) := of_decide_eq_true (by first | (with_reducible assumption) | assumption)
         have hx4 := bt_at a0 x3_1
         replace p4 := eq_true p4
         replace q4 := eq_true q4
         go_wp2
         go_ret
         exact ⟨by first | rfl | (simp; done) | (simp [*]; done), by repeat (first | exact Drawn0.refl _ | apply Drawn0.step)⟩
      ·
       rw [if_neg c11] at H
       have c11b0 : decide (48 ≤ (bt a0 x3_1)) = false := decide_eq_false c11
       clear c11
       by_cases c14 : ((bt a0 x3_1) = 32)
       ·
        rw [if_pos c14] at H
        have c14b0 : ((bt a0 x3_1) == 32) = true := beq_iff_eq.mpr c14
        have c14b1 : ((bt a0 x3_1) != 32) = false := bne_eq_false_iff_eq.mpr c14
        clear c14
        have H' := Aside0.mk H
        clear H
        have p4 : 0 ≤ (x3_1 : Int) := of_decide_eq_true (by first | (with_reducible assumption) | assumption)
        have q4 : x3_1 < (a0.size : Int) := of_decide_eq_true (by first | (with_reducible assumption) | assumption)
        have hx4 := bt_at a0 x3_1
        replace p4 := eq_true p4
        replace q4 := eq_true q4
        go_wp2
        go_roundg k1
        case measure => have := HK1.out; omega
        case rel => exact ⟨(wrap64 (x3_1 + 1)), (by first | rfl | (simp; done) | (simp [*]; done)), H', ⟨by have := HK1.out; omega⟩, by repeat (first | exact Drawn0.refl _ | apply Drawn0.step)⟩
       ·
        rw [if_neg c14] at H
        have c14b0 : ((bt a0 x3_1) == 32) = false := beq_eq_false_iff_ne.mpr c14
        have c14b1 : ((bt a0 x3_1) != 32) = true := bne_iff_ne.mpr c14
        obtain rfl := Option.some.inj H
        have p4 : 0 ≤ (x3_1 : Int) := of_decide_eq_true (by first | (with_reducible assumption) | assumption)
        have q4 : x3_1 < (a0.size : Int) := of_decide_eq_true (by first | (with_reducible assumption) | assumption)
        have hx4 := bt_at a0 x3_1
        replace p4 := eq_true p4
        replace q4 := eq_true q4
        go_wp2
        go_ret
        exact ⟨by first | rfl | (simp; done) | (simp [*]; done), by repeat (first | exact Drawn0.refl _ | apply Drawn0.step)⟩
    ·
     rw [if_neg c3] at H
     exact absurd H (by simp)
   ·
    rw [if_neg c2] at H
    have c2b0 : decide (x3_1 < (a0.size : Int)) = false := decide_eq_false c2
    clear c2
    obtain rfl := Option.some.inj H
    go_wp2
    go_ret
    exact ⟨by first | rfl | (simp; done) | (simp [*]; done), by repeat (first | exact Drawn0.refl _ | apply Drawn0.step)⟩
/-! ### laws_eqItem: function 152 -/
def laws_eqItem.f (a0_0 : Int) (a0_1 : ByteArray) (a0_2 : ByteArray) (a0_3 : Int) (a0_4 : Int) (a1_0 : Int) (a1_1 : ByteArray) (a1_2 : ByteArray) (a1_3 : Int) (a1_4 : Int) : Option (Bool) := if a0_0 = a1_0 then (if a0_1.toList = a1_1.toList then (if a0_2.toList = a1_2.toList then (if a0_3 = a1_3 then (if a0_4 = a1_4 then (some true) else (some false)) else (some false)) else (some false)) else (some false)) else (some false)
set_option maxHeartbeats 8000000 in
set_option maxRecDepth 100000 in
theorem laws_eqItem.calls (a0_0 : Int) (a0_1 : ByteArray) (a0_2 : ByteArray) (a0_3 : Int) (a0_4 : Int) (a1_0 : Int) (a1_1 : ByteArray) (a1_2 : ByteArray) (a1_3 : Int) (a1_4 : Int) (r : Bool) (w : World) (h : laws_eqItem.f a0_0 a0_1 a0_2 a0_3 a0_4 a1_0 a1_1 a1_2 a1_3 a1_4 = some r) :
 Calls Try.prog 152 #[.agg #[.int .i64 a0_0, .string a0_1, .string a0_2, .int .i64 a0_3, .int .i64 a0_4], .agg #[.int .i64 a1_0, .string a1_1, .string a1_2, .int .i64 a1_3, .int .i64 a1_4]] w fun e w' => e = .returned (.bool r) ∧ Below w.heap.size w w' := by
 have hu69 := Try.underlying69
 have HB := Aside0.mk (Below.refl w.heap.size w)
 have H : (if a0_0 = a1_0 then (if a0_1.toList = a1_1.toList then (if a0_2.toList = a1_2.toList then (if a0_3 = a1_3 then (if a0_4 = a1_4 then (some true) else (some false)) else (some false)) else (some false)) else (some false)) else (some false)) = some r := h
 clear h
 by_cases c3 : a0_0 = a1_0
 ·
  rw [if_pos c3] at H
  have c3b0 : (a0_0 == a1_0) = true := beq_iff_eq.mpr c3
  have c3b1 : (a0_0 != a1_0) = false := bne_eq_false_iff_eq.mpr c3
  clear c3
  by_cases c4 : a0_1.toList = a1_1.toList
  ·
   rw [if_pos c4] at H
   have c4b0 : (a0_1.toList == a1_1.toList) = true := beq_iff_eq.mpr c4
   have c4b1 : (a0_1.toList != a1_1.toList) = false := bne_eq_false_iff_eq.mpr c4
   clear c4
   by_cases c5 : a0_2.toList = a1_2.toList
   ·
    rw [if_pos c5] at H
    have c5b0 : (a0_2.toList == a1_2.toList) = true := beq_iff_eq.mpr c5
    have c5b1 : (a0_2.toList != a1_2.toList) = false := bne_eq_false_iff_eq.mpr c5
    clear c5
    by_cases c6 : a0_3 = a1_3
    ·
     rw [if_pos c6] at H
     have c6b0 : (a0_3 == a1_3) = true := beq_iff_eq.mpr c6
     have c6b1 : (a0_3 != a1_3) = false := bne_eq_false_iff_eq.mpr c6
     clear c6
     by_cases c7 : a0_4 = a1_4
     ·
      rw [if_pos c7] at H
      have c7b0 : (a0_4 == a1_4) = true := beq_iff_eq.mpr c7
      have c7b1 : (a0_4 != a1_4) = false := bne_eq_false_iff_eq.mpr c7
      clear c7
      obtain rfl := Option.some.inj H
      go_enter Try.func152, Try.ntmps152
      go_wp2_with (first | ((with_reducible refine gate_dst (N := 2) rfl ?_); refine box_event ?hg (N := 2) ?hd (cs := #[.int .i64 a0_0, .string a0_1, .string a0_2, .int .i64 a0_3, .int .i64 a0_4]) (t := 69) ?hr ?_; (case hd => rfl); (case hg => rfl); (case hr => first | (go_simp; done) | (go_simp; rfl)); intro gb589 hg w8 hbox hb; have n0_ := Aside0.mk (below_step (hb_ HB.out) hb); have n1_ := Aside0.mk (hbox); have n2_ := Aside0.mk ((by rw [hg]; exact (below_size (hb_ HB.out)) : w.heap.size ≤ gb589)); have n3_ := Aside0.mk ((by rw [hg]; exact (below_size (hb_ HB.out)) : w.heap.size ≤ gb589)); clear HB; have HB := n0_; have BK589 := n1_; have GW589 := n2_; have GE589 := n3_; clear n0_ n1_ n2_ n3_; clear hb hbox hg) | ((with_reducible refine gate_dst (N := 3) rfl ?_); refine box_event ?hg (N := 3) ?hd (cs := #[.int .i64 a1_0, .string a1_1, .string a1_2, .int .i64 a1_3, .int .i64 a1_4]) (t := 69) ?hr ?_; (case hd => rfl); (case hg => rfl); (case hr => first | (go_simp; done) | (go_simp; rfl)); intro gb590 hg w9 hbox hb; have n0_ := Aside0.mk (bb_ BK589.out hb); have n1_ := Aside0.mk (below_step (hb_ HB.out) hb); have n2_ := Aside0.mk (hbox); have n3_ := Aside0.mk ((by rw [hg]; exact (below_size (hb_ HB.out)) : w.heap.size ≤ gb590)); have n4_ := Aside0.mk ((by rw [hg]; exact (below_size (hb_ HB.out)) : w.heap.size ≤ gb590)); have n5_ := Aside0.mk ((by rw [hg]; exact Nat.ne_of_lt (blk_lt (g := gb589) (o := .cells #[.int .i64 a0_0, .string a0_1, .string a0_2, .int .i64 a0_3, .int .i64 a0_4] 69 (0, 0)) (bq_ BK589.out)) : gb589 ≠ gb590)); have n6_ := Aside0.mk ((by rw [hg]; exact Nat.ne_of_gt (blk_lt (g := gb589) (o := .cells #[.int .i64 a0_0, .string a0_1, .string a0_2, .int .i64 a0_3, .int .i64 a0_4] 69 (0, 0)) (bq_ BK589.out)) : gb590 ≠ gb589)); clear BK589; clear HB; have BK589 := n0_; have HB := n1_; have BK590 := n2_; have GW590 := n3_; have GE590 := n4_; have NB589_590 := n5_; have NB590_589 := n6_; clear n0_ n1_ n2_ n3_ n4_ n5_ n6_; clear hb hbox hg; have hnb10 := NB589_590.out; have hnc10 := NB590_589.out; have hcz11_0 : w9.cell? ⟨gb589, 0, none⟩ = some (.int .i64 a0_0) := (blk_cell BK589.out 0).trans rfl; have hcz11_1 : w9.cell? ⟨gb589, 1, none⟩ = some (.string a0_1) := (blk_cell BK589.out 1).trans rfl; have hcz11_2 : w9.cell? ⟨gb589, 2, none⟩ = some (.string a0_2) := (blk_cell BK589.out 2).trans rfl; have hcz11_3 : w9.cell? ⟨gb589, 3, none⟩ = some (.int .i64 a0_3) := (blk_cell BK589.out 3).trans rfl; have hcz11_4 : w9.cell? ⟨gb589, 4, none⟩ = some (.int .i64 a0_4) := (blk_cell BK589.out 4).trans rfl; have hfz11_0 := blk_frozen BK589.out 0; have hfz11_1 := blk_frozen BK589.out 1; have hfz11_2 := blk_frozen BK589.out 2; have hfz11_3 := blk_frozen BK589.out 3; have hfz11_4 := blk_frozen BK589.out 4; have hcz12_0 : w9.cell? ⟨gb590, 0, none⟩ = some (.int .i64 a1_0) := (blk_cell BK590.out 0).trans rfl; have hcz12_1 : w9.cell? ⟨gb590, 1, none⟩ = some (.string a1_1) := (blk_cell BK590.out 1).trans rfl; have hcz12_2 : w9.cell? ⟨gb590, 2, none⟩ = some (.string a1_2) := (blk_cell BK590.out 2).trans rfl; have hcz12_3 : w9.cell? ⟨gb590, 3, none⟩ = some (.int .i64 a1_3) := (blk_cell BK590.out 3).trans rfl; have hcz12_4 : w9.cell? ⟨gb590, 4, none⟩ = some (.int .i64 a1_4) := (blk_cell BK590.out 4).trans rfl; have hfz12_0 := blk_frozen BK590.out 0; have hfz12_1 := blk_frozen BK590.out 1; have hfz12_2 := blk_frozen BK590.out 2; have hfz12_3 := blk_frozen BK590.out 3; have hfz12_4 := blk_frozen BK590.out 4))
      go_ret
      exact ⟨by first | rfl | (simp [errW_none, errW_some] <;> rfl) | (simp [*, errW_none, errW_some] <;> rfl), hb_ HB.out⟩
     ·
      rw [if_neg c7] at H
      have c7b0 : (a0_4 == a1_4) = false := beq_eq_false_iff_ne.mpr c7
      have c7b1 : (a0_4 != a1_4) = true := bne_iff_ne.mpr c7
      obtain rfl := Option.some.inj H
      go_enter Try.func152, Try.ntmps152
      go_wp2_with (first | ((with_reducible refine gate_dst (N := 2) rfl ?_); refine box_event ?hg (N := 2) ?hd (cs := #[.int .i64 a0_0, .string a0_1, .string a0_2, .int .i64 a0_3, .int .i64 a0_4]) (t := 69) ?hr ?_; (case hd => rfl); (case hg => rfl); (case hr => first | (go_simp; done) | (go_simp; rfl)); intro gb589 hg w13 hbox hb; have n0_ := Aside0.mk (below_step (hb_ HB.out) hb); have n1_ := Aside0.mk (hbox); have n2_ := Aside0.mk ((by rw [hg]; exact (below_size (hb_ HB.out)) : w.heap.size ≤ gb589)); have n3_ := Aside0.mk ((by rw [hg]; exact (below_size (hb_ HB.out)) : w.heap.size ≤ gb589)); clear HB; have HB := n0_; have BK589 := n1_; have GW589 := n2_; have GE589 := n3_; clear n0_ n1_ n2_ n3_; clear hb hbox hg) | ((with_reducible refine gate_dst (N := 3) rfl ?_); refine box_event ?hg (N := 3) ?hd (cs := #[.int .i64 a1_0, .string a1_1, .string a1_2, .int .i64 a1_3, .int .i64 a1_4]) (t := 69) ?hr ?_; (case hd => rfl); (case hg => rfl); (case hr => first | (go_simp; done) | (go_simp; rfl)); intro gb590 hg w14 hbox hb; have n0_ := Aside0.mk (bb_ BK589.out hb); have n1_ := Aside0.mk (below_step (hb_ HB.out) hb); have n2_ := Aside0.mk (hbox); have n3_ := Aside0.mk ((by rw [hg]; exact (below_size (hb_ HB.out)) : w.heap.size ≤ gb590)); have n4_ := Aside0.mk ((by rw [hg]; exact (below_size (hb_ HB.out)) : w.heap.size ≤ gb590)); have n5_ := Aside0.mk ((by rw [hg]; exact Nat.ne_of_lt (blk_lt (g := gb589) (o := .cells #[.int .i64 a0_0, .string a0_1, .string a0_2, .int .i64 a0_3, .int .i64 a0_4] 69 (0, 0)) (bq_ BK589.out)) : gb589 ≠ gb590)); have n6_ := Aside0.mk ((by rw [hg]; exact Nat.ne_of_gt (blk_lt (g := gb589) (o := .cells #[.int .i64 a0_0, .string a0_1, .string a0_2, .int .i64 a0_3, .int .i64 a0_4] 69 (0, 0)) (bq_ BK589.out)) : gb590 ≠ gb589)); clear BK589; clear HB; have BK589 := n0_; have HB := n1_; have BK590 := n2_; have GW590 := n3_; have GE590 := n4_; have NB589_590 := n5_; have NB590_589 := n6_; clear n0_ n1_ n2_ n3_ n4_ n5_ n6_; clear hb hbox hg; have hnb15 := NB589_590.out; have hnc15 := NB590_589.out; have hcz16_0 : w14.cell? ⟨gb589, 0, none⟩ = some (.int .i64 a0_0) := (blk_cell BK589.out 0).trans rfl; have hcz16_1 : w14.cell? ⟨gb589, 1, none⟩ = some (.string a0_1) := (blk_cell BK589.out 1).trans rfl; have hcz16_2 : w14.cell? ⟨gb589, 2, none⟩ = some (.string a0_2) := (blk_cell BK589.out 2).trans rfl; have hcz16_3 : w14.cell? ⟨gb589, 3, none⟩ = some (.int .i64 a0_3) := (blk_cell BK589.out 3).trans rfl; have hcz16_4 : w14.cell? ⟨gb589, 4, none⟩ = some (.int .i64 a0_4) := (blk_cell BK589.out 4).trans rfl; have hfz16_0 := blk_frozen BK589.out 0; have hfz16_1 := blk_frozen BK589.out 1; have hfz16_2 := blk_frozen BK589.out 2; have hfz16_3 := blk_frozen BK589.out 3; have hfz16_4 := blk_frozen BK589.out 4; have hcz17_0 : w14.cell? ⟨gb590, 0, none⟩ = some (.int .i64 a1_0) := (blk_cell BK590.out 0).trans rfl; have hcz17_1 : w14.cell? ⟨gb590, 1, none⟩ = some (.string a1_1) := (blk_cell BK590.out 1).trans rfl; have hcz17_2 : w14.cell? ⟨gb590, 2, none⟩ = some (.string a1_2) := (blk_cell BK590.out 2).trans rfl; have hcz17_3 : w14.cell? ⟨gb590, 3, none⟩ = some (.int .i64 a1_3) := (blk_cell BK590.out 3).trans rfl; have hcz17_4 : w14.cell? ⟨gb590, 4, none⟩ = some (.int .i64 a1_4) := (blk_cell BK590.out 4).trans rfl; have hfz17_0 := blk_frozen BK590.out 0; have hfz17_1 := blk_frozen BK590.out 1; have hfz17_2 := blk_frozen BK590.out 2; have hfz17_3 := blk_frozen BK590.out 3; have hfz17_4 := blk_frozen BK590.out 4))
      go_ret
      exact ⟨by first | rfl | (simp [errW_none, errW_some] <;> rfl) | (simp [*, errW_none, errW_some] <;> rfl), hb_ HB.out⟩
    ·
     rw [if_neg c6] at H
     have c6b0 : (a0_3 == a1_3) = false := beq_eq_false_iff_ne.mpr c6
     have c6b1 : (a0_3 != a1_3) = true := bne_iff_ne.mpr c6
     obtain rfl := Option.some.inj H
     go_enter Try.func152, Try.ntmps152
     go_wp2_with (first | ((with_reducible refine gate_dst (N := 2) rfl ?_); refine box_event ?hg (N := 2) ?hd (cs := #[.int .i64 a0_0, .string a0_1, .string a0_2, .int .i64 a0_3, .int .i64 a0_4]) (t := 69) ?hr ?_; (case hd => rfl); (case hg => rfl); (case hr => first | (go_simp; done) | (go_simp; rfl)); intro gb589 hg w18 hbox hb; have n0_ := Aside0.mk (below_step (hb_ HB.out) hb); have n1_ := Aside0.mk (hbox); have n2_ := Aside0.mk ((by rw [hg]; exact (below_size (hb_ HB.out)) : w.heap.size ≤ gb589)); have n3_ := Aside0.mk ((by rw [hg]; exact (below_size (hb_ HB.out)) : w.heap.size ≤ gb589)); clear HB; have HB := n0_; have BK589 := n1_; have GW589 := n2_; have GE589 := n3_; clear n0_ n1_ n2_ n3_; clear hb hbox hg) | ((with_reducible refine gate_dst (N := 3) rfl ?_); refine box_event ?hg (N := 3) ?hd (cs := #[.int .i64 a1_0, .string a1_1, .string a1_2, .int .i64 a1_3, .int .i64 a1_4]) (t := 69) ?hr ?_; (case hd => rfl); (case hg => rfl); (case hr => first | (go_simp; done) | (go_simp; rfl)); intro gb590 hg w19 hbox hb; have n0_ := Aside0.mk (bb_ BK589.out hb); have n1_ := Aside0.mk (below_step (hb_ HB.out) hb); have n2_ := Aside0.mk (hbox); have n3_ := Aside0.mk ((by rw [hg]; exact (below_size (hb_ HB.out)) : w.heap.size ≤ gb590)); have n4_ := Aside0.mk ((by rw [hg]; exact (below_size (hb_ HB.out)) : w.heap.size ≤ gb590)); have n5_ := Aside0.mk ((by rw [hg]; exact Nat.ne_of_lt (blk_lt (g := gb589) (o := .cells #[.int .i64 a0_0, .string a0_1, .string a0_2, .int .i64 a0_3, .int .i64 a0_4] 69 (0, 0)) (bq_ BK589.out)) : gb589 ≠ gb590)); have n6_ := Aside0.mk ((by rw [hg]; exact Nat.ne_of_gt (blk_lt (g := gb589) (o := .cells #[.int .i64 a0_0, .string a0_1, .string a0_2, .int .i64 a0_3, .int .i64 a0_4] 69 (0, 0)) (bq_ BK589.out)) : gb590 ≠ gb589)); clear BK589; clear HB; have BK589 := n0_; have HB := n1_; have BK590 := n2_; have GW590 := n3_; have GE590 := n4_; have NB589_590 := n5_; have NB590_589 := n6_; clear n0_ n1_ n2_ n3_ n4_ n5_ n6_; clear hb hbox hg; have hnb20 := NB589_590.out; have hnc20 := NB590_589.out; have hcz21_0 : w19.cell? ⟨gb589, 0, none⟩ = some (.int .i64 a0_0) := (blk_cell BK589.out 0).trans rfl; have hcz21_1 : w19.cell? ⟨gb589, 1, none⟩ = some (.string a0_1) := (blk_cell BK589.out 1).trans rfl; have hcz21_2 : w19.cell? ⟨gb589, 2, none⟩ = some (.string a0_2) := (blk_cell BK589.out 2).trans rfl; have hcz21_3 : w19.cell? ⟨gb589, 3, none⟩ = some (.int .i64 a0_3) := (blk_cell BK589.out 3).trans rfl; have hcz21_4 : w19.cell? ⟨gb589, 4, none⟩ = some (.int .i64 a0_4) := (blk_cell BK589.out 4).trans rfl; have hfz21_0 := blk_frozen BK589.out 0; have hfz21_1 := blk_frozen BK589.out 1; have hfz21_2 := blk_frozen BK589.out 2; have hfz21_3 := blk_frozen BK589.out 3; have hfz21_4 := blk_frozen BK589.out 4; have hcz22_0 : w19.cell? ⟨gb590, 0, none⟩ = some (.int .i64 a1_0) := (blk_cell BK590.out 0).trans rfl; have hcz22_1 : w19.cell? ⟨gb590, 1, none⟩ = some (.string a1_1) := (blk_cell BK590.out 1).trans rfl; have hcz22_2 : w19.cell? ⟨gb590, 2, none⟩ = some (.string a1_2) := (blk_cell BK590.out 2).trans rfl; have hcz22_3 : w19.cell? ⟨gb590, 3, none⟩ = some (.int .i64 a1_3) := (blk_cell BK590.out 3).trans rfl; have hcz22_4 : w19.cell? ⟨gb590, 4, none⟩ = some (.int .i64 a1_4) := (blk_cell BK590.out 4).trans rfl; have hfz22_0 := blk_frozen BK590.out 0; have hfz22_1 := blk_frozen BK590.out 1; have hfz22_2 := blk_frozen BK590.out 2; have hfz22_3 := blk_frozen BK590.out 3; have hfz22_4 := blk_frozen BK590.out 4))
     go_ret
     exact ⟨by first | rfl | (simp [errW_none, errW_some] <;> rfl) | (simp [*, errW_none, errW_some] <;> rfl), hb_ HB.out⟩
   ·
    rw [if_neg c5] at H
    have c5b0 : (a0_2.toList == a1_2.toList) = false := beq_eq_false_iff_ne.mpr c5
    have c5b1 : (a0_2.toList != a1_2.toList) = true := bne_iff_ne.mpr c5
    obtain rfl := Option.some.inj H
    go_enter Try.func152, Try.ntmps152
    go_wp2_with (first | ((with_reducible refine gate_dst (N := 2) rfl ?_); refine box_event ?hg (N := 2) ?hd (cs := #[.int .i64 a0_0, .string a0_1, .string a0_2, .int .i64 a0_3, .int .i64 a0_4]) (t := 69) ?hr ?_; (case hd => rfl); (case hg => rfl); (case hr => first | (go_simp; done) | (go_simp; rfl)); intro gb589 hg w23 hbox hb; have n0_ := Aside0.mk (below_step (hb_ HB.out) hb); have n1_ := Aside0.mk (hbox); have n2_ := Aside0.mk ((by rw [hg]; exact (below_size (hb_ HB.out)) : w.heap.size ≤ gb589)); have n3_ := Aside0.mk ((by rw [hg]; exact (below_size (hb_ HB.out)) : w.heap.size ≤ gb589)); clear HB; have HB := n0_; have BK589 := n1_; have GW589 := n2_; have GE589 := n3_; clear n0_ n1_ n2_ n3_; clear hb hbox hg) | ((with_reducible refine gate_dst (N := 3) rfl ?_); refine box_event ?hg (N := 3) ?hd (cs := #[.int .i64 a1_0, .string a1_1, .string a1_2, .int .i64 a1_3, .int .i64 a1_4]) (t := 69) ?hr ?_; (case hd => rfl); (case hg => rfl); (case hr => first | (go_simp; done) | (go_simp; rfl)); intro gb590 hg w24 hbox hb; have n0_ := Aside0.mk (bb_ BK589.out hb); have n1_ := Aside0.mk (below_step (hb_ HB.out) hb); have n2_ := Aside0.mk (hbox); have n3_ := Aside0.mk ((by rw [hg]; exact (below_size (hb_ HB.out)) : w.heap.size ≤ gb590)); have n4_ := Aside0.mk ((by rw [hg]; exact (below_size (hb_ HB.out)) : w.heap.size ≤ gb590)); have n5_ := Aside0.mk ((by rw [hg]; exact Nat.ne_of_lt (blk_lt (g := gb589) (o := .cells #[.int .i64 a0_0, .string a0_1, .string a0_2, .int .i64 a0_3, .int .i64 a0_4] 69 (0, 0)) (bq_ BK589.out)) : gb589 ≠ gb590)); have n6_ := Aside0.mk ((by rw [hg]; exact Nat.ne_of_gt (blk_lt (g := gb589) (o := .cells #[.int .i64 a0_0, .string a0_1, .string a0_2, .int .i64 a0_3, .int .i64 a0_4] 69 (0, 0)) (bq_ BK589.out)) : gb590 ≠ gb589)); clear BK589; clear HB; have BK589 := n0_; have HB := n1_; have BK590 := n2_; have GW590 := n3_; have GE590 := n4_; have NB589_590 := n5_; have NB590_589 := n6_; clear n0_ n1_ n2_ n3_ n4_ n5_ n6_; clear hb hbox hg; have hnb25 := NB589_590.out; have hnc25 := NB590_589.out; have hcz26_0 : w24.cell? ⟨gb589, 0, none⟩ = some (.int .i64 a0_0) := (blk_cell BK589.out 0).trans rfl; have hcz26_1 : w24.cell? ⟨gb589, 1, none⟩ = some (.string a0_1) := (blk_cell BK589.out 1).trans rfl; have hcz26_2 : w24.cell? ⟨gb589, 2, none⟩ = some (.string a0_2) := (blk_cell BK589.out 2).trans rfl; have hcz26_3 : w24.cell? ⟨gb589, 3, none⟩ = some (.int .i64 a0_3) := (blk_cell BK589.out 3).trans rfl; have hcz26_4 : w24.cell? ⟨gb589, 4, none⟩ = some (.int .i64 a0_4) := (blk_cell BK589.out 4).trans rfl; have hfz26_0 := blk_frozen BK589.out 0; have hfz26_1 := blk_frozen BK589.out 1; have hfz26_2 := blk_frozen BK589.out 2; have hfz26_3 := blk_frozen BK589.out 3; have hfz26_4 := blk_frozen BK589.out 4; have hcz27_0 : w24.cell? ⟨gb590, 0, none⟩ = some (.int .i64 a1_0) := (blk_cell BK590.out 0).trans rfl; have hcz27_1 : w24.cell? ⟨gb590, 1, none⟩ = some (.string a1_1) := (blk_cell BK590.out 1).trans rfl; have hcz27_2 : w24.cell? ⟨gb590, 2, none⟩ = some (.string a1_2) := (blk_cell BK590.out 2).trans rfl; have hcz27_3 : w24.cell? ⟨gb590, 3, none⟩ = some (.int .i64 a1_3) := (blk_cell BK590.out 3).trans rfl; have hcz27_4 : w24.cell? ⟨gb590, 4, none⟩ = some (.int .i64 a1_4) := (blk_cell BK590.out 4).trans rfl; have hfz27_0 := blk_frozen BK590.out 0; have hfz27_1 := blk_frozen BK590.out 1; have hfz27_2 := blk_frozen BK590.out 2; have hfz27_3 := blk_frozen BK590.out 3; have hfz27_4 := blk_frozen BK590.out 4))
    go_ret
    exact ⟨by first | rfl | (simp [errW_none, errW_some] <;> rfl) | (simp [*, errW_none, errW_some] <;> rfl), hb_ HB.out⟩
  ·
   rw [if_neg c4] at H
   have c4b0 : (a0_1.toList == a1_1.toList) = false := beq_eq_false_iff_ne.mpr c4
   have c4b1 : (a0_1.toList != a1_1.toList) = true := bne_iff_ne.mpr c4
   obtain rfl := Option.some.inj H
   go_enter Try.func152, Try.ntmps152
   go_wp2_with (first | ((with_reducible refine gate_dst (N := 2) rfl ?_); refine box_event ?hg (N := 2) ?hd (cs := #[.int .i64 a0_0, .string a0_1, .string a0_2, .int .i64 a0_3, .int .i64 a0_4]) (t := 69) ?hr ?_; (case hd => rfl); (case hg => rfl); (case hr => first | (go_simp; done) | (go_simp; rfl)); intro gb589 hg w28 hbox hb; have n0_ := Aside0.mk (below_step (hb_ HB.out) hb); have n1_ := Aside0.mk (hbox); have n2_ := Aside0.mk ((by rw [hg]; exact (below_size (hb_ HB.out)) : w.heap.size ≤ gb589)); have n3_ := Aside0.mk ((by rw [hg]; exact (below_size (hb_ HB.out)) : w.heap.size ≤ gb589)); clear HB; have HB := n0_; have BK589 := n1_; have GW589 := n2_; have GE589 := n3_; clear n0_ n1_ n2_ n3_; clear hb hbox hg) | ((with_reducible refine gate_dst (N := 3) rfl ?_); refine box_event ?hg (N := 3) ?hd (cs := #[.int .i64 a1_0, .string a1_1, .string a1_2, .int .i64 a1_3, .int .i64 a1_4]) (t := 69) ?hr ?_; (case hd => rfl); (case hg => rfl); (case hr => first | (go_simp; done) | (go_simp; rfl)); intro gb590 hg w29 hbox hb; have n0_ := Aside0.mk (bb_ BK589.out hb); have n1_ := Aside0.mk (below_step (hb_ HB.out) hb); have n2_ := Aside0.mk (hbox); have n3_ := Aside0.mk ((by rw [hg]; exact (below_size (hb_ HB.out)) : w.heap.size ≤ gb590)); have n4_ := Aside0.mk ((by rw [hg]; exact (below_size (hb_ HB.out)) : w.heap.size ≤ gb590)); have n5_ := Aside0.mk ((by rw [hg]; exact Nat.ne_of_lt (blk_lt (g := gb589) (o := .cells #[.int .i64 a0_0, .string a0_1, .string a0_2, .int .i64 a0_3, .int .i64 a0_4] 69 (0, 0)) (bq_ BK589.out)) : gb589 ≠ gb590)); have n6_ := Aside0.mk ((by rw [hg]; exact Nat.ne_of_gt (blk_lt (g := gb589) (o := .cells #[.int .i64 a0_0, .string a0_1, .string a0_2, .int .i64 a0_3, .int .i64 a0_4] 69 (0, 0)) (bq_ BK589.out)) : gb590 ≠ gb589)); clear BK589; clear HB; have BK589 := n0_; have HB := n1_; have BK590 := n2_; have GW590 := n3_; have GE590 := n4_; have NB589_590 := n5_; have NB590_589 := n6_; clear n0_ n1_ n2_ n3_ n4_ n5_ n6_; clear hb hbox hg; have hnb30 := NB589_590.out; have hnc30 := NB590_589.out; have hcz31_0 : w29.cell? ⟨gb589, 0, none⟩ = some (.int .i64 a0_0) := (blk_cell BK589.out 0).trans rfl; have hcz31_1 : w29.cell? ⟨gb589, 1, none⟩ = some (.string a0_1) := (blk_cell BK589.out 1).trans rfl; have hcz31_2 : w29.cell? ⟨gb589, 2, none⟩ = some (.string a0_2) := (blk_cell BK589.out 2).trans rfl; have hcz31_3 : w29.cell? ⟨gb589, 3, none⟩ = some (.int .i64 a0_3) := (blk_cell BK589.out 3).trans rfl; have hcz31_4 : w29.cell? ⟨gb589, 4, none⟩ = some (.int .i64 a0_4) := (blk_cell BK589.out 4).trans rfl; have hfz31_0 := blk_frozen BK589.out 0; have hfz31_1 := blk_frozen BK589.out 1; have hfz31_2 := blk_frozen BK589.out 2; have hfz31_3 := blk_frozen BK589.out 3; have hfz31_4 := blk_frozen BK589.out 4; have hcz32_0 : w29.cell? ⟨gb590, 0, none⟩ = some (.int .i64 a1_0) := (blk_cell BK590.out 0).trans rfl; have hcz32_1 : w29.cell? ⟨gb590, 1, none⟩ = some (.string a1_1) := (blk_cell BK590.out 1).trans rfl; have hcz32_2 : w29.cell? ⟨gb590, 2, none⟩ = some (.string a1_2) := (blk_cell BK590.out 2).trans rfl; have hcz32_3 : w29.cell? ⟨gb590, 3, none⟩ = some (.int .i64 a1_3) := (blk_cell BK590.out 3).trans rfl; have hcz32_4 : w29.cell? ⟨gb590, 4, none⟩ = some (.int .i64 a1_4) := (blk_cell BK590.out 4).trans rfl; have hfz32_0 := blk_frozen BK590.out 0; have hfz32_1 := blk_frozen BK590.out 1; have hfz32_2 := blk_frozen BK590.out 2; have hfz32_3 := blk_frozen BK590.out 3; have hfz32_4 := blk_frozen BK590.out 4))
   go_ret
   exact ⟨by first | rfl | (simp [errW_none, errW_some] <;> rfl) | (simp [*, errW_none, errW_some] <;> rfl), hb_ HB.out⟩
 ·
  rw [if_neg c3] at H
  have c3b0 : (a0_0 == a1_0) = false := beq_eq_false_iff_ne.mpr c3
  have c3b1 : (a0_0 != a1_0) = true := bne_iff_ne.mpr c3
  obtain rfl := Option.some.inj H
  go_enter Try.func152, Try.ntmps152
  go_wp2_with (first | ((with_reducible refine gate_dst (N := 2) rfl ?_); refine box_event ?hg (N := 2) ?hd (cs := #[.int .i64 a0_0, .string a0_1, .string a0_2, .int .i64 a0_3, .int .i64 a0_4]) (t := 69) ?hr ?_; (case hd => rfl); (case hg => rfl); (case hr => first | (go_simp; done) | (go_simp; rfl)); intro gb589 hg w33 hbox hb; have n0_ := Aside0.mk (below_step (hb_ HB.out) hb); have n1_ := Aside0.mk (hbox); have n2_ := Aside0.mk ((by rw [hg]; exact (below_size (hb_ HB.out)) : w.heap.size ≤ gb589)); have n3_ := Aside0.mk ((by rw [hg]; exact (below_size (hb_ HB.out)) : w.heap.size ≤ gb589)); clear HB; have HB := n0_; have BK589 := n1_; have GW589 := n2_; have GE589 := n3_; clear n0_ n1_ n2_ n3_; clear hb hbox hg) | ((with_reducible refine gate_dst (N := 3) rfl ?_); refine box_event ?hg (N := 3) ?hd (cs := #[.int .i64 a1_0, .string a1_1, .string a1_2, .int .i64 a1_3, .int .i64 a1_4]) (t := 69) ?hr ?_; (case hd => rfl); (case hg => rfl); (case hr => first | (go_simp; done) | (go_simp; rfl)); intro gb590 hg w34 hbox hb; have n0_ := Aside0.mk (bb_ BK589.out hb); have n1_ := Aside0.mk (below_step (hb_ HB.out) hb); have n2_ := Aside0.mk (hbox); have n3_ := Aside0.mk ((by rw [hg]; exact (below_size (hb_ HB.out)) : w.heap.size ≤ gb590)); have n4_ := Aside0.mk ((by rw [hg]; exact (below_size (hb_ HB.out)) : w.heap.size ≤ gb590)); have n5_ := Aside0.mk ((by rw [hg]; exact Nat.ne_of_lt (blk_lt (g := gb589) (o := .cells #[.int .i64 a0_0, .string a0_1, .string a0_2, .int .i64 a0_3, .int .i64 a0_4] 69 (0, 0)) (bq_ BK589.out)) : gb589 ≠ gb590)); have n6_ := Aside0.mk ((by rw [hg]; exact Nat.ne_of_gt (blk_lt (g := gb589) (o := .cells #[.int .i64 a0_0, .string a0_1, .string a0_2, .int .i64 a0_3, .int .i64 a0_4] 69 (0, 0)) (bq_ BK589.out)) : gb590 ≠ gb589)); clear BK589; clear HB; have BK589 := n0_; have HB := n1_; have BK590 := n2_; have GW590 := n3_; have GE590 := n4_; have NB589_590 := n5_; have NB590_589 := n6_; clear n0_ n1_ n2_ n3_ n4_ n5_ n6_; clear hb hbox hg; have hnb35 := NB589_590.out; have hnc35 := NB590_589.out; have hcz36_0 : w34.cell? ⟨gb589, 0, none⟩ = some (.int .i64 a0_0) := (blk_cell BK589.out 0).trans rfl; have hcz36_1 : w34.cell? ⟨gb589, 1, none⟩ = some (.string a0_1) := (blk_cell BK589.out 1).trans rfl; have hcz36_2 : w34.cell? ⟨gb589, 2, none⟩ = some (.string a0_2) := (blk_cell BK589.out 2).trans rfl; have hcz36_3 : w34.cell? ⟨gb589, 3, none⟩ = some (.int .i64 a0_3) := (blk_cell BK589.out 3).trans rfl; have hcz36_4 : w34.cell? ⟨gb589, 4, none⟩ = some (.int .i64 a0_4) := (blk_cell BK589.out 4).trans rfl; have hfz36_0 := blk_frozen BK589.out 0; have hfz36_1 := blk_frozen BK589.out 1; have hfz36_2 := blk_frozen BK589.out 2; have hfz36_3 := blk_frozen BK589.out 3; have hfz36_4 := blk_frozen BK589.out 4; have hcz37_0 : w34.cell? ⟨gb590, 0, none⟩ = some (.int .i64 a1_0) := (blk_cell BK590.out 0).trans rfl; have hcz37_1 : w34.cell? ⟨gb590, 1, none⟩ = some (.string a1_1) := (blk_cell BK590.out 1).trans rfl; have hcz37_2 : w34.cell? ⟨gb590, 2, none⟩ = some (.string a1_2) := (blk_cell BK590.out 2).trans rfl; have hcz37_3 : w34.cell? ⟨gb590, 3, none⟩ = some (.int .i64 a1_3) := (blk_cell BK590.out 3).trans rfl; have hcz37_4 : w34.cell? ⟨gb590, 4, none⟩ = some (.int .i64 a1_4) := (blk_cell BK590.out 4).trans rfl; have hfz37_0 := blk_frozen BK590.out 0; have hfz37_1 := blk_frozen BK590.out 1; have hfz37_2 := blk_frozen BK590.out 2; have hfz37_3 := blk_frozen BK590.out 3; have hfz37_4 := blk_frozen BK590.out 4))
  go_ret
  exact ⟨by first | rfl | (simp [errW_none, errW_some] <;> rfl) | (simp [*, errW_none, errW_some] <;> rfl), hb_ HB.out⟩
/-! ### laws_eqItemS: function 98 -/
abbrev laws_eqItemS.m0 : Array Bool := #[false, false, false, false, false, false, false, false, false, false]
abbrev laws_eqItemS.m1 : Array Bool := #[true, false, false, false, false, false, false, false, false, false]
abbrev laws_eqItemS.m2 : Array Bool := #[true, true, false, false, false, false, false, false, false, false]
abbrev laws_eqItemS.m3 : Array Bool := #[true, true, true, false, false, false, false, false, false, false]
abbrev laws_eqItemS.m4 : Array Bool := #[true, true, true, false, true, false, false, false, false, false]
abbrev laws_eqItemS.m5 : Array Bool := #[true, true, true, false, true, true, false, false, false, false]
abbrev laws_eqItemS.m6 : Array Bool := #[true, true, true, false, true, true, true, false, false, false]
abbrev laws_eqItemS.m7 : Array Bool := #[true, true, true, true, true, true, true, false, false, false]
abbrev laws_eqItemS.m8 : Array Bool := #[true, true, true, true, true, true, true, true, false, false]
abbrev laws_eqItemS.m9 : Array Bool := #[true, true, true, true, true, true, true, true, true, false]
abbrev laws_eqItemS.m10 : Array Bool := #[true, true, true, true, true, true, true, true, true, true]
def laws_eqItemS.l0 : Nat → List (S_Item) → List (S_Item) → Int → Option (Bool)
 | 0, _, _, _ => none
 | k + 1, x0, x1, x5 => if x5 < (x0.length : Int) then (if 0 ≤ x5 then (if x5 < (x1.length : Int) then ((laws_eqItem.f ((rd_Item x0 x5).f0) ((rd_Item x0 x5).f1) ((rd_Item x0 x5).f2) ((rd_Item x0 x5).f3) ((rd_Item x0 x5).f4) ((rd_Item x1 x5).f0) ((rd_Item x1 x5).f1) ((rd_Item x1 x5).f2) ((rd_Item x1 x5).f3) ((rd_Item x1 x5).f4)).bind fun t593 => (if t593 = true then (laws_eqItemS.l0 k x0 x1 (wrap64 (x5 + 1))) else (some false))) else (none)) else (none)) else (some true)
def laws_eqItemS.f (k : Nat) (l0 : List (S_Item)) (l1 : List (S_Item)) : Option (Bool) := if (l0.length : Int) = (l1.length : Int) then (laws_eqItemS.l0 k l0 l1 0) else (some false)
theorem laws_eqItemS.mono_l : ∀ k, (∀ y0 y1 y2, LeO (laws_eqItemS.l0 k y0 y1 y2) (laws_eqItemS.l0 (k + 1) y0 y1 y2))
 | 0 => fun _ _ _ r h => by simp [laws_eqItemS.l0] at h
 | k + 1 => by
  have ih0 := laws_eqItemS.mono_l k
  ·
   intro y0 y1 y2
   unfold laws_eqItemS.l0
   repeat' first
   | (with_reducible exact ih0 _ _ _)
   | (with_reducible exact LeO.refl _)
   | (with_reducible exact LeO.none _)
   | (with_reducible refine LeO.ite ?_ ?_)
   | (with_reducible refine LeO.bind ?_ (fun _ => ?_))
   | exact ih0 _ _ _
   | exact LeO.none _
   | refine LeO.ite ?_ ?_
   | refine LeO.bind ?_ (fun _ => ?_)
theorem laws_eqItemS.mono : ∀ a0 a1 k, LeO (laws_eqItemS.f k a0 a1) (laws_eqItemS.f (k + 1) a0 a1) := by
 intro a0 a1 k
 have ih0 := laws_eqItemS.mono_l k
 unfold laws_eqItemS.f
 repeat' first
  | (with_reducible exact ih0 _ _ _)
  | (with_reducible exact LeO.refl _)
  | (with_reducible exact LeO.none _)
  | (with_reducible refine LeO.ite ?_ ?_)
  | (with_reducible refine LeO.bind ?_ (fun _ => ?_))
  | exact ih0 _ _ _
  | exact LeO.none _
  | refine LeO.ite ?_ ?_
  | refine LeO.bind ?_ (fun _ => ?_)
def laws_eqItemS.T6 : Bool × List (List Nat × List Nat) := (true, [([], []), ([], []), ([0, 1], [0, 1]), ([2], [2]), ([], []), ([], []), ([4, 5], [4, 5]), ([6], [6]), ([3, 7], [3, 7]), ([8], [8])])
def laws_eqItemS.B6 : List Nat := [0, 0, 3, 7, 0, 0, 48, 112, 255, 511]
theorem laws_eqItemS.tab6 : rtab .any (opsOf Try.f98 6) = laws_eqItemS.T6 := by kernel_rfl
theorem laws_eqItemS.bits6 : waitsOk laws_eqItemS.T6.2 laws_eqItemS.B6 = true := by kernel_rfl
set_option maxHeartbeats 8000000 in
set_option maxRecDepth 100000 in
theorem laws_eqItemS.calls (k : Nat) (A0 : Option Addr) (c0 : Nat) (l0 : List (S_Item)) (A1 : Option Addr) (c1 : Nat) (l1 : List (S_Item)) (r : Bool) (w : World) (hr0 : Kd.C k_Item w A0 l0.length l0) (hc0 : l0.length ≤ c0) (hr1 : Kd.C k_Item w A1 l1.length l1) (hc1 : l1.length ≤ c1) (h : laws_eqItemS.f k l0 l1 = some r) :
 Calls Try.prog 98 #[.slice A0 l0.length c0, .slice A1 l1.length c1] w fun e w' => e = .returned (.bool r) ∧ Below w.heap.size w w' := by
 have hu69 := Try.underlying69
 have HR0 := Aside0.mk hr0
 have HC0 := Aside0.mk hc0
 clear hr0 hc0
 have HR1 := Aside0.mk hr1
 have HC1 := Aside0.mk hc1
 clear hr1 hc1
 have HB := Aside0.mk (Below.refl w.heap.size w)
 have H : (if (l0.length : Int) = (l1.length : Int) then (laws_eqItemS.l0 k l0 l1 0) else (some false)) = some r := h
 clear h
 by_cases c3 : (l0.length : Int) = (l1.length : Int)
 ·
  rw [if_pos c3] at H
  have c3b0 : ((l0.length : Int) == (l1.length : Int)) = true := beq_iff_eq.mpr c3
  have c3b1 : ((l0.length : Int) != (l1.length : Int)) = false := bne_eq_false_iff_eq.mpr c3
  have c3b2 : (l0.length == l1.length) = true := by first | simpa using c3 | (simp at c3 ⊢; omega)
  clear c3
  have H' := Aside0.mk H
  clear H
  go_enter Try.func98, Try.ntmps98
  go_wp2
  go_loopg [5] k (fun kq v5 w' => ∃ (x5_1 : Int), v5 = .int .i64 x5_1 ∧ Aside0 (laws_eqItemS.l0 kq l0 l1 x5_1 = some r) ∧ Aside0 (kq ≤ k) ∧ Aside0 (Below w.heap.size w w'))
  case atStart => exact ⟨(0), (by first | rfl | (simp; done) | (simp [*]; done)), H', ⟨Nat.le_refl _⟩, ⟨hb_ HB.out⟩⟩
  case round =>
   clear H'
   (try clear c1); (try clear p2); (try clear c3); (try clear c3b0); (try clear c3b1); (try clear c3b2)
   obtain ⟨x5_1, rfl, HA, HK1, HB⟩ := hrel
   cases gk with
   | zero => exact absurd HA.out (by simp [laws_eqItemS.l0])
   | succ k1 =>
    have H := HA.out
    clear HA
    simp only [laws_eqItemS.l0] at H
    by_cases c4 : x5_1 < (l0.length : Int)
    ·
     rw [if_pos c4] at H
     have c4b0 : decide (x5_1 < (l0.length : Int)) = true := decide_eq_true c4
     clear c4
     by_cases c5 : 0 ≤ x5_1
     ·
      rw [if_pos c5] at H
      have c5b0 : decide (0 ≤ x5_1) = true := decide_eq_true c5
      clear c5
      by_cases c6 : x5_1 < (l1.length : Int)
      ·
       rw [if_pos c6] at H
       have c6b0 : decide (x5_1 < (l1.length : Int)) = true := decide_eq_true c6
       clear c6
       replace H := Option.bind_eq_some_iff.mp H
       obtain ⟨t593, A70, H⟩ := H
       replace H : (if t593 = true then (laws_eqItemS.l0 k1 l0 l1 (wrap64 (x5_1 + 1))) else (some false)) = some r := H
       have A7 := Aside0.mk A70
       clear A70
       by_cases c8 : t593 = true
       ·
        subst c8
        have H1 : (laws_eqItemS.l0 k1 l0 l1 (wrap64 (x5_1 + 1))) = some r := by rw [if_pos rfl] at H; exact H
        clear H
        have H := H1
        clear H1
        have H' := Aside0.mk H
        clear H
        try go_wp2
        have n0_ := Aside0.mk (below_drew1 HB.out)
        clear HB
        have HB := n0_
        clear n0_
        have p591 : 0 ≤ (x5_1 : Int) := of_decide_eq_true (by first | (with_reducible assumption) | assumption)
        have q591 : x5_1 < (l0.length : Int) := of_decide_eq_true (by first | (with_reducible assumption) | assumption)
        obtain ⟨ad591, e591, hx591_0, hx591_1, hx591_2, hx591_3, hx591_4⟩ := at_Item HR0.out x5_1 p591 q591
        have hw591_4 := hx591_4
        have hw591_3 := hx591_3
        have hw591_2 := hx591_2
        have hw591_1 := hx591_1
        have hw591_0 := hx591_0
        cases e591
        replace hx591_0 := (HB.out.cell (World.block_lt_of_cell? w _ hx591_0)).trans hx591_0
        replace hx591_1 := (HB.out.cell (World.block_lt_of_cell? w _ hx591_1)).trans hx591_1
        replace hx591_2 := (HB.out.cell (World.block_lt_of_cell? w _ hx591_2)).trans hx591_2
        replace hx591_3 := (HB.out.cell (World.block_lt_of_cell? w _ hx591_3)).trans hx591_3
        replace hx591_4 := (HB.out.cell (World.block_lt_of_cell? w _ hx591_4)).trans hx591_4
        replace p591 := eq_true p591
        replace q591 := eq_true q591
        have p592 : 0 ≤ (x5_1 : Int) := of_decide_eq_true (by first | (with_reducible assumption) | assumption)
        have q592 : x5_1 < (l1.length : Int) := of_decide_eq_true (by first | (with_reducible assumption) | assumption)
        obtain ⟨ad592, e592, hx592_0, hx592_1, hx592_2, hx592_3, hx592_4⟩ := at_Item HR1.out x5_1 p592 q592
        have hw592_4 := hx592_4
        have hw592_3 := hx592_3
        have hw592_2 := hx592_2
        have hw592_1 := hx592_1
        have hw592_0 := hx592_0
        cases e592
        replace hx592_0 := (HB.out.cell (World.block_lt_of_cell? w _ hx592_0)).trans hx592_0
        replace hx592_1 := (HB.out.cell (World.block_lt_of_cell? w _ hx592_1)).trans hx592_1
        replace hx592_2 := (HB.out.cell (World.block_lt_of_cell? w _ hx592_2)).trans hx592_2
        replace hx592_3 := (HB.out.cell (World.block_lt_of_cell? w _ hx592_3)).trans hx592_3
        replace hx592_4 := (HB.out.cell (World.block_lt_of_cell? w _ hx592_4)).trans hx592_4
        replace p592 := eq_true p592
        replace q592 := eq_true q592
        refine start_ (n := 10) (S := fun w' => w'.cell? (ad591.add ((x5_1).toNat * 5)) = some (.int .i64 ((rd_Item l0 x5_1).f0)) ∧ w'.cell? ⟨(ad591.add ((x5_1).toNat * 5)).block, (ad591.add ((x5_1).toNat * 5)).off + 1, none⟩ = some (.string ((rd_Item l0 x5_1).f1)) ∧ w'.cell? ⟨(ad591.add ((x5_1).toNat * 5)).block, (ad591.add ((x5_1).toNat * 5)).off + 2, none⟩ = some (.string ((rd_Item l0 x5_1).f2)) ∧ w'.cell? ⟨(ad591.add ((x5_1).toNat * 5)).block, (ad591.add ((x5_1).toNat * 5)).off + 3, none⟩ = some (.int .i64 ((rd_Item l0 x5_1).f3)) ∧ w'.cell? ⟨(ad591.add ((x5_1).toNat * 5)).block, (ad591.add ((x5_1).toNat * 5)).off + 4, none⟩ = some (.int .i64 ((rd_Item l0 x5_1).f4)) ∧ w'.cell? (ad592.add ((x5_1).toNat * 5)) = some (.int .i64 ((rd_Item l1 x5_1).f0)) ∧ w'.cell? ⟨(ad592.add ((x5_1).toNat * 5)).block, (ad592.add ((x5_1).toNat * 5)).off + 1, none⟩ = some (.string ((rd_Item l1 x5_1).f1)) ∧ w'.cell? ⟨(ad592.add ((x5_1).toNat * 5)).block, (ad592.add ((x5_1).toNat * 5)).off + 2, none⟩ = some (.string ((rd_Item l1 x5_1).f2)) ∧ w'.cell? ⟨(ad592.add ((x5_1).toNat * 5)).block, (ad592.add ((x5_1).toNat * 5)).off + 3, none⟩ = some (.int .i64 ((rd_Item l1 x5_1).f3)) ∧ w'.cell? ⟨(ad592.add ((x5_1).toNat * 5)).block, (ad592.add ((x5_1).toNat * 5)).off + 4, none⟩ = some (.int .i64 ((rd_Item l1 x5_1).f4))) (ds := []) laws_eqItemS.m0 (by kernel_rfl) rfl rfl ⟨((HB.out.cell (World.block_lt_of_cell? w _ hw591_0)).trans hw591_0), ((HB.out.cell (World.block_lt_of_cell? w _ hw591_1)).trans hw591_1), ((HB.out.cell (World.block_lt_of_cell? w _ hw591_2)).trans hw591_2), ((HB.out.cell (World.block_lt_of_cell? w _ hw591_3)).trans hw591_3), ((HB.out.cell (World.block_lt_of_cell? w _ hw591_4)).trans hw591_4), ((HB.out.cell (World.block_lt_of_cell? w _ hw592_0)).trans hw592_0), ((HB.out.cell (World.block_lt_of_cell? w _ hw592_1)).trans hw592_1), ((HB.out.cell (World.block_lt_of_cell? w _ hw592_2)).trans hw592_2), ((HB.out.cell (World.block_lt_of_cell? w _ hw592_3)).trans hw592_3), ((HB.out.cell (World.block_lt_of_cell? w _ hw592_4)).trans hw592_4)⟩ (fun hHeld => ?_); refine with_tabW laws_eqItemS.tab6 laws_eqItemS.bits6 (fun HT_ HW_ => ?_)
        generalize wr.drew = w9 at HB hx591_0 hx591_1 hx591_2 hx591_3 hx591_4 hx592_0 hx592_1 hx592_2 hx592_3 hx592_4 hHeld ⊢
        refine pI_ 0 17 HT_ laws_eqItemS.m1 rfl rfl ?_
        refine pI_ 1 18 HT_ laws_eqItemS.m2 rfl rfl ?_
        refine pI_ 2 19 HT_ laws_eqItemS.m3 rfl rfl ?_
        refine pI_ 4 21 HT_ laws_eqItemS.m4 rfl rfl ?_
        refine pI_ 5 22 HT_ laws_eqItemS.m5 rfl rfl ?_
        refine pI_ 6 23 HT_ laws_eqItemS.m6 rfl rfl ?_
        refine take_ (i := 3) (N := some 20) (v := ?_) (a' := ?_) laws_eqItemS.m7 rfl rfl (take_ofW HT_.out HW_.out (by kernel_rfl)) (fun _ _ _ h => h) (Or.inl ⟨by rfl, ?_⟩) hHeld ?_ ?_
        rotate_left
        ·
         rintro w' ⟨s0, s1, s2, s3, s4, s5, s6, s7, s8, s9⟩
         go_simp
         with_reducible rfl
        rotate_left; (focus simp only [Act.put, List.setIfInBounds_toArray, List.set_cons_zero, List.set_cons_succ, i64_w, i32_w]; rfl)
        refine take_ (i := 7) (N := some 24) (v := ?_) (a' := ?_) laws_eqItemS.m8 rfl rfl (take_ofW HT_.out HW_.out (by kernel_rfl)) (fun _ _ _ h => h) (Or.inl ⟨by rfl, ?_⟩) hHeld ?_ ?_
        rotate_left
        ·
         rintro w' ⟨s0, s1, s2, s3, s4, s5, s6, s7, s8, s9⟩
         go_simp
         with_reducible rfl
        rotate_left; (focus simp only [Act.put, List.setIfInBounds_toArray, List.set_cons_zero, List.set_cons_succ, i64_w, i32_w]; rfl)
        refine one_ (i := 8) (N := some 25) laws_eqItemS.m9 rfl rfl (one_of HT_.out (by kernel_rfl)) (by decide) (fun K hK => ?_)
        refine goes_ Try.func152 (by kernel_rfl) rfl #[.agg #[.int .i64 ((rd_Item l0 x5_1).f0), .string ((rd_Item l0 x5_1).f1), .string ((rd_Item l0 x5_1).f2), .int .i64 ((rd_Item l0 x5_1).f3), .int .i64 ((rd_Item l0 x5_1).f4)], .agg #[.int .i64 ((rd_Item l1 x5_1).f0), .string ((rd_Item l1 x5_1).f1), .string ((rd_Item l1 x5_1).f2), .int .i64 ((rd_Item l1 x5_1).f3), .int .i64 ((rd_Item l1 x5_1).f4)]] (by rfl) rfl rfl sm_ ?_
        with_reducible refine (laws_eqItem.calls ((rd_Item l0 x5_1).f0) ((rd_Item l0 x5_1).f1) ((rd_Item l0 x5_1).f2) ((rd_Item l0 x5_1).f3) ((rd_Item l0 x5_1).f4) ((rd_Item l1 x5_1).f0) ((rd_Item l1 x5_1).f1) ((rd_Item l1 x5_1).f2) ((rd_Item l1 x5_1).f3) ((rd_Item l1 x5_1).f4) true _ A7.out).mono ?_
        rintro e w10 ⟨rfl, hb⟩
        refine ⟨_, rfl, ?_⟩
        have n0_ := Aside0.mk (below_step (hb_ HB.out) hb)
        clear HB
        have HB := n0_
        clear n0_
        (try clear hb)
        (try clear hb2)
        (try clear hk)
        (try clear hi)
        refine hK.out _ _ ⟨((HB.out.cell (World.block_lt_of_cell? w _ hw591_0)).trans hw591_0), ((HB.out.cell (World.block_lt_of_cell? w _ hw591_1)).trans hw591_1), ((HB.out.cell (World.block_lt_of_cell? w _ hw591_2)).trans hw591_2), ((HB.out.cell (World.block_lt_of_cell? w _ hw591_3)).trans hw591_3), ((HB.out.cell (World.block_lt_of_cell? w _ hw591_4)).trans hw591_4), ((HB.out.cell (World.block_lt_of_cell? w _ hw592_0)).trans hw592_0), ((HB.out.cell (World.block_lt_of_cell? w _ hw592_1)).trans hw592_1), ((HB.out.cell (World.block_lt_of_cell? w _ hw592_2)).trans hw592_2), ((HB.out.cell (World.block_lt_of_cell? w _ hw592_3)).trans hw592_3), ((HB.out.cell (World.block_lt_of_cell? w _ hw592_4)).trans hw592_4)⟩ (fun hHeld => ?_)
        clear hK K
        refine norm_ (a' := ?_) ?_ ?_
        rotate_left
        ·
         show Act.put _ (some 25) _ = _
         simp only [Act.put, List.setIfInBounds_toArray, List.set_cons_zero, List.set_cons_succ, i64_w, i32_w]
         rfl
        refine pI_ 9 26 HT_ laws_eqItemS.m10 rfl rfl ?_
        refine done_ (done_of HT_.out (by kernel_rfl)) ?_
        try go_wp2
        go_roundg k1
        case measure => have := HK1.out; omega
        case rel => exact ⟨(wrap64 (x5_1 + 1)), (by first | rfl | (simp; done) | (simp [*]; done)), H', ⟨by have := HK1.out; omega⟩, ⟨hb_ HB.out⟩⟩
       ·
        replace c8 := Bool.eq_false_iff.mpr c8
        subst c8
        have H1 : (some false) = some r := by rw [if_neg (show ¬ (false = true) by decide)] at H; exact H
        clear H
        have H := H1
        clear H1
        obtain rfl := Option.some.inj H
        try go_wp2
        have n0_ := Aside0.mk (below_drew1 HB.out)
        clear HB
        have HB := n0_
        clear n0_
        have p591 : 0 ≤ (x5_1 : Int) := of_decide_eq_true (by first | (with_reducible assumption) | assumption)
        have q591 : x5_1 < (l0.length : Int) := of_decide_eq_true (by first | (with_reducible assumption) | assumption)
        obtain ⟨ad591, e591, hx591_0, hx591_1, hx591_2, hx591_3, hx591_4⟩ := at_Item HR0.out x5_1 p591 q591
        have hw591_4 := hx591_4
        have hw591_3 := hx591_3
        have hw591_2 := hx591_2
        have hw591_1 := hx591_1
        have hw591_0 := hx591_0
        cases e591
        replace hx591_0 := (HB.out.cell (World.block_lt_of_cell? w _ hx591_0)).trans hx591_0
        replace hx591_1 := (HB.out.cell (World.block_lt_of_cell? w _ hx591_1)).trans hx591_1
        replace hx591_2 := (HB.out.cell (World.block_lt_of_cell? w _ hx591_2)).trans hx591_2
        replace hx591_3 := (HB.out.cell (World.block_lt_of_cell? w _ hx591_3)).trans hx591_3
        replace hx591_4 := (HB.out.cell (World.block_lt_of_cell? w _ hx591_4)).trans hx591_4
        replace p591 := eq_true p591
        replace q591 := eq_true q591
        have p592 : 0 ≤ (x5_1 : Int) := of_decide_eq_true (by first | (with_reducible assumption) | assumption)
        have q592 : x5_1 < (l1.length : Int) := of_decide_eq_true (by first | (with_reducible assumption) | assumption)
        obtain ⟨ad592, e592, hx592_0, hx592_1, hx592_2, hx592_3, hx592_4⟩ := at_Item HR1.out x5_1 p592 q592
        have hw592_4 := hx592_4
        have hw592_3 := hx592_3
        have hw592_2 := hx592_2
        have hw592_1 := hx592_1
        have hw592_0 := hx592_0
        cases e592
        replace hx592_0 := (HB.out.cell (World.block_lt_of_cell? w _ hx592_0)).trans hx592_0
        replace hx592_1 := (HB.out.cell (World.block_lt_of_cell? w _ hx592_1)).trans hx592_1
        replace hx592_2 := (HB.out.cell (World.block_lt_of_cell? w _ hx592_2)).trans hx592_2
        replace hx592_3 := (HB.out.cell (World.block_lt_of_cell? w _ hx592_3)).trans hx592_3
        replace hx592_4 := (HB.out.cell (World.block_lt_of_cell? w _ hx592_4)).trans hx592_4
        replace p592 := eq_true p592
        replace q592 := eq_true q592
        refine start_ (n := 10) (S := fun w' => w'.cell? (ad591.add ((x5_1).toNat * 5)) = some (.int .i64 ((rd_Item l0 x5_1).f0)) ∧ w'.cell? ⟨(ad591.add ((x5_1).toNat * 5)).block, (ad591.add ((x5_1).toNat * 5)).off + 1, none⟩ = some (.string ((rd_Item l0 x5_1).f1)) ∧ w'.cell? ⟨(ad591.add ((x5_1).toNat * 5)).block, (ad591.add ((x5_1).toNat * 5)).off + 2, none⟩ = some (.string ((rd_Item l0 x5_1).f2)) ∧ w'.cell? ⟨(ad591.add ((x5_1).toNat * 5)).block, (ad591.add ((x5_1).toNat * 5)).off + 3, none⟩ = some (.int .i64 ((rd_Item l0 x5_1).f3)) ∧ w'.cell? ⟨(ad591.add ((x5_1).toNat * 5)).block, (ad591.add ((x5_1).toNat * 5)).off + 4, none⟩ = some (.int .i64 ((rd_Item l0 x5_1).f4)) ∧ w'.cell? (ad592.add ((x5_1).toNat * 5)) = some (.int .i64 ((rd_Item l1 x5_1).f0)) ∧ w'.cell? ⟨(ad592.add ((x5_1).toNat * 5)).block, (ad592.add ((x5_1).toNat * 5)).off + 1, none⟩ = some (.string ((rd_Item l1 x5_1).f1)) ∧ w'.cell? ⟨(ad592.add ((x5_1).toNat * 5)).block, (ad592.add ((x5_1).toNat * 5)).off + 2, none⟩ = some (.string ((rd_Item l1 x5_1).f2)) ∧ w'.cell? ⟨(ad592.add ((x5_1).toNat * 5)).block, (ad592.add ((x5_1).toNat * 5)).off + 3, none⟩ = some (.int .i64 ((rd_Item l1 x5_1).f3)) ∧ w'.cell? ⟨(ad592.add ((x5_1).toNat * 5)).block, (ad592.add ((x5_1).toNat * 5)).off + 4, none⟩ = some (.int .i64 ((rd_Item l1 x5_1).f4))) (ds := []) laws_eqItemS.m0 (by kernel_rfl) rfl rfl ⟨((HB.out.cell (World.block_lt_of_cell? w _ hw591_0)).trans hw591_0), ((HB.out.cell (World.block_lt_of_cell? w _ hw591_1)).trans hw591_1), ((HB.out.cell (World.block_lt_of_cell? w _ hw591_2)).trans hw591_2), ((HB.out.cell (World.block_lt_of_cell? w _ hw591_3)).trans hw591_3), ((HB.out.cell (World.block_lt_of_cell? w _ hw591_4)).trans hw591_4), ((HB.out.cell (World.block_lt_of_cell? w _ hw592_0)).trans hw592_0), ((HB.out.cell (World.block_lt_of_cell? w _ hw592_1)).trans hw592_1), ((HB.out.cell (World.block_lt_of_cell? w _ hw592_2)).trans hw592_2), ((HB.out.cell (World.block_lt_of_cell? w _ hw592_3)).trans hw592_3), ((HB.out.cell (World.block_lt_of_cell? w _ hw592_4)).trans hw592_4)⟩ (fun hHeld => ?_); refine with_tabW laws_eqItemS.tab6 laws_eqItemS.bits6 (fun HT_ HW_ => ?_)
        generalize wr.drew = w11 at HB hx591_0 hx591_1 hx591_2 hx591_3 hx591_4 hx592_0 hx592_1 hx592_2 hx592_3 hx592_4 hHeld ⊢
        refine pI_ 0 17 HT_ laws_eqItemS.m1 rfl rfl ?_
        refine pI_ 1 18 HT_ laws_eqItemS.m2 rfl rfl ?_
        refine pI_ 2 19 HT_ laws_eqItemS.m3 rfl rfl ?_
        refine pI_ 4 21 HT_ laws_eqItemS.m4 rfl rfl ?_
        refine pI_ 5 22 HT_ laws_eqItemS.m5 rfl rfl ?_
        refine pI_ 6 23 HT_ laws_eqItemS.m6 rfl rfl ?_
        refine take_ (i := 3) (N := some 20) (v := ?_) (a' := ?_) laws_eqItemS.m7 rfl rfl (take_ofW HT_.out HW_.out (by kernel_rfl)) (fun _ _ _ h => h) (Or.inl ⟨by rfl, ?_⟩) hHeld ?_ ?_
        rotate_left
        ·
         rintro w' ⟨s0, s1, s2, s3, s4, s5, s6, s7, s8, s9⟩
         go_simp
         with_reducible rfl
        rotate_left; (focus simp only [Act.put, List.setIfInBounds_toArray, List.set_cons_zero, List.set_cons_succ, i64_w, i32_w]; rfl)
        refine take_ (i := 7) (N := some 24) (v := ?_) (a' := ?_) laws_eqItemS.m8 rfl rfl (take_ofW HT_.out HW_.out (by kernel_rfl)) (fun _ _ _ h => h) (Or.inl ⟨by rfl, ?_⟩) hHeld ?_ ?_
        rotate_left
        ·
         rintro w' ⟨s0, s1, s2, s3, s4, s5, s6, s7, s8, s9⟩
         go_simp
         with_reducible rfl
        rotate_left; (focus simp only [Act.put, List.setIfInBounds_toArray, List.set_cons_zero, List.set_cons_succ, i64_w, i32_w]; rfl)
        refine one_ (i := 8) (N := some 25) laws_eqItemS.m9 rfl rfl (one_of HT_.out (by kernel_rfl)) (by decide) (fun K hK => ?_)
        refine goes_ Try.func152 (by kernel_rfl) rfl #[.agg #[.int .i64 ((rd_Item l0 x5_1).f0), .string ((rd_Item l0 x5_1).f1), .string ((rd_Item l0 x5_1).f2), .int .i64 ((rd_Item l0 x5_1).f3), .int .i64 ((rd_Item l0 x5_1).f4)], .agg #[.int .i64 ((rd_Item l1 x5_1).f0), .string ((rd_Item l1 x5_1).f1), .string ((rd_Item l1 x5_1).f2), .int .i64 ((rd_Item l1 x5_1).f3), .int .i64 ((rd_Item l1 x5_1).f4)]] (by rfl) rfl rfl sm_ ?_
        with_reducible refine (laws_eqItem.calls ((rd_Item l0 x5_1).f0) ((rd_Item l0 x5_1).f1) ((rd_Item l0 x5_1).f2) ((rd_Item l0 x5_1).f3) ((rd_Item l0 x5_1).f4) ((rd_Item l1 x5_1).f0) ((rd_Item l1 x5_1).f1) ((rd_Item l1 x5_1).f2) ((rd_Item l1 x5_1).f3) ((rd_Item l1 x5_1).f4) false _ A7.out).mono ?_
        rintro e w12 ⟨rfl, hb⟩
        refine ⟨_, rfl, ?_⟩
        have n0_ := Aside0.mk (below_step (hb_ HB.out) hb)
        clear HB
        have HB := n0_
        clear n0_
        (try clear hb)
        (try clear hb2)
        (try clear hk)
        (try clear hi)
        refine hK.out _ _ ⟨((HB.out.cell (World.block_lt_of_cell? w _ hw591_0)).trans hw591_0), ((HB.out.cell (World.block_lt_of_cell? w _ hw591_1)).trans hw591_1), ((HB.out.cell (World.block_lt_of_cell? w _ hw591_2)).trans hw591_2), ((HB.out.cell (World.block_lt_of_cell? w _ hw591_3)).trans hw591_3), ((HB.out.cell (World.block_lt_of_cell? w _ hw591_4)).trans hw591_4), ((HB.out.cell (World.block_lt_of_cell? w _ hw592_0)).trans hw592_0), ((HB.out.cell (World.block_lt_of_cell? w _ hw592_1)).trans hw592_1), ((HB.out.cell (World.block_lt_of_cell? w _ hw592_2)).trans hw592_2), ((HB.out.cell (World.block_lt_of_cell? w _ hw592_3)).trans hw592_3), ((HB.out.cell (World.block_lt_of_cell? w _ hw592_4)).trans hw592_4)⟩ (fun hHeld => ?_)
        clear hK K
        refine norm_ (a' := ?_) ?_ ?_
        rotate_left
        ·
         show Act.put _ (some 25) _ = _
         simp only [Act.put, List.setIfInBounds_toArray, List.set_cons_zero, List.set_cons_succ, i64_w, i32_w]
         rfl
        refine pI_ 9 26 HT_ laws_eqItemS.m10 rfl rfl ?_
        refine done_ (done_of HT_.out (by kernel_rfl)) ?_
        try go_wp2
        go_ret
        exact ⟨by first | rfl | (simp [errW_none, errW_some] <;> rfl) | (simp [*, errW_none, errW_some] <;> rfl), hb_ HB.out⟩
      ·
       rw [if_neg c6] at H
       exact absurd H (by simp)
     ·
      rw [if_neg c5] at H
      exact absurd H (by simp)
    ·
     rw [if_neg c4] at H
     have c4b0 : decide (x5_1 < (l0.length : Int)) = false := decide_eq_false c4
     clear c4
     obtain rfl := Option.some.inj H
     go_wp2
     go_ret
     exact ⟨by first | rfl | (simp [errW_none, errW_some] <;> rfl) | (simp [*, errW_none, errW_some] <;> rfl), hb_ HB.out⟩
 ·
  rw [if_neg c3] at H
  have c3b0 : ((l0.length : Int) == (l1.length : Int)) = false := beq_eq_false_iff_ne.mpr c3
  have c3b1 : ((l0.length : Int) != (l1.length : Int)) = true := bne_iff_ne.mpr c3
  have c3b2 : (l0.length == l1.length) = false := by first | simpa using c3 | (simp at c3 ⊢; omega)
  obtain rfl := Option.some.inj H
  go_enter Try.func98, Try.ntmps98
  go_wp2
  go_ret
  exact ⟨by first | rfl | (simp [errW_none, errW_some] <;> rfl) | (simp [*, errW_none, errW_some] <;> rfl), hb_ HB.out⟩

/-! ### laws_eqRow: function 33 -/
def laws_eqRow.f (k : Nat) (a0_0 : Int) (a0_1 : Int) (l0_2 : List (S_Item)) (a1_0 : Int) (a1_1 : Int) (l1_2 : List (S_Item)) : Option (Bool) := if a0_0 = a1_0 then (if a0_1 = a1_1 then ((laws_eqItemS.f k l0_2 l1_2).bind fun t596 => (if t596 = true then (some true) else (some false))) else (some false)) else (some false)
theorem laws_eqRow.mono : ∀ a0 a1 a2 a3 a4 a5 k, LeO (laws_eqRow.f k a0 a1 a2 a3 a4 a5) (laws_eqRow.f (k + 1) a0 a1 a2 a3 a4 a5) := by
 intro a0 a1 a2 a3 a4 a5 k
 unfold laws_eqRow.f
 repeat' first
  | (with_reducible exact laws_eqItemS.mono _ _ _)
  | (with_reducible exact LeO.refl _)
  | (with_reducible exact LeO.none _)
  | (with_reducible refine LeO.ite ?_ ?_)
  | (with_reducible refine LeO.bind ?_ (fun _ => ?_))
  | exact laws_eqItemS.mono _ _ _
  | exact LeO.none _
  | refine LeO.ite ?_ ?_
  | refine LeO.bind ?_ (fun _ => ?_)
set_option maxHeartbeats 8000000 in
set_option maxRecDepth 100000 in
theorem laws_eqRow.calls (k : Nat) (a0_0 : Int) (a0_1 : Int) (A0_2 : Option Addr) (c0_2 : Nat) (l0_2 : List (S_Item)) (a1_0 : Int) (a1_1 : Int) (A1_2 : Option Addr) (c1_2 : Nat) (l1_2 : List (S_Item)) (r : Bool) (w : World) (hr0_2 : Kd.C k_Item w A0_2 l0_2.length l0_2) (hc0_2 : l0_2.length ≤ c0_2) (hr1_2 : Kd.C k_Item w A1_2 l1_2.length l1_2) (hc1_2 : l1_2.length ≤ c1_2) (h : laws_eqRow.f k a0_0 a0_1 l0_2 a1_0 a1_1 l1_2 = some r) :
 Calls Try.prog 33 #[.agg #[.int .i64 a0_0, .int .i64 a0_1, .slice A0_2 l0_2.length c0_2], .agg #[.int .i64 a1_0, .int .i64 a1_1, .slice A1_2 l1_2.length c1_2]] w fun e w' => e = .returned (.bool r) ∧ Below w.heap.size w w' := by
 have hu57 := Try.underlying57
 have HR0_2 := Aside0.mk hr0_2
 have HC0_2 := Aside0.mk hc0_2
 clear hr0_2 hc0_2
 have HR1_2 := Aside0.mk hr1_2
 have HC1_2 := Aside0.mk hc1_2
 clear hr1_2 hc1_2
 have HB := Aside0.mk (Below.refl w.heap.size w)
 have H : (if a0_0 = a1_0 then (if a0_1 = a1_1 then ((laws_eqItemS.f k l0_2 l1_2).bind fun t596 => (if t596 = true then (some true) else (some false))) else (some false)) else (some false)) = some r := h
 clear h
 by_cases c3 : a0_0 = a1_0
 ·
  rw [if_pos c3] at H
  have c3b0 : (a0_0 == a1_0) = true := beq_iff_eq.mpr c3
  have c3b1 : (a0_0 != a1_0) = false := bne_eq_false_iff_eq.mpr c3
  clear c3
  by_cases c4 : a0_1 = a1_1
  ·
   rw [if_pos c4] at H
   have c4b0 : (a0_1 == a1_1) = true := beq_iff_eq.mpr c4
   have c4b1 : (a0_1 != a1_1) = false := bne_eq_false_iff_eq.mpr c4
   clear c4
   replace H := Option.bind_eq_some_iff.mp H
   obtain ⟨t596, A50, H⟩ := H
   replace H : (if t596 = true then (some true) else (some false)) = some r := H
   have A5 := Aside0.mk A50
   clear A50
   by_cases c6 : t596 = true
   ·
    subst c6
    have H1 : (some true) = some r := by rw [if_pos rfl] at H; exact H
    clear H
    have H := H1
    clear H1
    obtain rfl := Option.some.inj H
    go_enter Try.func33, Try.ntmps33
    go_wp2_with (first | ((with_reducible refine gate_dst (N := 2) rfl ?_); refine box_event ?hg (N := 2) ?hd (cs := #[.int .i64 a0_0, .int .i64 a0_1, .slice A0_2 l0_2.length c0_2]) (t := 57) ?hr ?_; (case hd => rfl); (case hg => rfl); (case hr => first | (go_simp; done) | (go_simp; rfl)); intro gb594 hg w7 hbox hb; have n0_ := Aside0.mk (below_step (hb_ HB.out) hb); have n1_ := Aside0.mk (hbox); have n2_ := Aside0.mk ((by rw [hg]; exact (below_size (hb_ HB.out)) : w.heap.size ≤ gb594)); have n3_ := Aside0.mk ((by rw [hg]; exact (below_size (hb_ HB.out)) : w.heap.size ≤ gb594)); clear HB; have HB := n0_; have BK594 := n1_; have GW594 := n2_; have GE594 := n3_; clear n0_ n1_ n2_ n3_; clear hb hbox hg) | ((with_reducible refine gate_dst (N := 3) rfl ?_); refine box_event ?hg (N := 3) ?hd (cs := #[.int .i64 a1_0, .int .i64 a1_1, .slice A1_2 l1_2.length c1_2]) (t := 57) ?hr ?_; (case hd => rfl); (case hg => rfl); (case hr => first | (go_simp; done) | (go_simp; rfl)); intro gb595 hg w8 hbox hb; have n0_ := Aside0.mk (bb_ BK594.out hb); have n1_ := Aside0.mk (below_step (hb_ HB.out) hb); have n2_ := Aside0.mk (hbox); have n3_ := Aside0.mk ((by rw [hg]; exact (below_size (hb_ HB.out)) : w.heap.size ≤ gb595)); have n4_ := Aside0.mk ((by rw [hg]; exact (below_size (hb_ HB.out)) : w.heap.size ≤ gb595)); have n5_ := Aside0.mk ((by rw [hg]; exact Nat.ne_of_lt (blk_lt (g := gb594) (o := .cells #[.int .i64 a0_0, .int .i64 a0_1, .slice A0_2 l0_2.length c0_2] 57 (0, 0)) (bq_ BK594.out)) : gb594 ≠ gb595)); have n6_ := Aside0.mk ((by rw [hg]; exact Nat.ne_of_gt (blk_lt (g := gb594) (o := .cells #[.int .i64 a0_0, .int .i64 a0_1, .slice A0_2 l0_2.length c0_2] 57 (0, 0)) (bq_ BK594.out)) : gb595 ≠ gb594)); clear BK594; clear HB; have BK594 := n0_; have HB := n1_; have BK595 := n2_; have GW595 := n3_; have GE595 := n4_; have NB594_595 := n5_; have NB595_594 := n6_; clear n0_ n1_ n2_ n3_ n4_ n5_ n6_; clear hb hbox hg; have hnb9 := NB594_595.out; have hnc9 := NB595_594.out; have hcz10_0 : w8.cell? ⟨gb594, 0, none⟩ = some (.int .i64 a0_0) := (blk_cell BK594.out 0).trans rfl; have hcz10_1 : w8.cell? ⟨gb594, 1, none⟩ = some (.int .i64 a0_1) := (blk_cell BK594.out 1).trans rfl; have hcz10_2 : w8.cell? ⟨gb594, 2, none⟩ = some (.slice A0_2 l0_2.length c0_2) := (blk_cell BK594.out 2).trans rfl; have hfz10_0 := blk_frozen BK594.out 0; have hfz10_1 := blk_frozen BK594.out 1; have hfz10_2 := blk_frozen BK594.out 2; have hcz11_0 : w8.cell? ⟨gb595, 0, none⟩ = some (.int .i64 a1_0) := (blk_cell BK595.out 0).trans rfl; have hcz11_1 : w8.cell? ⟨gb595, 1, none⟩ = some (.int .i64 a1_1) := (blk_cell BK595.out 1).trans rfl; have hcz11_2 : w8.cell? ⟨gb595, 2, none⟩ = some (.slice A1_2 l1_2.length c1_2) := (blk_cell BK595.out 2).trans rfl; have hfz11_0 := blk_frozen BK595.out 0; have hfz11_1 := blk_frozen BK595.out 1; have hfz11_2 := blk_frozen BK595.out 2) | ((with_reducible refine gate_callee (f := 98) rfl ?_); refine goesL_ (some 19) rfl rfl Try.func98 (by kernel_rfl) rfl #[.slice A0_2 l0_2.length c0_2, .slice A1_2 l1_2.length c1_2] rfl sm_ ?_; (with_reducible refine (laws_eqItemS.calls k _ _ l0_2 _ _ l1_2 true _ ?side1 ?side2 ?side3 ?side4 A5.out).mono ?_); (case side1 => repeat (first | exact (Kd.C_below HR0_2.out HB.out) | (with_reducible refine Kd.C_alloc ?_ _) | (with_reducible refine Kd.C_drewN ?_ _) | (with_reducible refine Kd.C_drew ?_))); (case side2 => exact HC0_2.out); (case side3 => repeat (first | exact (Kd.C_below HR1_2.out HB.out) | (with_reducible refine Kd.C_alloc ?_ _) | (with_reducible refine Kd.C_drewN ?_ _) | (with_reducible refine Kd.C_drew ?_))); (case side4 => exact HC1_2.out); rintro e w12 ⟨rfl, hb⟩; refine ⟨_, rfl, ?_⟩; have n0_ := Aside0.mk (bb_ BK594.out hb); have n1_ := Aside0.mk (bb_ BK595.out hb); have n2_ := Aside0.mk (below_step (hb_ HB.out) hb); clear BK594; clear BK595; clear HB; have BK594 := n0_; have BK595 := n1_; have HB := n2_; clear n0_ n1_ n2_; (try clear hb); (try clear hb2); (try clear hk); (try clear hi)))
    go_ret
    exact ⟨by first | rfl | (simp [errW_none, errW_some] <;> rfl) | (simp [*, errW_none, errW_some] <;> rfl), hb_ HB.out⟩
   ·
    replace c6 := Bool.eq_false_iff.mpr c6
    subst c6
    have H1 : (some false) = some r := by rw [if_neg (show ¬ (false = true) by decide)] at H; exact H
    clear H
    have H := H1
    clear H1
    obtain rfl := Option.some.inj H
    go_enter Try.func33, Try.ntmps33
    go_wp2_with (first | ((with_reducible refine gate_dst (N := 2) rfl ?_); refine box_event ?hg (N := 2) ?hd (cs := #[.int .i64 a0_0, .int .i64 a0_1, .slice A0_2 l0_2.length c0_2]) (t := 57) ?hr ?_; (case hd => rfl); (case hg => rfl); (case hr => first | (go_simp; done) | (go_simp; rfl)); intro gb594 hg w13 hbox hb; have n0_ := Aside0.mk (below_step (hb_ HB.out) hb); have n1_ := Aside0.mk (hbox); have n2_ := Aside0.mk ((by rw [hg]; exact (below_size (hb_ HB.out)) : w.heap.size ≤ gb594)); have n3_ := Aside0.mk ((by rw [hg]; exact (below_size (hb_ HB.out)) : w.heap.size ≤ gb594)); clear HB; have HB := n0_; have BK594 := n1_; have GW594 := n2_; have GE594 := n3_; clear n0_ n1_ n2_ n3_; clear hb hbox hg) | ((with_reducible refine gate_dst (N := 3) rfl ?_); refine box_event ?hg (N := 3) ?hd (cs := #[.int .i64 a1_0, .int .i64 a1_1, .slice A1_2 l1_2.length c1_2]) (t := 57) ?hr ?_; (case hd => rfl); (case hg => rfl); (case hr => first | (go_simp; done) | (go_simp; rfl)); intro gb595 hg w14 hbox hb; have n0_ := Aside0.mk (bb_ BK594.out hb); have n1_ := Aside0.mk (below_step (hb_ HB.out) hb); have n2_ := Aside0.mk (hbox); have n3_ := Aside0.mk ((by rw [hg]; exact (below_size (hb_ HB.out)) : w.heap.size ≤ gb595)); have n4_ := Aside0.mk ((by rw [hg]; exact (below_size (hb_ HB.out)) : w.heap.size ≤ gb595)); have n5_ := Aside0.mk ((by rw [hg]; exact Nat.ne_of_lt (blk_lt (g := gb594) (o := .cells #[.int .i64 a0_0, .int .i64 a0_1, .slice A0_2 l0_2.length c0_2] 57 (0, 0)) (bq_ BK594.out)) : gb594 ≠ gb595)); have n6_ := Aside0.mk ((by rw [hg]; exact Nat.ne_of_gt (blk_lt (g := gb594) (o := .cells #[.int .i64 a0_0, .int .i64 a0_1, .slice A0_2 l0_2.length c0_2] 57 (0, 0)) (bq_ BK594.out)) : gb595 ≠ gb594)); clear BK594; clear HB; have BK594 := n0_; have HB := n1_; have BK595 := n2_; have GW595 := n3_; have GE595 := n4_; have NB594_595 := n5_; have NB595_594 := n6_; clear n0_ n1_ n2_ n3_ n4_ n5_ n6_; clear hb hbox hg; have hnb15 := NB594_595.out; have hnc15 := NB595_594.out; have hcz16_0 : w14.cell? ⟨gb594, 0, none⟩ = some (.int .i64 a0_0) := (blk_cell BK594.out 0).trans rfl; have hcz16_1 : w14.cell? ⟨gb594, 1, none⟩ = some (.int .i64 a0_1) := (blk_cell BK594.out 1).trans rfl; have hcz16_2 : w14.cell? ⟨gb594, 2, none⟩ = some (.slice A0_2 l0_2.length c0_2) := (blk_cell BK594.out 2).trans rfl; have hfz16_0 := blk_frozen BK594.out 0; have hfz16_1 := blk_frozen BK594.out 1; have hfz16_2 := blk_frozen BK594.out 2; have hcz17_0 : w14.cell? ⟨gb595, 0, none⟩ = some (.int .i64 a1_0) := (blk_cell BK595.out 0).trans rfl; have hcz17_1 : w14.cell? ⟨gb595, 1, none⟩ = some (.int .i64 a1_1) := (blk_cell BK595.out 1).trans rfl; have hcz17_2 : w14.cell? ⟨gb595, 2, none⟩ = some (.slice A1_2 l1_2.length c1_2) := (blk_cell BK595.out 2).trans rfl; have hfz17_0 := blk_frozen BK595.out 0; have hfz17_1 := blk_frozen BK595.out 1; have hfz17_2 := blk_frozen BK595.out 2) | ((with_reducible refine gate_callee (f := 98) rfl ?_); refine goesL_ (some 19) rfl rfl Try.func98 (by kernel_rfl) rfl #[.slice A0_2 l0_2.length c0_2, .slice A1_2 l1_2.length c1_2] rfl sm_ ?_; (with_reducible refine (laws_eqItemS.calls k _ _ l0_2 _ _ l1_2 false _ ?side1 ?side2 ?side3 ?side4 A5.out).mono ?_); (case side1 => repeat (first | exact (Kd.C_below HR0_2.out HB.out) | (with_reducible refine Kd.C_alloc ?_ _) | (with_reducible refine Kd.C_drewN ?_ _) | (with_reducible refine Kd.C_drew ?_))); (case side2 => exact HC0_2.out); (case side3 => repeat (first | exact (Kd.C_below HR1_2.out HB.out) | (with_reducible refine Kd.C_alloc ?_ _) | (with_reducible refine Kd.C_drewN ?_ _) | (with_reducible refine Kd.C_drew ?_))); (case side4 => exact HC1_2.out); rintro e w18 ⟨rfl, hb⟩; refine ⟨_, rfl, ?_⟩; have n0_ := Aside0.mk (bb_ BK594.out hb); have n1_ := Aside0.mk (bb_ BK595.out hb); have n2_ := Aside0.mk (below_step (hb_ HB.out) hb); clear BK594; clear BK595; clear HB; have BK594 := n0_; have BK595 := n1_; have HB := n2_; clear n0_ n1_ n2_; (try clear hb); (try clear hb2); (try clear hk); (try clear hi)))
    go_ret
    exact ⟨by first | rfl | (simp [errW_none, errW_some] <;> rfl) | (simp [*, errW_none, errW_some] <;> rfl), hb_ HB.out⟩
  ·
   rw [if_neg c4] at H
   have c4b0 : (a0_1 == a1_1) = false := beq_eq_false_iff_ne.mpr c4
   have c4b1 : (a0_1 != a1_1) = true := bne_iff_ne.mpr c4
   obtain rfl := Option.some.inj H
   go_enter Try.func33, Try.ntmps33
   go_wp2_with (first | ((with_reducible refine gate_dst (N := 2) rfl ?_); refine box_event ?hg (N := 2) ?hd (cs := #[.int .i64 a0_0, .int .i64 a0_1, .slice A0_2 l0_2.length c0_2]) (t := 57) ?hr ?_; (case hd => rfl); (case hg => rfl); (case hr => first | (go_simp; done) | (go_simp; rfl)); intro gb594 hg w19 hbox hb; have n0_ := Aside0.mk (below_step (hb_ HB.out) hb); have n1_ := Aside0.mk (hbox); have n2_ := Aside0.mk ((by rw [hg]; exact (below_size (hb_ HB.out)) : w.heap.size ≤ gb594)); have n3_ := Aside0.mk ((by rw [hg]; exact (below_size (hb_ HB.out)) : w.heap.size ≤ gb594)); clear HB; have HB := n0_; have BK594 := n1_; have GW594 := n2_; have GE594 := n3_; clear n0_ n1_ n2_ n3_; clear hb hbox hg) | ((with_reducible refine gate_dst (N := 3) rfl ?_); refine box_event ?hg (N := 3) ?hd (cs := #[.int .i64 a1_0, .int .i64 a1_1, .slice A1_2 l1_2.length c1_2]) (t := 57) ?hr ?_; (case hd => rfl); (case hg => rfl); (case hr => first | (go_simp; done) | (go_simp; rfl)); intro gb595 hg w20 hbox hb; have n0_ := Aside0.mk (bb_ BK594.out hb); have n1_ := Aside0.mk (below_step (hb_ HB.out) hb); have n2_ := Aside0.mk (hbox); have n3_ := Aside0.mk ((by rw [hg]; exact (below_size (hb_ HB.out)) : w.heap.size ≤ gb595)); have n4_ := Aside0.mk ((by rw [hg]; exact (below_size (hb_ HB.out)) : w.heap.size ≤ gb595)); have n5_ := Aside0.mk ((by rw [hg]; exact Nat.ne_of_lt (blk_lt (g := gb594) (o := .cells #[.int .i64 a0_0, .int .i64 a0_1, .slice A0_2 l0_2.length c0_2] 57 (0, 0)) (bq_ BK594.out)) : gb594 ≠ gb595)); have n6_ := Aside0.mk ((by rw [hg]; exact Nat.ne_of_gt (blk_lt (g := gb594) (o := .cells #[.int .i64 a0_0, .int .i64 a0_1, .slice A0_2 l0_2.length c0_2] 57 (0, 0)) (bq_ BK594.out)) : gb595 ≠ gb594)); clear BK594; clear HB; have BK594 := n0_; have HB := n1_; have BK595 := n2_; have GW595 := n3_; have GE595 := n4_; have NB594_595 := n5_; have NB595_594 := n6_; clear n0_ n1_ n2_ n3_ n4_ n5_ n6_; clear hb hbox hg; have hnb21 := NB594_595.out; have hnc21 := NB595_594.out; have hcz22_0 : w20.cell? ⟨gb594, 0, none⟩ = some (.int .i64 a0_0) := (blk_cell BK594.out 0).trans rfl; have hcz22_1 : w20.cell? ⟨gb594, 1, none⟩ = some (.int .i64 a0_1) := (blk_cell BK594.out 1).trans rfl; have hcz22_2 : w20.cell? ⟨gb594, 2, none⟩ = some (.slice A0_2 l0_2.length c0_2) := (blk_cell BK594.out 2).trans rfl; have hfz22_0 := blk_frozen BK594.out 0; have hfz22_1 := blk_frozen BK594.out 1; have hfz22_2 := blk_frozen BK594.out 2; have hcz23_0 : w20.cell? ⟨gb595, 0, none⟩ = some (.int .i64 a1_0) := (blk_cell BK595.out 0).trans rfl; have hcz23_1 : w20.cell? ⟨gb595, 1, none⟩ = some (.int .i64 a1_1) := (blk_cell BK595.out 1).trans rfl; have hcz23_2 : w20.cell? ⟨gb595, 2, none⟩ = some (.slice A1_2 l1_2.length c1_2) := (blk_cell BK595.out 2).trans rfl; have hfz23_0 := blk_frozen BK595.out 0; have hfz23_1 := blk_frozen BK595.out 1; have hfz23_2 := blk_frozen BK595.out 2))
   go_ret
   exact ⟨by first | rfl | (simp [errW_none, errW_some] <;> rfl) | (simp [*, errW_none, errW_some] <;> rfl), hb_ HB.out⟩
 ·
  rw [if_neg c3] at H
  have c3b0 : (a0_0 == a1_0) = false := beq_eq_false_iff_ne.mpr c3
  have c3b1 : (a0_0 != a1_0) = true := bne_iff_ne.mpr c3
  obtain rfl := Option.some.inj H
  go_enter Try.func33, Try.ntmps33
  go_wp2_with (first | ((with_reducible refine gate_dst (N := 2) rfl ?_); refine box_event ?hg (N := 2) ?hd (cs := #[.int .i64 a0_0, .int .i64 a0_1, .slice A0_2 l0_2.length c0_2]) (t := 57) ?hr ?_; (case hd => rfl); (case hg => rfl); (case hr => first | (go_simp; done) | (go_simp; rfl)); intro gb594 hg w24 hbox hb; have n0_ := Aside0.mk (below_step (hb_ HB.out) hb); have n1_ := Aside0.mk (hbox); have n2_ := Aside0.mk ((by rw [hg]; exact (below_size (hb_ HB.out)) : w.heap.size ≤ gb594)); have n3_ := Aside0.mk ((by rw [hg]; exact (below_size (hb_ HB.out)) : w.heap.size ≤ gb594)); clear HB; have HB := n0_; have BK594 := n1_; have GW594 := n2_; have GE594 := n3_; clear n0_ n1_ n2_ n3_; clear hb hbox hg) | ((with_reducible refine gate_dst (N := 3) rfl ?_); refine box_event ?hg (N := 3) ?hd (cs := #[.int .i64 a1_0, .int .i64 a1_1, .slice A1_2 l1_2.length c1_2]) (t := 57) ?hr ?_; (case hd => rfl); (case hg => rfl); (case hr => first | (go_simp; done) | (go_simp; rfl)); intro gb595 hg w25 hbox hb; have n0_ := Aside0.mk (bb_ BK594.out hb); have n1_ := Aside0.mk (below_step (hb_ HB.out) hb); have n2_ := Aside0.mk (hbox); have n3_ := Aside0.mk ((by rw [hg]; exact (below_size (hb_ HB.out)) : w.heap.size ≤ gb595)); have n4_ := Aside0.mk ((by rw [hg]; exact (below_size (hb_ HB.out)) : w.heap.size ≤ gb595)); have n5_ := Aside0.mk ((by rw [hg]; exact Nat.ne_of_lt (blk_lt (g := gb594) (o := .cells #[.int .i64 a0_0, .int .i64 a0_1, .slice A0_2 l0_2.length c0_2] 57 (0, 0)) (bq_ BK594.out)) : gb594 ≠ gb595)); have n6_ := Aside0.mk ((by rw [hg]; exact Nat.ne_of_gt (blk_lt (g := gb594) (o := .cells #[.int .i64 a0_0, .int .i64 a0_1, .slice A0_2 l0_2.length c0_2] 57 (0, 0)) (bq_ BK594.out)) : gb595 ≠ gb594)); clear BK594; clear HB; have BK594 := n0_; have HB := n1_; have BK595 := n2_; have GW595 := n3_; have GE595 := n4_; have NB594_595 := n5_; have NB595_594 := n6_; clear n0_ n1_ n2_ n3_ n4_ n5_ n6_; clear hb hbox hg; have hnb26 := NB594_595.out; have hnc26 := NB595_594.out; have hcz27_0 : w25.cell? ⟨gb594, 0, none⟩ = some (.int .i64 a0_0) := (blk_cell BK594.out 0).trans rfl; have hcz27_1 : w25.cell? ⟨gb594, 1, none⟩ = some (.int .i64 a0_1) := (blk_cell BK594.out 1).trans rfl; have hcz27_2 : w25.cell? ⟨gb594, 2, none⟩ = some (.slice A0_2 l0_2.length c0_2) := (blk_cell BK594.out 2).trans rfl; have hfz27_0 := blk_frozen BK594.out 0; have hfz27_1 := blk_frozen BK594.out 1; have hfz27_2 := blk_frozen BK594.out 2; have hcz28_0 : w25.cell? ⟨gb595, 0, none⟩ = some (.int .i64 a1_0) := (blk_cell BK595.out 0).trans rfl; have hcz28_1 : w25.cell? ⟨gb595, 1, none⟩ = some (.int .i64 a1_1) := (blk_cell BK595.out 1).trans rfl; have hcz28_2 : w25.cell? ⟨gb595, 2, none⟩ = some (.slice A1_2 l1_2.length c1_2) := (blk_cell BK595.out 2).trans rfl; have hfz28_0 := blk_frozen BK595.out 0; have hfz28_1 := blk_frozen BK595.out 1; have hfz28_2 := blk_frozen BK595.out 2))
  go_ret
  exact ⟨by first | rfl | (simp [errW_none, errW_some] <;> rfl) | (simp [*, errW_none, errW_some] <;> rfl), hb_ HB.out⟩
/-! ### laws_markText: function 153 -/
def laws_markText.l0 : Nat → Int → ByteArray → Option (ByteArray)
  | 0, _, _ => none
  | k + 1, x0, x3 => if x0 > 0 then ((some (([(wrap64 (48 + (Int.tmod x0 10))) % 256] : List Int) : List Int)).bind fun y624 => (if (strOfNums y624).size + x3.size ≤ 9223372036854775807 then (laws_markText.l0 k (wrap64 (Int.tdiv x0 10)) ((strOfNums y624) ++ x3)) else (none))) else (if 1 + x3.size ≤ 9223372036854775807 then (some ((⟨#[109]⟩ : ByteArray) ++ x3)) else (none))
def laws_markText.f (k : Nat) (a0 : Int) : Option (ByteArray) := if a0 ≤ 0 then (some (⟨#[109, 48]⟩ : ByteArray)) else (laws_markText.l0 k a0 (⟨#[]⟩ : ByteArray))
theorem laws_markText.mono_l : ∀ k, (∀ y0 y1, LeO (laws_markText.l0 k y0 y1) (laws_markText.l0 (k + 1) y0 y1))
  | 0 => fun _ _ r h => by simp [laws_markText.l0] at h
  | k + 1 => by
    have ih0 := laws_markText.mono_l k
    · intro y0 y1
      unfold laws_markText.l0
      repeat' first
      | (with_reducible exact ih0 _ _)
      | (with_reducible exact LeO.refl _)
      | (with_reducible exact LeO.none _)
      | (with_reducible refine LeO.ite ?_ ?_)
      | (with_reducible refine LeO.bind ?_ (fun _ => ?_))
      | exact ih0 _ _
      | exact LeO.none _
      | refine LeO.ite ?_ ?_
      | refine LeO.bind ?_ (fun _ => ?_)
theorem laws_markText.mono : ∀ a0 k, LeO (laws_markText.f k a0) (laws_markText.f (k + 1) a0) := by
  intro a0 k
  have ih0 := laws_markText.mono_l k
  unfold laws_markText.f
  repeat' first
      | (with_reducible exact ih0 _ _)
      | (with_reducible exact LeO.refl _)
      | (with_reducible exact LeO.none _)
      | (with_reducible refine LeO.ite ?_ ?_)
      | (with_reducible refine LeO.bind ?_ (fun _ => ?_))
      | exact ih0 _ _
      | exact LeO.none _
      | refine LeO.ite ?_ ?_
      | refine LeO.bind ?_ (fun _ => ?_)
set_option maxHeartbeats 8000000 in
set_option maxRecDepth 100000 in
theorem laws_markText.calls (k : Nat) (a0 : Int) (r : ByteArray) (w : World) (h : laws_markText.f k a0 = some r) :
    Calls Try.prog 153 #[.int .i64 a0] w fun e w' => e = .returned (.string r) ∧ Below w.heap.size w w' := by
  have HB := Aside0.mk (Below.refl w.heap.size w)
  have H : (if a0 ≤ 0 then (some (⟨#[109, 48]⟩ : ByteArray)) else (laws_markText.l0 k a0 (⟨#[]⟩ : ByteArray))) = some r := h
  clear h
  by_cases c2 : a0 ≤ 0
  · rw [if_pos c2] at H
    have c2b0 : decide (a0 ≤ 0) = true := decide_eq_true c2
    clear c2
    obtain rfl := Option.some.inj H
    go_enter Try.func153, Try.ntmps153
    go_wp2
    go_ret
    exact ⟨by first | rfl | (simp [errW_none, errW_some] <;> rfl) | (simp [*, errW_none, errW_some] <;> rfl), by repeat (first | (with_reducible first | exact HB.out | apply below_alloc | apply pw_below_drewN | apply below_drew1) | exact HB.out)⟩
  · rw [if_neg c2] at H
    have c2b0 : decide (a0 ≤ 0) = false := decide_eq_false c2
    clear c2
    have H' := Aside0.mk H
    clear H
    go_enter Try.func153, Try.ntmps153
    go_wp2
    go_loopg [0, 3] k (fun kq v0 v3 w' => ∃ (x0_1 : Int) (x3_1 : ByteArray), v0 = .int .i64 x0_1 ∧ v3 = .string x3_1 ∧ Aside0 (laws_markText.l0 kq x0_1 x3_1 = some r) ∧ Aside0 (kq ≤ k) ∧ Aside0 (Below w.heap.size w w'))
    case atStart => exact ⟨(a0), ((⟨#[]⟩ : ByteArray)), (by first | rfl | (simp; done) | (simp [*]; done)), (by first | rfl | (simp; done) | (simp [*]; done)), H', ⟨Nat.le_refl _⟩, ⟨by repeat (first | (with_reducible first | exact HB.out | apply below_alloc | apply pw_below_drewN | apply below_drew1) | exact HB.out)⟩⟩
    case round =>
      clear H'
      try clear c1
      try clear c2
      try clear c2b0
      try clear p2
      obtain ⟨x0_1, x3_1, rfl, rfl, HA, HK1, HB⟩ := hrel
      cases gk with
      | zero => exact absurd HA.out (by simp [laws_markText.l0])
      | succ k1 =>
        have H := HA.out
        clear HA
        simp only [laws_markText.l0] at H
        by_cases c3 : x0_1 > 0
        · rw [if_pos c3] at H
          have c3b0 : decide (0 < x0_1) = true := decide_eq_true c3
          clear c3
          obtain ⟨y624, hy624⟩ : ∃ y_ : List Int, y_ = (([(wrap64 (48 + (Int.tmod x0_1 10))) % 256] : List Int)) := ⟨_, rfl⟩
          replace H : (if (strOfNums y624).size + x3_1.size ≤ 9223372036854775807 then (laws_markText.l0 k1 (wrap64 (Int.tdiv x0_1 10)) ((strOfNums y624) ++ x3_1)) else (none)) = some r := by first | (rw [hy624]; with_reducible exact H) | (have H2_ := (Option.bind_some _ _).symm.trans H; rw [hy624]; with_reducible exact H2_) | (have H2_ := (Option.bind_some _ _).symm.trans H; with_reducible exact H2_) | with_reducible exact H | (rw [hy624]; exact H) | exact H
          have Ny624 := Aside0.mk hy624
          clear hy624
          by_cases c4 : (strOfNums y624).size + x3_1.size ≤ 9223372036854775807
          · rw [if_pos c4] at H
            have c4b0 := eq_true c4
            have c4b1 : decide ((strOfNums y624).size + x3_1.size ≤ 9223372036854775807) = true := decide_eq_true c4
            try have c4b2 : (9223372036854775807 < (strOfNums y624).size + x3_1.size) = False := eq_false (Nat.not_lt.2 c4)
            have H' := Aside0.mk H
            clear H
            go_wp2_with (first | ((with_reducible refine gate_dst (N := 12) rfl ?_); refine Kd.R_lit (Kd.int .u8) _ 5 ?hg (N := 12) ?hd (xs := ([(wrap64 (48 + (Int.tmod x0_1 10))) % 256] : List Int)) (inner := [.int .u8 ((wrap64 (48 + (Int.tmod x0_1 10))) % 256)]) (ok := fun _ => True) (okp := fun _ => True) ?hr ?hp (fun _ hk => hk) trivial (Below.refl _ _) (Nat.le_refl _) (by simp) ?_; (case hd => rfl); (case hg => rfl); (case hr => first | (go_simp; done) | (go_simp; rfl)); (case hp => exact (Reps.one (show Kd.M (Kd.int .u8) _ _ _ ((wrap64 (48 + (Int.tmod x0_1 10))) % 256) [.int .u8 ((wrap64 (48 + (Int.tmod x0_1 10))) % 256)] from rfl) (Reps.none _ _))); intro v625 w5 ho6 hb hg_ hnew_; clear hg_ hnew_; (first | rw [← Ny624.out] at ho6 | (simp only [Int.reduceToNat] at ho6; rw [← Ny624.out] at ho6)); have n0_ := Aside0.mk (Kd.R_lower ho6 (below_size (by repeat (first | (with_reducible first | exact HB.out | apply below_alloc | apply pw_below_drewN | apply below_drew1) | exact HB.out)))); have n1_ := Aside0.mk (below_step (by repeat (first | (with_reducible first | exact HB.out | apply below_alloc | apply pw_below_drewN | apply below_drew1) | exact HB.out)) hb); clear HB; have HO626 := n0_; have HB := n1_; clear n0_ n1_; clear hb ho6; have hcv7 := own_string (P := Try.prog) Try.underlying22 Try.underlying5 Try.underlying9 (Kd.own_of_R HO626.out)))
            go_roundg k1
            case measure => have := HK1.out; omega
            case rel => exact ⟨(wrap64 (Int.tdiv x0_1 10)), ((strOfNums y624) ++ x3_1), (by first | rfl | (simp; done) | (simp [*]; done)), (by first | rfl | (simp; done) | (simp [*]; done)), H', ⟨by have := HK1.out; omega⟩, ⟨by repeat (first | (with_reducible first | exact HB.out | apply below_alloc | apply pw_below_drewN | apply below_drew1) | exact HB.out)⟩⟩
          · rw [if_neg c4] at H
            exact absurd H (by simp)
        · rw [if_neg c3] at H
          have c3b0 : decide (0 < x0_1) = false := decide_eq_false c3
          clear c3
          by_cases c8 : 1 + x3_1.size ≤ 9223372036854775807
          · rw [if_pos c8] at H
            have c8b0 := eq_true c8
            have c8b1 : decide (1 + x3_1.size ≤ 9223372036854775807) = true := decide_eq_true c8
            try have c8b2 : (9223372036854775807 < 1 + x3_1.size) = False := eq_false (Nat.not_lt.2 c8)
            obtain rfl := Option.some.inj H
            go_wp2
            go_ret
            exact ⟨by first | rfl | (simp [errW_none, errW_some] <;> rfl) | (simp [*, errW_none, errW_some] <;> rfl), by repeat (first | (with_reducible first | exact HB.out | apply below_alloc | apply pw_below_drewN | apply below_drew1) | exact HB.out)⟩
          · rw [if_neg c8] at H
            exact absurd H (by simp)
/-! ### laws_markItemS: function 99 -/
def laws_markItemS.l0 : Nat → List (S_Item) → Int → Int → Option (Int × (List (S_Item)))
 | 0, _, _, _ => none
 | k + 1, x0, x1, x5 => if x5 < (x0.length : Int) then (if 0 ≤ x5 then ((some (x0.set (x5 : Int).toNat (⟨x1, (rd_Item x0 x5).f1, (rd_Item x0 x5).f2, (rd_Item x0 x5).f3, (rd_Item x0 x5).f4⟩ : S_Item) : List (S_Item))).bind fun y627 => ((laws_markText.f k (wrap64 (x1 + 1))).bind fun t628 => ((some (y627.set (x5 : Int).toNat (⟨(rd_Item y627 x5).f0, t628, (rd_Item y627 x5).f2, (rd_Item y627 x5).f3, (rd_Item y627 x5).f4⟩ : S_Item) : List (S_Item))).bind fun y629 => ((laws_markText.f k (wrap64 ((wrap64 (x1 + 1)) + 1))).bind fun t630 => ((some (y629.set (x5 : Int).toNat (⟨(rd_Item y629 x5).f0, (rd_Item y629 x5).f1, t630, (rd_Item y629 x5).f3, (rd_Item y629 x5).f4⟩ : S_Item) : List (S_Item))).bind fun y631 => ((some (y631.set (x5 : Int).toNat (⟨(rd_Item y631 x5).f0, (rd_Item y631 x5).f1, (rd_Item y631 x5).f2, wrap64 ((wrap64 ((wrap64 (x1 + 1)) + 1)) + 1), (rd_Item y631 x5).f4⟩ : S_Item) : List (S_Item))).bind fun y632 => (laws_markItemS.l0 k (y632.set (x5 : Int).toNat (⟨(rd_Item y632 x5).f0, (rd_Item y632 x5).f1, (rd_Item y632 x5).f2, (rd_Item y632 x5).f3, wrap64 ((wrap64 ((wrap64 ((wrap64 (x1 + 1)) + 1)) + 1)) + 1)⟩ : S_Item)) (wrap64 ((wrap64 ((wrap64 ((wrap64 ((wrap64 (x1 + 1)) + 1)) + 1)) + 1)) + 1)) (wrap64 (x5 + 1))))))))) else (none)) else (some (x1, x0))
def laws_markItemS.f (k : Nat) (l0 : List (S_Item)) (a1 : Int) : Option (Int × (List (S_Item))) := laws_markItemS.l0 k l0 a1 0
theorem laws_markItemS.mono_l : ∀ k, (∀ y0 y1 y2, LeO (laws_markItemS.l0 k y0 y1 y2) (laws_markItemS.l0 (k + 1) y0 y1 y2))
 | 0 => fun _ _ _ r h => by simp [laws_markItemS.l0] at h
 | k + 1 => by
  have ih0 := laws_markItemS.mono_l k
  ·
   intro y0 y1 y2
   unfold laws_markItemS.l0
   repeat' first
   | (with_reducible exact ih0 _ _ _)
   | (with_reducible exact laws_markText.mono _ _)
   | (with_reducible exact LeO.refl _)
   | (with_reducible exact LeO.none _)
   | (with_reducible refine LeO.ite ?_ ?_)
   | (with_reducible refine LeO.bind ?_ (fun _ => ?_))
   | exact ih0 _ _ _
   | exact laws_markText.mono _ _
   | exact LeO.none _
   | refine LeO.ite ?_ ?_
   | refine LeO.bind ?_ (fun _ => ?_)
theorem laws_markItemS.mono : ∀ a0 a1 k, LeO (laws_markItemS.f k a0 a1) (laws_markItemS.f (k + 1) a0 a1) := by
 intro a0 a1 k
 have ih0 := laws_markItemS.mono_l k
 unfold laws_markItemS.f
 repeat' first
  | (with_reducible exact ih0 _ _ _)
  | (with_reducible exact laws_markText.mono _ _)
  | (with_reducible exact LeO.refl _)
  | (with_reducible exact LeO.none _)
  | (with_reducible refine LeO.ite ?_ ?_)
  | (with_reducible refine LeO.bind ?_ (fun _ => ?_))
  | exact ih0 _ _ _
  | exact laws_markText.mono _ _
  | exact LeO.none _
  | refine LeO.ite ?_ ?_
  | refine LeO.bind ?_ (fun _ => ?_)
set_option maxHeartbeats 8000000 in
set_option maxRecDepth 100000 in
theorem laws_markItemS.calls (k : Nat) (P0_ : Nat → Prop) (u9000_ : Value) (l0 : List (S_Item)) (a1 : Int) (r1 : Int) (r2 : List (S_Item)) (w0 w : World) (hB : Below w0.heap.size w0 w) (ho0 : Kd.R k_Item 69 w w0.heap.size P0_ u9000_ l0) (h : laws_markItemS.f k l0 a1 = some (r1, r2)) :
 Calls Try.prog 99 #[u9000_, .int .i64 a1] w fun e w' => e = .returned (.int .i64 r1) ∧ Kd.R k_Item 69 w' w0.heap.size (fun k_ => (P0_ k_ ∨ w.heap.size ≤ k_)) u9000_ r2 ∧ Below w0.heap.size w0 w' ∧ Kept w w' (fun k_ => P0_ k_) := by
 have HO0 := Aside0.mk (show Kd.R k_Item 69 w w0.heap.size (fun k_ => (P0_ k_ ∨ w.heap.size ≤ k_)) u9000_ l0 from Kd.R_mono ho0 (fun k_ hk => (.inl hk)))
 have HK := Aside0.mk (Kept.refl w (fun k_ => P0_ k_))
 have HW0 := Aside0.mk hB.size
 have HB := Aside0.mk hB
 clear hB
 have H : (laws_markItemS.l0 k l0 a1 0) = some (r1, r2) := h
 clear h
 have H' := Aside0.mk H
 clear H
 go_enter Try.func99, Try.ntmps99
 go_wp2
 go_loopg [1, 5] k (fun kq v1 v5 w' => ∃ (x0_1 : List (S_Item)) (x1_1 : Int) (x5_1 : Int), v1 = .int .i64 x1_1 ∧ v5 = .int .i64 x5_1 ∧ Aside0 (laws_markItemS.l0 kq x0_1 x1_1 x5_1 = some (r1, r2)) ∧ Aside0 (kq ≤ k) ∧ Aside0 (Kd.R k_Item 69 w' w0.heap.size (fun k_ => (P0_ k_ ∨ w.heap.size ≤ k_)) u9000_ x0_1) ∧ Aside0 (Kept w w' (fun k_ => P0_ k_)) ∧ Aside0 (Below w0.heap.size w0 w'))
 case atStart => exact ⟨(l0), (a1), (0), (by first | rfl | (simp; done) | (simp [*]; done)), (by first | rfl | (simp; done) | (simp [*]; done)), H', ⟨Nat.le_refl _⟩, ⟨rq_ HO0.out⟩, ⟨by repeat (first | (with_reducible first | exact HK.out | apply Kept.alloc | apply Kept.drewN | apply Kept.drew) | exact HK.out)⟩, ⟨hb_ HB.out⟩⟩
 case round =>
  clear H'
  try clear p2
  obtain ⟨x0_1, x1_1, x5_1, rfl, rfl, HA, HK1, HO_0, HK, HB⟩ := hrel
  cases gk with
  | zero => exact absurd HA.out (by simp [laws_markItemS.l0])
  | succ k1 =>
   have H := HA.out
   clear HA
   simp only [laws_markItemS.l0] at H
   by_cases c3 : x5_1 < (x0_1.length : Int)
   ·
    rw [if_pos c3] at H
    have c3b0 : decide (x5_1 < (x0_1.length : Int)) = true := decide_eq_true c3
    clear c3
    by_cases c4 : 0 ≤ x5_1
    ·
     rw [if_pos c4] at H
     have c4b0 : decide (0 ≤ x5_1) = true := decide_eq_true c4
     clear c4
     obtain ⟨y627, hy627⟩ : ∃ y_ : List (S_Item), y_ = (x0_1.set (x5_1 : Int).toNat (⟨x1_1, (rd_Item x0_1 x5_1).f1, (rd_Item x0_1 x5_1).f2, (rd_Item x0_1 x5_1).f3, (rd_Item x0_1 x5_1).f4⟩ : S_Item)) := ⟨_, rfl⟩
     replace H : ((laws_markText.f k1 (wrap64 (x1_1 + 1))).bind fun t628 => ((some (y627.set (x5_1 : Int).toNat (⟨(rd_Item y627 x5_1).f0, t628, (rd_Item y627 x5_1).f2, (rd_Item y627 x5_1).f3, (rd_Item y627 x5_1).f4⟩ : S_Item) : List (S_Item))).bind fun y629 => ((laws_markText.f k1 (wrap64 ((wrap64 (x1_1 + 1)) + 1))).bind fun t630 => ((some (y629.set (x5_1 : Int).toNat (⟨(rd_Item y629 x5_1).f0, (rd_Item y629 x5_1).f1, t630, (rd_Item y629 x5_1).f3, (rd_Item y629 x5_1).f4⟩ : S_Item) : List (S_Item))).bind fun y631 => ((some (y631.set (x5_1 : Int).toNat (⟨(rd_Item y631 x5_1).f0, (rd_Item y631 x5_1).f1, (rd_Item y631 x5_1).f2, wrap64 ((wrap64 ((wrap64 (x1_1 + 1)) + 1)) + 1), (rd_Item y631 x5_1).f4⟩ : S_Item) : List (S_Item))).bind fun y632 => (laws_markItemS.l0 k1 (y632.set (x5_1 : Int).toNat (⟨(rd_Item y632 x5_1).f0, (rd_Item y632 x5_1).f1, (rd_Item y632 x5_1).f2, (rd_Item y632 x5_1).f3, wrap64 ((wrap64 ((wrap64 ((wrap64 (x1_1 + 1)) + 1)) + 1)) + 1)⟩ : S_Item)) (wrap64 ((wrap64 ((wrap64 ((wrap64 ((wrap64 (x1_1 + 1)) + 1)) + 1)) + 1)) + 1)) (wrap64 (x5_1 + 1)))))))) = some (r1, r2) := by first | (rw [hy627]; with_reducible exact H) | (have H2_ := (Option.bind_some _ _).symm.trans H; rw [hy627]; with_reducible exact H2_) | (have H2_ := (Option.bind_some _ _).symm.trans H; with_reducible exact H2_) | with_reducible exact H | (rw [hy627]; exact H) | exact H
     have Ny627 := Aside0.mk hy627
     clear hy627
     replace H := Option.bind_eq_some_iff.mp H
     obtain ⟨t628, A60, H⟩ := H
     replace H : ((some (y627.set (x5_1 : Int).toNat (⟨(rd_Item y627 x5_1).f0, t628, (rd_Item y627 x5_1).f2, (rd_Item y627 x5_1).f3, (rd_Item y627 x5_1).f4⟩ : S_Item) : List (S_Item))).bind fun y629 => ((laws_markText.f k1 (wrap64 ((wrap64 (x1_1 + 1)) + 1))).bind fun t630 => ((some (y629.set (x5_1 : Int).toNat (⟨(rd_Item y629 x5_1).f0, (rd_Item y629 x5_1).f1, t630, (rd_Item y629 x5_1).f3, (rd_Item y629 x5_1).f4⟩ : S_Item) : List (S_Item))).bind fun y631 => ((some (y631.set (x5_1 : Int).toNat (⟨(rd_Item y631 x5_1).f0, (rd_Item y631 x5_1).f1, (rd_Item y631 x5_1).f2, wrap64 ((wrap64 ((wrap64 (x1_1 + 1)) + 1)) + 1), (rd_Item y631 x5_1).f4⟩ : S_Item) : List (S_Item))).bind fun y632 => (laws_markItemS.l0 k1 (y632.set (x5_1 : Int).toNat (⟨(rd_Item y632 x5_1).f0, (rd_Item y632 x5_1).f1, (rd_Item y632 x5_1).f2, (rd_Item y632 x5_1).f3, wrap64 ((wrap64 ((wrap64 ((wrap64 (x1_1 + 1)) + 1)) + 1)) + 1)⟩ : S_Item)) (wrap64 ((wrap64 ((wrap64 ((wrap64 ((wrap64 (x1_1 + 1)) + 1)) + 1)) + 1)) + 1)) (wrap64 (x5_1 + 1))))))) = some (r1, r2) := H
     have A6 := Aside0.mk A60
     clear A60
     obtain ⟨y629, hy629⟩ : ∃ y_ : List (S_Item), y_ = (y627.set (x5_1 : Int).toNat (⟨(rd_Item y627 x5_1).f0, t628, (rd_Item y627 x5_1).f2, (rd_Item y627 x5_1).f3, (rd_Item y627 x5_1).f4⟩ : S_Item)) := ⟨_, rfl⟩
     replace H : ((laws_markText.f k1 (wrap64 ((wrap64 (x1_1 + 1)) + 1))).bind fun t630 => ((some (y629.set (x5_1 : Int).toNat (⟨(rd_Item y629 x5_1).f0, (rd_Item y629 x5_1).f1, t630, (rd_Item y629 x5_1).f3, (rd_Item y629 x5_1).f4⟩ : S_Item) : List (S_Item))).bind fun y631 => ((some (y631.set (x5_1 : Int).toNat (⟨(rd_Item y631 x5_1).f0, (rd_Item y631 x5_1).f1, (rd_Item y631 x5_1).f2, wrap64 ((wrap64 ((wrap64 (x1_1 + 1)) + 1)) + 1), (rd_Item y631 x5_1).f4⟩ : S_Item) : List (S_Item))).bind fun y632 => (laws_markItemS.l0 k1 (y632.set (x5_1 : Int).toNat (⟨(rd_Item y632 x5_1).f0, (rd_Item y632 x5_1).f1, (rd_Item y632 x5_1).f2, (rd_Item y632 x5_1).f3, wrap64 ((wrap64 ((wrap64 ((wrap64 (x1_1 + 1)) + 1)) + 1)) + 1)⟩ : S_Item)) (wrap64 ((wrap64 ((wrap64 ((wrap64 ((wrap64 (x1_1 + 1)) + 1)) + 1)) + 1)) + 1)) (wrap64 (x5_1 + 1)))))) = some (r1, r2) := by first | (rw [hy629]; with_reducible exact H) | (have H2_ := (Option.bind_some _ _).symm.trans H; rw [hy629]; with_reducible exact H2_) | (have H2_ := (Option.bind_some _ _).symm.trans H; with_reducible exact H2_) | with_reducible exact H | (rw [hy629]; exact H) | exact H
     have Ny629 := Aside0.mk hy629
     clear hy629
     replace H := Option.bind_eq_some_iff.mp H
     obtain ⟨t630, A80, H⟩ := H
     replace H : ((some (y629.set (x5_1 : Int).toNat (⟨(rd_Item y629 x5_1).f0, (rd_Item y629 x5_1).f1, t630, (rd_Item y629 x5_1).f3, (rd_Item y629 x5_1).f4⟩ : S_Item) : List (S_Item))).bind fun y631 => ((some (y631.set (x5_1 : Int).toNat (⟨(rd_Item y631 x5_1).f0, (rd_Item y631 x5_1).f1, (rd_Item y631 x5_1).f2, wrap64 ((wrap64 ((wrap64 (x1_1 + 1)) + 1)) + 1), (rd_Item y631 x5_1).f4⟩ : S_Item) : List (S_Item))).bind fun y632 => (laws_markItemS.l0 k1 (y632.set (x5_1 : Int).toNat (⟨(rd_Item y632 x5_1).f0, (rd_Item y632 x5_1).f1, (rd_Item y632 x5_1).f2, (rd_Item y632 x5_1).f3, wrap64 ((wrap64 ((wrap64 ((wrap64 (x1_1 + 1)) + 1)) + 1)) + 1)⟩ : S_Item)) (wrap64 ((wrap64 ((wrap64 ((wrap64 ((wrap64 (x1_1 + 1)) + 1)) + 1)) + 1)) + 1)) (wrap64 (x5_1 + 1))))) = some (r1, r2) := H
     have A8 := Aside0.mk A80
     clear A80
     obtain ⟨y631, hy631⟩ : ∃ y_ : List (S_Item), y_ = (y629.set (x5_1 : Int).toNat (⟨(rd_Item y629 x5_1).f0, (rd_Item y629 x5_1).f1, t630, (rd_Item y629 x5_1).f3, (rd_Item y629 x5_1).f4⟩ : S_Item)) := ⟨_, rfl⟩
     replace H : ((some (y631.set (x5_1 : Int).toNat (⟨(rd_Item y631 x5_1).f0, (rd_Item y631 x5_1).f1, (rd_Item y631 x5_1).f2, wrap64 ((wrap64 ((wrap64 (x1_1 + 1)) + 1)) + 1), (rd_Item y631 x5_1).f4⟩ : S_Item) : List (S_Item))).bind fun y632 => (laws_markItemS.l0 k1 (y632.set (x5_1 : Int).toNat (⟨(rd_Item y632 x5_1).f0, (rd_Item y632 x5_1).f1, (rd_Item y632 x5_1).f2, (rd_Item y632 x5_1).f3, wrap64 ((wrap64 ((wrap64 ((wrap64 (x1_1 + 1)) + 1)) + 1)) + 1)⟩ : S_Item)) (wrap64 ((wrap64 ((wrap64 ((wrap64 ((wrap64 (x1_1 + 1)) + 1)) + 1)) + 1)) + 1)) (wrap64 (x5_1 + 1)))) = some (r1, r2) := by first | (rw [hy631]; with_reducible exact H) | (have H2_ := (Option.bind_some _ _).symm.trans H; rw [hy631]; with_reducible exact H2_) | (have H2_ := (Option.bind_some _ _).symm.trans H; with_reducible exact H2_) | with_reducible exact H | (rw [hy631]; exact H) | exact H
     have Ny631 := Aside0.mk hy631
     clear hy631
     obtain ⟨y632, hy632⟩ : ∃ y_ : List (S_Item), y_ = (y631.set (x5_1 : Int).toNat (⟨(rd_Item y631 x5_1).f0, (rd_Item y631 x5_1).f1, (rd_Item y631 x5_1).f2, wrap64 ((wrap64 ((wrap64 (x1_1 + 1)) + 1)) + 1), (rd_Item y631 x5_1).f4⟩ : S_Item)) := ⟨_, rfl⟩
     replace H : (laws_markItemS.l0 k1 (y632.set (x5_1 : Int).toNat (⟨(rd_Item y632 x5_1).f0, (rd_Item y632 x5_1).f1, (rd_Item y632 x5_1).f2, (rd_Item y632 x5_1).f3, wrap64 ((wrap64 ((wrap64 ((wrap64 (x1_1 + 1)) + 1)) + 1)) + 1)⟩ : S_Item)) (wrap64 ((wrap64 ((wrap64 ((wrap64 ((wrap64 (x1_1 + 1)) + 1)) + 1)) + 1)) + 1)) (wrap64 (x5_1 + 1))) = some (r1, r2) := by first | (rw [hy632]; with_reducible exact H) | (have H2_ := (Option.bind_some _ _).symm.trans H; rw [hy632]; with_reducible exact H2_) | (have H2_ := (Option.bind_some _ _).symm.trans H; with_reducible exact H2_) | with_reducible exact H | (rw [hy632]; exact H) | exact H
     have Ny632 := Aside0.mk hy632
     clear hy632
     obtain ⟨y633, hy633⟩ : ∃ y_ : List (S_Item), y_ = (y632.set (x5_1 : Int).toNat (⟨(rd_Item y632 x5_1).f0, (rd_Item y632 x5_1).f1, (rd_Item y632 x5_1).f2, (rd_Item y632 x5_1).f3, wrap64 ((wrap64 ((wrap64 ((wrap64 (x1_1 + 1)) + 1)) + 1)) + 1)⟩ : S_Item)) := ⟨_, rfl⟩
     replace H : (laws_markItemS.l0 k1 y633 (wrap64 ((wrap64 ((wrap64 ((wrap64 ((wrap64 (x1_1 + 1)) + 1)) + 1)) + 1)) + 1)) (wrap64 (x5_1 + 1))) = some (r1, r2) := by first | (rw [hy633]; with_reducible exact H) | (have H2_ := (Option.bind_some _ _).symm.trans H; rw [hy633]; with_reducible exact H2_) | (have H2_ := (Option.bind_some _ _).symm.trans H; with_reducible exact H2_) | with_reducible exact H | (rw [hy633]; exact H) | exact H
     have Ny633 := Aside0.mk hy633
     clear hy633
     have H' := Aside0.mk H
     clear H
     obtain ⟨Ao12, co12, eo12⟩ := Kd.R_slice HO_0.out
     subst eo12
     have p5 : 0 ≤ (x5_1 : Int) := of_decide_eq_true (by first | (with_reducible assumption) | assumption)
     have q5 : (x5_1 : Int) < ((x0_1.length : Int) : Int) := of_decide_eq_true (by first | (with_reducible assumption) | assumption)
     obtain ⟨go5, co5, eo5, gb5, gl5, cl5, HG5⟩ := Kd.R_form HO_0.out (by omega)
     (first | cases eo5 | (injection eo5 with ea_ en_ ec_; (first | subst ea_ | (injection ea_ with ea_; subst ea_)); subst ec_; clear en_))
     have GB5 := Aside0.mk gb5
     have GG5 := Aside0.mk HG5
     clear gb5 gl5 HG5
     have HMgo5 := Aside0.mk (show (P0_ go5 ∨ w.heap.size ≤ go5) from (HO_0.out.1 _ rfl))
     obtain ⟨ce5, hcl5, hM5, hcc5, hfr5⟩ := Kd.R_elem HO_0.out z_Item (x5_1 : Int) p5 q5
     obtain rfl := k_Item_openM hM5
     have hx5_0 : wr.cell? ⟨go5, (x5_1 : Int).toNat * 5, none⟩ = some (.int .i64 ((rd_Item x0_1 x5_1).f0)) := hcc5 0 _ rfl
     have hx5_1 : wr.cell? ⟨go5, (x5_1 : Int).toNat * 5 + 1, none⟩ = some (.string ((rd_Item x0_1 x5_1).f1)) := hcc5 1 _ rfl
     have hx5_2 : wr.cell? ⟨go5, (x5_1 : Int).toNat * 5 + 2, none⟩ = some (.string ((rd_Item x0_1 x5_1).f2)) := hcc5 2 _ rfl
     have hx5_3 : wr.cell? ⟨go5, (x5_1 : Int).toNat * 5 + 3, none⟩ = some (.int .i64 ((rd_Item x0_1 x5_1).f3)) := hcc5 3 _ rfl
     have hx5_4 : wr.cell? ⟨go5, (x5_1 : Int).toNat * 5 + 4, none⟩ = some (.int .i64 ((rd_Item x0_1 x5_1).f4)) := hcc5 4 _ rfl
     have hf5_0 : wr.frozen? ⟨go5, (x5_1 : Int).toNat * 5, none⟩ = false := hfr5 0
     have hf5_1 : wr.frozen? ⟨go5, (x5_1 : Int).toNat * 5 + 1, none⟩ = false := hfr5 1
     have hf5_2 : wr.frozen? ⟨go5, (x5_1 : Int).toNat * 5 + 2, none⟩ = false := hfr5 2
     have hf5_3 : wr.frozen? ⟨go5, (x5_1 : Int).toNat * 5 + 3, none⟩ = false := hfr5 3
     have hf5_4 : wr.frozen? ⟨go5, (x5_1 : Int).toNat * 5 + 4, none⟩ = false := hfr5 4
     clear hcl5 hcc5 hfr5 hM5
     replace p5 := eq_true p5
     replace q5 := eq_true q5
     have HX13 := Aside0.mk (show Kd.R k_Item 69 wr w0.heap.size (fun k_ => (P0_ k_ ∨ w.heap.size ≤ k_)) (.slice (some ⟨go5, 0, none⟩) x0_1.length co12) x0_1 from (rq_ HO_0.out))
     obtain ⟨ce13, hcl13, hM13, hcc13, hfr13⟩ := Kd.R_elem HX13.out z_Item (x5_1 : Int) (of_decide_eq_true (by first | (with_reducible assumption) | assumption)) (by have h_ : (x5_1 : Int) < ((x0_1.length : Int) : Int) := of_decide_eq_true (by first | (with_reducible assumption) | assumption); first | exact h_ | (have e_ := (Kd.R_reads' HO_0.out).1; omega) | simpa using h_)
     obtain rfl := k_Item_openM hM13
     have HP13 := Kd.R_seg HX13.out (x5_1 : Int) (of_decide_eq_true (by first | (with_reducible assumption) | assumption)) (by have h_ : (x5_1 : Int) < ((x0_1.length : Int) : Int) := of_decide_eq_true (by first | (with_reducible assumption) | assumption); first | exact h_ | (have e_ := (Kd.R_reads' HO_0.out).1; omega) | simpa using h_) (seg := [.int .i64 x1_1]) (j := 0) hcl13 hcc13 (show 1 ≤ 5 from by decide) (x' := (⟨x1_1, (rd_Item x0_1 x5_1).f1, (rd_Item x0_1 x5_1).f2, (rd_Item x0_1 x5_1).f3, (rd_Item x0_1 x5_1).f4⟩ : S_Item)) (k_Item_mkM _ _ _ (⟨x1_1, (rd_Item x0_1 x5_1).f1, (rd_Item x0_1 x5_1).f2, (rd_Item x0_1 x5_1).f3, (rd_Item x0_1 x5_1).f4⟩ : S_Item) ) (fun _ hk => hk)
     have hx13_0 := hcc13 0 _ rfl
     (try simp only [show (k_Item).sz = 5 from rfl, Nat.mul_one, Nat.add_zero] at hx13_0)
     have hf13_0 := hfr13 0
     (try simp only [show (k_Item).sz = 5 from rfl, Nat.mul_one, Nat.add_zero] at hf13_0)
     clear hcl13 hcc13 hfr13 hM13
     go_wp2_with (first | ((with_reducible refine gate_store (t := 3) (p := 16) rfl ?_); refine store_event (t := 3) (p := 16) (v := ?vo_w14) (w1 := (wr.setCell ⟨go5, (x5_1 : Int).toNat * 5, none⟩ (.int .i64 x1_1))) ?hg ?ho ?hn ?hr ?_; (case ho => rfl); (case hg => rfl); (case hn => rfl); (case hr => first | (go_simp; done) | (go_simp; rfl)); intro w14 hw; have hg : wr.grownBy w14 (some go5) := (by rw [hw]; exact HP13.2); have hp_ : Kd.R k_Item 69 w14 w0.heap.size (fun k_ => (P0_ k_ ∨ w.heap.size ≤ k_)) (.slice (some ⟨go5, 0, none⟩) x0_1.length co12) y627 := (by rw [hw, Ny627.out]; exact HP13.1); clear HP13; have n0_ := Aside0.mk (hp_); have n1_ := Aside0.mk ((by rw [hw]; exact below_set (HB.out) GB5.out : Below w0.heap.size w0 w14)); have n2_ := Aside0.mk (Kept.of_grown (S := (fun k_ => P0_ k_)) hg (by repeat (first | (with_reducible first | exact HK.out | apply Kept.alloc | apply Kept.drewN | apply Kept.drew) | exact HK.out)) (fun k_ e_ => (HO_0.out.1 k_ e_))); clear HO_0; clear HB; clear HK; have HO_0 := n0_; have HB := n1_; have HK := n2_; clear n0_ n1_ n2_; clear hg hw hp_) | ((with_reducible refine gate_callee (f := 153) rfl ?_); refine goesL_ (some 22) rfl rfl Try.func153 (by kernel_rfl) rfl #[.int .i64 (wrap64 (x1_1 + 1))] rfl sm_ ?_; (with_reducible refine (laws_markText.calls k1 (wrap64 (x1_1 + 1)) t628 _ A6.out).mono ?_); rintro e w15 ⟨rfl, hb⟩; refine ⟨_, rfl, ?_⟩; have n0_ := Aside0.mk (Kd.R_below (rq_ HO_0.out) hb); have n1_ := Aside0.mk (Kept.below (S := (fun k_ => P0_ k_)) (by repeat (first | (with_reducible first | exact HK.out | apply Kept.alloc | apply Kept.drewN | apply Kept.drew) | exact HK.out)) hb); have n2_ := Aside0.mk (below_step (hb_ HB.out) hb); clear HO_0; clear HK; clear HB; have HO_0 := n0_; have HK := n1_; have HB := n2_; clear n0_ n1_ n2_; (try clear hb); (try clear hb2); (try clear hk); (try clear hi); have p7 : 0 ≤ (x5_1 : Int) := of_decide_eq_true (by first | (with_reducible assumption) | assumption); have q7 : (x5_1 : Int) < ((x0_1.length : Int) : Int) := of_decide_eq_true (by first | (with_reducible assumption) | assumption); obtain ⟨ce7, hcl7, hM7, hcc7, hfr7⟩ := Kd.R_elem HO_0.out z_Item (x5_1 : Int) p7 q7; obtain rfl := k_Item_openM hM7; have hx7_0 : w15.cell? ⟨go5, (x5_1 : Int).toNat * 5, none⟩ = some (.int .i64 ((rd_Item y627 x5_1).f0)) := hcc7 0 _ rfl; have hx7_1 : w15.cell? ⟨go5, (x5_1 : Int).toNat * 5 + 1, none⟩ = some (.string ((rd_Item y627 x5_1).f1)) := hcc7 1 _ rfl; have hx7_2 : w15.cell? ⟨go5, (x5_1 : Int).toNat * 5 + 2, none⟩ = some (.string ((rd_Item y627 x5_1).f2)) := hcc7 2 _ rfl; have hx7_3 : w15.cell? ⟨go5, (x5_1 : Int).toNat * 5 + 3, none⟩ = some (.int .i64 ((rd_Item y627 x5_1).f3)) := hcc7 3 _ rfl; have hx7_4 : w15.cell? ⟨go5, (x5_1 : Int).toNat * 5 + 4, none⟩ = some (.int .i64 ((rd_Item y627 x5_1).f4)) := hcc7 4 _ rfl; have hf7_0 : w15.frozen? ⟨go5, (x5_1 : Int).toNat * 5, none⟩ = false := hfr7 0; have hf7_1 : w15.frozen? ⟨go5, (x5_1 : Int).toNat * 5 + 1, none⟩ = false := hfr7 1; have hf7_2 : w15.frozen? ⟨go5, (x5_1 : Int).toNat * 5 + 2, none⟩ = false := hfr7 2; have hf7_3 : w15.frozen? ⟨go5, (x5_1 : Int).toNat * 5 + 3, none⟩ = false := hfr7 3; have hf7_4 : w15.frozen? ⟨go5, (x5_1 : Int).toNat * 5 + 4, none⟩ = false := hfr7 4; clear hcl7 hcc7 hfr7 hM7; replace p7 := eq_true p7; replace q7 := eq_true q7; have HX16 := Aside0.mk (show Kd.R k_Item 69 w15 w0.heap.size (fun k_ => (P0_ k_ ∨ w.heap.size ≤ k_)) (.slice (some ⟨go5, 0, none⟩) x0_1.length co12) y627 from (rq_ HO_0.out)); obtain ⟨ce16, hcl16, hM16, hcc16, hfr16⟩ := Kd.R_elem HX16.out z_Item (x5_1 : Int) (of_decide_eq_true (by first | (with_reducible assumption) | assumption)) (by have h_ : (x5_1 : Int) < ((x0_1.length : Int) : Int) := of_decide_eq_true (by first | (with_reducible assumption) | assumption); first | exact h_ | (have e_ := (Kd.R_reads' HO_0.out).1; omega) | simpa using h_); obtain rfl := k_Item_openM hM16; have HP16 := Kd.R_seg HX16.out (x5_1 : Int) (of_decide_eq_true (by first | (with_reducible assumption) | assumption)) (by have h_ : (x5_1 : Int) < ((x0_1.length : Int) : Int) := of_decide_eq_true (by first | (with_reducible assumption) | assumption); first | exact h_ | (have e_ := (Kd.R_reads' HO_0.out).1; omega) | simpa using h_) (seg := [.string t628]) (j := 1) hcl16 hcc16 (show 2 ≤ 5 from by decide) (x' := (⟨(rd_Item y627 x5_1).f0, t628, (rd_Item y627 x5_1).f2, (rd_Item y627 x5_1).f3, (rd_Item y627 x5_1).f4⟩ : S_Item)) (k_Item_mkM _ _ _ (⟨(rd_Item y627 x5_1).f0, t628, (rd_Item y627 x5_1).f2, (rd_Item y627 x5_1).f3, (rd_Item y627 x5_1).f4⟩ : S_Item) ) (fun _ hk => hk); have hx16_1 := hcc16 1 _ rfl; (try simp only [show (k_Item).sz = 5 from rfl, Nat.mul_one, Nat.add_zero] at hx16_1); have hf16_1 := hfr16 1; (try simp only [show (k_Item).sz = 5 from rfl, Nat.mul_one, Nat.add_zero] at hf16_1); clear hcl16 hcc16 hfr16 hM16) | ((with_reducible refine gate_store (t := 9) (p := 24) rfl ?_); refine store_event (t := 9) (p := 24) (v := ?vo_w17) (w1 := (w15.setCell ⟨go5, (x5_1 : Int).toNat * 5 + 1, none⟩ (.string t628))) ?hg ?ho ?hn ?hr ?_; (case ho => rfl); (case hg => rfl); (case hn => rfl); (case hr => first | (go_simp; done) | (go_simp; rfl)); intro w17 hw; have hg : w15.grownBy w17 (some go5) := (by rw [hw]; exact HP16.2); have hp_ : Kd.R k_Item 69 w17 w0.heap.size (fun k_ => (P0_ k_ ∨ w.heap.size ≤ k_)) (.slice (some ⟨go5, 0, none⟩) x0_1.length co12) y629 := (by rw [hw, Ny629.out]; exact HP16.1); clear HP16; have n0_ := Aside0.mk (hp_); have n1_ := Aside0.mk ((by rw [hw]; exact below_set (HB.out) GB5.out : Below w0.heap.size w0 w17)); have n2_ := Aside0.mk (Kept.of_grown (S := (fun k_ => P0_ k_)) hg (by repeat (first | (with_reducible first | exact HK.out | apply Kept.alloc | apply Kept.drewN | apply Kept.drew) | exact HK.out)) (fun k_ e_ => (HO_0.out.1 k_ e_))); clear HO_0; clear HB; clear HK; have HO_0 := n0_; have HB := n1_; have HK := n2_; clear n0_ n1_ n2_; clear hg hw hp_) | ((with_reducible refine gate_callee (f := 153) rfl ?_); refine goesL_ (some 30) rfl rfl Try.func153 (by kernel_rfl) rfl #[.int .i64 (wrap64 ((wrap64 (x1_1 + 1)) + 1))] rfl sm_ ?_; (with_reducible refine (laws_markText.calls k1 (wrap64 ((wrap64 (x1_1 + 1)) + 1)) t630 _ A8.out).mono ?_); rintro e w18 ⟨rfl, hb⟩; refine ⟨_, rfl, ?_⟩; have n0_ := Aside0.mk (Kd.R_below (rq_ HO_0.out) hb); have n1_ := Aside0.mk (Kept.below (S := (fun k_ => P0_ k_)) (by repeat (first | (with_reducible first | exact HK.out | apply Kept.alloc | apply Kept.drewN | apply Kept.drew) | exact HK.out)) hb); have n2_ := Aside0.mk (below_step (hb_ HB.out) hb); clear HO_0; clear HK; clear HB; have HO_0 := n0_; have HK := n1_; have HB := n2_; clear n0_ n1_ n2_; (try clear hb); (try clear hb2); (try clear hk); (try clear hi); have p9 : 0 ≤ (x5_1 : Int) := of_decide_eq_true (by first | (with_reducible assumption) | assumption); have q9 : (x5_1 : Int) < ((x0_1.length : Int) : Int) := of_decide_eq_true (by first | (with_reducible assumption) | assumption); obtain ⟨ce9, hcl9, hM9, hcc9, hfr9⟩ := Kd.R_elem HO_0.out z_Item (x5_1 : Int) p9 q9; obtain rfl := k_Item_openM hM9; have hx9_0 : w18.cell? ⟨go5, (x5_1 : Int).toNat * 5, none⟩ = some (.int .i64 ((rd_Item y629 x5_1).f0)) := hcc9 0 _ rfl; have hx9_1 : w18.cell? ⟨go5, (x5_1 : Int).toNat * 5 + 1, none⟩ = some (.string ((rd_Item y629 x5_1).f1)) := hcc9 1 _ rfl; have hx9_2 : w18.cell? ⟨go5, (x5_1 : Int).toNat * 5 + 2, none⟩ = some (.string ((rd_Item y629 x5_1).f2)) := hcc9 2 _ rfl; have hx9_3 : w18.cell? ⟨go5, (x5_1 : Int).toNat * 5 + 3, none⟩ = some (.int .i64 ((rd_Item y629 x5_1).f3)) := hcc9 3 _ rfl; have hx9_4 : w18.cell? ⟨go5, (x5_1 : Int).toNat * 5 + 4, none⟩ = some (.int .i64 ((rd_Item y629 x5_1).f4)) := hcc9 4 _ rfl; have hf9_0 : w18.frozen? ⟨go5, (x5_1 : Int).toNat * 5, none⟩ = false := hfr9 0; have hf9_1 : w18.frozen? ⟨go5, (x5_1 : Int).toNat * 5 + 1, none⟩ = false := hfr9 1; have hf9_2 : w18.frozen? ⟨go5, (x5_1 : Int).toNat * 5 + 2, none⟩ = false := hfr9 2; have hf9_3 : w18.frozen? ⟨go5, (x5_1 : Int).toNat * 5 + 3, none⟩ = false := hfr9 3; have hf9_4 : w18.frozen? ⟨go5, (x5_1 : Int).toNat * 5 + 4, none⟩ = false := hfr9 4; clear hcl9 hcc9 hfr9 hM9; replace p9 := eq_true p9; replace q9 := eq_true q9; have HX19 := Aside0.mk (show Kd.R k_Item 69 w18 w0.heap.size (fun k_ => (P0_ k_ ∨ w.heap.size ≤ k_)) (.slice (some ⟨go5, 0, none⟩) x0_1.length co12) y629 from (rq_ HO_0.out)); obtain ⟨ce19, hcl19, hM19, hcc19, hfr19⟩ := Kd.R_elem HX19.out z_Item (x5_1 : Int) (of_decide_eq_true (by first | (with_reducible assumption) | assumption)) (by have h_ : (x5_1 : Int) < ((x0_1.length : Int) : Int) := of_decide_eq_true (by first | (with_reducible assumption) | assumption); first | exact h_ | (have e_ := (Kd.R_reads' HO_0.out).1; omega) | simpa using h_); obtain rfl := k_Item_openM hM19; have HP19 := Kd.R_seg HX19.out (x5_1 : Int) (of_decide_eq_true (by first | (with_reducible assumption) | assumption)) (by have h_ : (x5_1 : Int) < ((x0_1.length : Int) : Int) := of_decide_eq_true (by first | (with_reducible assumption) | assumption); first | exact h_ | (have e_ := (Kd.R_reads' HO_0.out).1; omega) | simpa using h_) (seg := [.string t630]) (j := 2) hcl19 hcc19 (show 3 ≤ 5 from by decide) (x' := (⟨(rd_Item y629 x5_1).f0, (rd_Item y629 x5_1).f1, t630, (rd_Item y629 x5_1).f3, (rd_Item y629 x5_1).f4⟩ : S_Item)) (k_Item_mkM _ _ _ (⟨(rd_Item y629 x5_1).f0, (rd_Item y629 x5_1).f1, t630, (rd_Item y629 x5_1).f3, (rd_Item y629 x5_1).f4⟩ : S_Item) ) (fun _ hk => hk); have hx19_2 := hcc19 2 _ rfl; (try simp only [show (k_Item).sz = 5 from rfl, Nat.mul_one, Nat.add_zero] at hx19_2); have hf19_2 := hfr19 2; (try simp only [show (k_Item).sz = 5 from rfl, Nat.mul_one, Nat.add_zero] at hf19_2); clear hcl19 hcc19 hfr19 hM19) | ((with_reducible refine gate_store (t := 9) (p := 32) rfl ?_); refine store_event (t := 9) (p := 32) (v := ?vo_w20) (w1 := (w18.setCell ⟨go5, (x5_1 : Int).toNat * 5 + 2, none⟩ (.string t630))) ?hg ?ho ?hn ?hr ?_; (case ho => rfl); (case hg => rfl); (case hn => rfl); (case hr => first | (go_simp; done) | (go_simp; rfl)); intro w20 hw; have hg : w18.grownBy w20 (some go5) := (by rw [hw]; exact HP19.2); have hp_ : Kd.R k_Item 69 w20 w0.heap.size (fun k_ => (P0_ k_ ∨ w.heap.size ≤ k_)) (.slice (some ⟨go5, 0, none⟩) x0_1.length co12) y631 := (by rw [hw, Ny631.out]; exact HP19.1); clear HP19; have n0_ := Aside0.mk (hp_); have n1_ := Aside0.mk ((by rw [hw]; exact below_set (HB.out) GB5.out : Below w0.heap.size w0 w20)); have n2_ := Aside0.mk (Kept.of_grown (S := (fun k_ => P0_ k_)) hg (by repeat (first | (with_reducible first | exact HK.out | apply Kept.alloc | apply Kept.drewN | apply Kept.drew) | exact HK.out)) (fun k_ e_ => (HO_0.out.1 k_ e_))); clear HO_0; clear HB; clear HK; have HO_0 := n0_; have HB := n1_; have HK := n2_; clear n0_ n1_ n2_; clear hg hw hp_; have p10 : 0 ≤ (x5_1 : Int) := of_decide_eq_true (by first | (with_reducible assumption) | assumption); have q10 : (x5_1 : Int) < ((x0_1.length : Int) : Int) := of_decide_eq_true (by first | (with_reducible assumption) | assumption); obtain ⟨ce10, hcl10, hM10, hcc10, hfr10⟩ := Kd.R_elem HO_0.out z_Item (x5_1 : Int) p10 q10; obtain rfl := k_Item_openM hM10; have hx10_0 : w20.cell? ⟨go5, (x5_1 : Int).toNat * 5, none⟩ = some (.int .i64 ((rd_Item y631 x5_1).f0)) := hcc10 0 _ rfl; have hx10_1 : w20.cell? ⟨go5, (x5_1 : Int).toNat * 5 + 1, none⟩ = some (.string ((rd_Item y631 x5_1).f1)) := hcc10 1 _ rfl; have hx10_2 : w20.cell? ⟨go5, (x5_1 : Int).toNat * 5 + 2, none⟩ = some (.string ((rd_Item y631 x5_1).f2)) := hcc10 2 _ rfl; have hx10_3 : w20.cell? ⟨go5, (x5_1 : Int).toNat * 5 + 3, none⟩ = some (.int .i64 ((rd_Item y631 x5_1).f3)) := hcc10 3 _ rfl; have hx10_4 : w20.cell? ⟨go5, (x5_1 : Int).toNat * 5 + 4, none⟩ = some (.int .i64 ((rd_Item y631 x5_1).f4)) := hcc10 4 _ rfl; have hf10_0 : w20.frozen? ⟨go5, (x5_1 : Int).toNat * 5, none⟩ = false := hfr10 0; have hf10_1 : w20.frozen? ⟨go5, (x5_1 : Int).toNat * 5 + 1, none⟩ = false := hfr10 1; have hf10_2 : w20.frozen? ⟨go5, (x5_1 : Int).toNat * 5 + 2, none⟩ = false := hfr10 2; have hf10_3 : w20.frozen? ⟨go5, (x5_1 : Int).toNat * 5 + 3, none⟩ = false := hfr10 3; have hf10_4 : w20.frozen? ⟨go5, (x5_1 : Int).toNat * 5 + 4, none⟩ = false := hfr10 4; clear hcl10 hcc10 hfr10 hM10; replace p10 := eq_true p10; replace q10 := eq_true q10; have HX21 := Aside0.mk (show Kd.R k_Item 69 w20 w0.heap.size (fun k_ => (P0_ k_ ∨ w.heap.size ≤ k_)) (.slice (some ⟨go5, 0, none⟩) x0_1.length co12) y631 from (rq_ HO_0.out)); obtain ⟨ce21, hcl21, hM21, hcc21, hfr21⟩ := Kd.R_elem HX21.out z_Item (x5_1 : Int) (of_decide_eq_true (by first | (with_reducible assumption) | assumption)) (by have h_ : (x5_1 : Int) < ((x0_1.length : Int) : Int) := of_decide_eq_true (by first | (with_reducible assumption) | assumption); first | exact h_ | (have e_ := (Kd.R_reads' HO_0.out).1; omega) | simpa using h_); obtain rfl := k_Item_openM hM21; have HP21 := Kd.R_seg HX21.out (x5_1 : Int) (of_decide_eq_true (by first | (with_reducible assumption) | assumption)) (by have h_ : (x5_1 : Int) < ((x0_1.length : Int) : Int) := of_decide_eq_true (by first | (with_reducible assumption) | assumption); first | exact h_ | (have e_ := (Kd.R_reads' HO_0.out).1; omega) | simpa using h_) (seg := [.int .i64 (wrap64 ((wrap64 ((wrap64 (x1_1 + 1)) + 1)) + 1))]) (j := 3) hcl21 hcc21 (show 4 ≤ 5 from by decide) (x' := (⟨(rd_Item y631 x5_1).f0, (rd_Item y631 x5_1).f1, (rd_Item y631 x5_1).f2, wrap64 ((wrap64 ((wrap64 (x1_1 + 1)) + 1)) + 1), (rd_Item y631 x5_1).f4⟩ : S_Item)) (k_Item_mkM _ _ _ (⟨(rd_Item y631 x5_1).f0, (rd_Item y631 x5_1).f1, (rd_Item y631 x5_1).f2, wrap64 ((wrap64 ((wrap64 (x1_1 + 1)) + 1)) + 1), (rd_Item y631 x5_1).f4⟩ : S_Item) ) (fun _ hk => hk); have hx21_3 := hcc21 3 _ rfl; (try simp only [show (k_Item).sz = 5 from rfl, Nat.mul_one, Nat.add_zero] at hx21_3); have hf21_3 := hfr21 3; (try simp only [show (k_Item).sz = 5 from rfl, Nat.mul_one, Nat.add_zero] at hf21_3); clear hcl21 hcc21 hfr21 hM21) | ((with_reducible refine gate_store (t := 3) (p := 39) rfl ?_); refine store_event (t := 3) (p := 39) (v := ?vo_w22) (w1 := (w20.setCell ⟨go5, (x5_1 : Int).toNat * 5 + 3, none⟩ (.int .i64 (wrap64 ((wrap64 ((wrap64 (x1_1 + 1)) + 1)) + 1))))) ?hg ?ho ?hn ?hr ?_; (case ho => rfl); (case hg => rfl); (case hn => rfl); (case hr => first | (go_simp; done) | (go_simp; rfl)); intro w22 hw; have hg : w20.grownBy w22 (some go5) := (by rw [hw]; exact HP21.2); have hp_ : Kd.R k_Item 69 w22 w0.heap.size (fun k_ => (P0_ k_ ∨ w.heap.size ≤ k_)) (.slice (some ⟨go5, 0, none⟩) x0_1.length co12) y632 := (by rw [hw, Ny632.out]; exact HP21.1); clear HP21; have n0_ := Aside0.mk (hp_); have n1_ := Aside0.mk ((by rw [hw]; exact below_set (HB.out) GB5.out : Below w0.heap.size w0 w22)); have n2_ := Aside0.mk (Kept.of_grown (S := (fun k_ => P0_ k_)) hg (by repeat (first | (with_reducible first | exact HK.out | apply Kept.alloc | apply Kept.drewN | apply Kept.drew) | exact HK.out)) (fun k_ e_ => (HO_0.out.1 k_ e_))); clear HO_0; clear HB; clear HK; have HO_0 := n0_; have HB := n1_; have HK := n2_; clear n0_ n1_ n2_; clear hg hw hp_; have p11 : 0 ≤ (x5_1 : Int) := of_decide_eq_true (by first | (with_reducible assumption) | assumption); have q11 : (x5_1 : Int) < ((x0_1.length : Int) : Int) := of_decide_eq_true (by first | (with_reducible assumption) | assumption); obtain ⟨ce11, hcl11, hM11, hcc11, hfr11⟩ := Kd.R_elem HO_0.out z_Item (x5_1 : Int) p11 q11; obtain rfl := k_Item_openM hM11; have hx11_0 : w22.cell? ⟨go5, (x5_1 : Int).toNat * 5, none⟩ = some (.int .i64 ((rd_Item y632 x5_1).f0)) := hcc11 0 _ rfl; have hx11_1 : w22.cell? ⟨go5, (x5_1 : Int).toNat * 5 + 1, none⟩ = some (.string ((rd_Item y632 x5_1).f1)) := hcc11 1 _ rfl; have hx11_2 : w22.cell? ⟨go5, (x5_1 : Int).toNat * 5 + 2, none⟩ = some (.string ((rd_Item y632 x5_1).f2)) := hcc11 2 _ rfl; have hx11_3 : w22.cell? ⟨go5, (x5_1 : Int).toNat * 5 + 3, none⟩ = some (.int .i64 ((rd_Item y632 x5_1).f3)) := hcc11 3 _ rfl; have hx11_4 : w22.cell? ⟨go5, (x5_1 : Int).toNat * 5 + 4, none⟩ = some (.int .i64 ((rd_Item y632 x5_1).f4)) := hcc11 4 _ rfl; have hf11_0 : w22.frozen? ⟨go5, (x5_1 : Int).toNat * 5, none⟩ = false := hfr11 0; have hf11_1 : w22.frozen? ⟨go5, (x5_1 : Int).toNat * 5 + 1, none⟩ = false := hfr11 1; have hf11_2 : w22.frozen? ⟨go5, (x5_1 : Int).toNat * 5 + 2, none⟩ = false := hfr11 2; have hf11_3 : w22.frozen? ⟨go5, (x5_1 : Int).toNat * 5 + 3, none⟩ = false := hfr11 3; have hf11_4 : w22.frozen? ⟨go5, (x5_1 : Int).toNat * 5 + 4, none⟩ = false := hfr11 4; clear hcl11 hcc11 hfr11 hM11; replace p11 := eq_true p11; replace q11 := eq_true q11; have HX23 := Aside0.mk (show Kd.R k_Item 69 w22 w0.heap.size (fun k_ => (P0_ k_ ∨ w.heap.size ≤ k_)) (.slice (some ⟨go5, 0, none⟩) x0_1.length co12) y632 from (rq_ HO_0.out)); obtain ⟨ce23, hcl23, hM23, hcc23, hfr23⟩ := Kd.R_elem HX23.out z_Item (x5_1 : Int) (of_decide_eq_true (by first | (with_reducible assumption) | assumption)) (by have h_ : (x5_1 : Int) < ((x0_1.length : Int) : Int) := of_decide_eq_true (by first | (with_reducible assumption) | assumption); first | exact h_ | (have e_ := (Kd.R_reads' HO_0.out).1; omega) | simpa using h_); obtain rfl := k_Item_openM hM23; have HP23 := Kd.R_seg HX23.out (x5_1 : Int) (of_decide_eq_true (by first | (with_reducible assumption) | assumption)) (by have h_ : (x5_1 : Int) < ((x0_1.length : Int) : Int) := of_decide_eq_true (by first | (with_reducible assumption) | assumption); first | exact h_ | (have e_ := (Kd.R_reads' HO_0.out).1; omega) | simpa using h_) (seg := [.int .i64 (wrap64 ((wrap64 ((wrap64 ((wrap64 (x1_1 + 1)) + 1)) + 1)) + 1))]) (j := 4) hcl23 hcc23 (show 5 ≤ 5 from by decide) (x' := (⟨(rd_Item y632 x5_1).f0, (rd_Item y632 x5_1).f1, (rd_Item y632 x5_1).f2, (rd_Item y632 x5_1).f3, wrap64 ((wrap64 ((wrap64 ((wrap64 (x1_1 + 1)) + 1)) + 1)) + 1)⟩ : S_Item)) (k_Item_mkM _ _ _ (⟨(rd_Item y632 x5_1).f0, (rd_Item y632 x5_1).f1, (rd_Item y632 x5_1).f2, (rd_Item y632 x5_1).f3, wrap64 ((wrap64 ((wrap64 ((wrap64 (x1_1 + 1)) + 1)) + 1)) + 1)⟩ : S_Item) ) (fun _ hk => hk); have hx23_4 := hcc23 4 _ rfl; (try simp only [show (k_Item).sz = 5 from rfl, Nat.mul_one, Nat.add_zero] at hx23_4); have hf23_4 := hfr23 4; (try simp only [show (k_Item).sz = 5 from rfl, Nat.mul_one, Nat.add_zero] at hf23_4); clear hcl23 hcc23 hfr23 hM23) | ((with_reducible refine gate_store (t := 3) (p := 46) rfl ?_); refine store_event (t := 3) (p := 46) (v := ?vo_w24) (w1 := (w22.setCell ⟨go5, (x5_1 : Int).toNat * 5 + 4, none⟩ (.int .i64 (wrap64 ((wrap64 ((wrap64 ((wrap64 (x1_1 + 1)) + 1)) + 1)) + 1))))) ?hg ?ho ?hn ?hr ?_; (case ho => rfl); (case hg => rfl); (case hn => rfl); (case hr => first | (go_simp; done) | (go_simp; rfl)); intro w24 hw; have hg : w22.grownBy w24 (some go5) := (by rw [hw]; exact HP23.2); have hp_ : Kd.R k_Item 69 w24 w0.heap.size (fun k_ => (P0_ k_ ∨ w.heap.size ≤ k_)) (.slice (some ⟨go5, 0, none⟩) x0_1.length co12) y633 := (by rw [hw, Ny633.out]; exact HP23.1); clear HP23; have n0_ := Aside0.mk (hp_); have n1_ := Aside0.mk ((by rw [hw]; exact below_set (HB.out) GB5.out : Below w0.heap.size w0 w24)); have n2_ := Aside0.mk (Kept.of_grown (S := (fun k_ => P0_ k_)) hg (by repeat (first | (with_reducible first | exact HK.out | apply Kept.alloc | apply Kept.drewN | apply Kept.drew) | exact HK.out)) (fun k_ e_ => (HO_0.out.1 k_ e_))); clear HO_0; clear HB; clear HK; have HO_0 := n0_; have HB := n1_; have HK := n2_; clear n0_ n1_ n2_; clear hg hw hp_))
     go_roundg k1
     case measure => have := HK1.out; omega
     case rel => exact ⟨(y633), (wrap64 ((wrap64 ((wrap64 ((wrap64 ((wrap64 (x1_1 + 1)) + 1)) + 1)) + 1)) + 1)), (wrap64 (x5_1 + 1)), (by first | rfl | (simp; done) | (simp [*]; done)), (by first | rfl | (simp; done) | (simp [*]; done)), H', ⟨by have := HK1.out; omega⟩, ⟨rq_ HO_0.out⟩, ⟨by repeat (first | (with_reducible first | exact HK.out | apply Kept.alloc | apply Kept.drewN | apply Kept.drew) | exact HK.out)⟩, ⟨hb_ HB.out⟩⟩
    ·
     rw [if_neg c4] at H
     exact absurd H (by simp)
   ·
    rw [if_neg c3] at H
    have c3b0 : decide (x5_1 < (x0_1.length : Int)) = false := decide_eq_false c3
    clear c3
    simp only [Option.some.injEq, Prod.mk.injEq] at H
    obtain ⟨rfl, rfl⟩ := H
    obtain ⟨Ao25, co25, eo25⟩ := Kd.R_slice HO_0.out
    subst eo25
    go_wp2
    go_ret
    exact ⟨by first | rfl | (simp [errW_none, errW_some] <;> rfl) | (simp [*, errW_none, errW_some] <;> rfl), by (with_reducible repeat (first | apply Kd.R_alloc | apply Kd.R_drewN | apply Kd.R_drew)); exact HO_0.out, by repeat (first | (with_reducible first | exact HB.out | apply below_alloc | apply pw_below_drewN | apply below_drew1) | exact HB.out), by repeat (first | (with_reducible first | exact HK.out | apply Kept.alloc | apply Kept.drewN | apply Kept.drew) | exact HK.out)⟩

/-! ### laws_heldItemS: function 100 -/
mutual
def laws_heldItemS.l0 : Nat → List (S_Item) → Int → Int → Option (Int)
 | 0, _, _, _ => none
 | k + 1, x0, x1, x5 => if x5 < (x0.length : Int) then (laws_heldItemS.j1 k x0 x1 x5) else (some x1)
def laws_heldItemS.j1 : Nat → List (S_Item) → Int → Int → Option (Int)
 | 0, _, _, _ => none
 | k + 1, x0, x1, x5 => if 0 ≤ x5 then (if x5 < (x0.length : Int) then (if ((rd_Item x0 x5).f0) = x1 then (laws_heldItemS.j2 k x0 x1 x5) else (some (-1))) else (none)) else (none)
def laws_heldItemS.j2 : Nat → List (S_Item) → Int → Int → Option (Int)
 | 0, _, _, _ => none
 | k + 1, x0, x1, x5 => if 0 ≤ x5 then (if x5 < (x0.length : Int) then ((laws_markText.f k (wrap64 (x1 + 1))).bind fun t652 => (if ((rd_Item x0 x5).f1).toList = t652.toList then (laws_heldItemS.j3 k x0 (wrap64 (x1 + 1)) x5) else (some (-1)))) else (none)) else (none)
def laws_heldItemS.j3 : Nat → List (S_Item) → Int → Int → Option (Int)
 | 0, _, _, _ => none
 | k + 1, x0, x1, x5 => if 0 ≤ x5 then (if x5 < (x0.length : Int) then ((laws_markText.f k (wrap64 (x1 + 1))).bind fun t654 => (if ((rd_Item x0 x5).f2).toList = t654.toList then (laws_heldItemS.j4 k x0 (wrap64 (x1 + 1)) x5) else (some (-1)))) else (none)) else (none)
def laws_heldItemS.j4 : Nat → List (S_Item) → Int → Int → Option (Int)
 | 0, _, _, _ => none
 | k + 1, x0, x1, x5 => if 0 ≤ x5 then (if x5 < (x0.length : Int) then (if ((rd_Item x0 x5).f3) = (wrap64 (x1 + 1)) then (if ((rd_Item x0 x5).f4) = (wrap64 ((wrap64 (x1 + 1)) + 1)) then (laws_heldItemS.l0 k x0 (wrap64 ((wrap64 ((wrap64 (x1 + 1)) + 1)) + 1)) (wrap64 (x5 + 1))) else (some (-1))) else (some (-1))) else (none)) else (none)
end
def laws_heldItemS.f (k : Nat) (l0 : List (S_Item)) (a1 : Int) : Option (Int) := laws_heldItemS.l0 k l0 a1 0
theorem laws_heldItemS.mono_l : ∀ k, (∀ y0 y1 y2, LeO (laws_heldItemS.l0 k y0 y1 y2) (laws_heldItemS.l0 (k + 1) y0 y1 y2)) ∧ (∀ y0 y1 y2, LeO (laws_heldItemS.j1 k y0 y1 y2) (laws_heldItemS.j1 (k + 1) y0 y1 y2)) ∧ (∀ y0 y1 y2, LeO (laws_heldItemS.j2 k y0 y1 y2) (laws_heldItemS.j2 (k + 1) y0 y1 y2)) ∧ (∀ y0 y1 y2, LeO (laws_heldItemS.j3 k y0 y1 y2) (laws_heldItemS.j3 (k + 1) y0 y1 y2)) ∧ (∀ y0 y1 y2, LeO (laws_heldItemS.j4 k y0 y1 y2) (laws_heldItemS.j4 (k + 1) y0 y1 y2))
 | 0 => ⟨fun _ _ _ r h => by simp [laws_heldItemS.l0] at h, fun _ _ _ r h => by simp [laws_heldItemS.j1] at h, fun _ _ _ r h => by simp [laws_heldItemS.j2] at h, fun _ _ _ r h => by simp [laws_heldItemS.j3] at h, fun _ _ _ r h => by simp [laws_heldItemS.j4] at h⟩
 | k + 1 => by
  obtain ⟨ih0, ih1, ih2, ih3, ih4⟩ := laws_heldItemS.mono_l k
  refine ⟨?_, ?_, ?_, ?_, ?_⟩
  ·
   intro y0 y1 y2
   unfold laws_heldItemS.l0
   repeat' first
   | (with_reducible exact ih0 _ _ _)
   | (with_reducible exact ih1 _ _ _)
   | (with_reducible exact ih2 _ _ _)
   | (with_reducible exact ih3 _ _ _)
   | (with_reducible exact ih4 _ _ _)
   | (with_reducible exact laws_markText.mono _ _)
   | (with_reducible exact LeO.refl _)
   | (with_reducible exact LeO.none _)
   | (with_reducible refine LeO.ite ?_ ?_)
   | (with_reducible refine LeO.bind ?_ (fun _ => ?_))
   | exact ih0 _ _ _
   | exact ih1 _ _ _
   | exact ih2 _ _ _
   | exact ih3 _ _ _
   | exact ih4 _ _ _
   | exact laws_markText.mono _ _
   | exact LeO.none _
   | refine LeO.ite ?_ ?_
   | refine LeO.bind ?_ (fun _ => ?_)
  ·
   intro y0 y1 y2
   unfold laws_heldItemS.j1
   repeat' first
   | (with_reducible exact ih0 _ _ _)
   | (with_reducible exact ih1 _ _ _)
   | (with_reducible exact ih2 _ _ _)
   | (with_reducible exact ih3 _ _ _)
   | (with_reducible exact ih4 _ _ _)
   | (with_reducible exact laws_markText.mono _ _)
   | (with_reducible exact LeO.refl _)
   | (with_reducible exact LeO.none _)
   | (with_reducible refine LeO.ite ?_ ?_)
   | (with_reducible refine LeO.bind ?_ (fun _ => ?_))
   | exact ih0 _ _ _
   | exact ih1 _ _ _
   | exact ih2 _ _ _
   | exact ih3 _ _ _
   | exact ih4 _ _ _
   | exact laws_markText.mono _ _
   | exact LeO.none _
   | refine LeO.ite ?_ ?_
   | refine LeO.bind ?_ (fun _ => ?_)
  ·
   intro y0 y1 y2
   unfold laws_heldItemS.j2
   repeat' first
   | (with_reducible exact ih0 _ _ _)
   | (with_reducible exact ih1 _ _ _)
   | (with_reducible exact ih2 _ _ _)
   | (with_reducible exact ih3 _ _ _)
   | (with_reducible exact ih4 _ _ _)
   | (with_reducible exact laws_markText.mono _ _)
   | (with_reducible exact LeO.refl _)
   | (with_reducible exact LeO.none _)
   | (with_reducible refine LeO.ite ?_ ?_)
   | (with_reducible refine LeO.bind ?_ (fun _ => ?_))
   | exact ih0 _ _ _
   | exact ih1 _ _ _
   | exact ih2 _ _ _
   | exact ih3 _ _ _
   | exact ih4 _ _ _
   | exact laws_markText.mono _ _
   | exact LeO.none _
   | refine LeO.ite ?_ ?_
   | refine LeO.bind ?_ (fun _ => ?_)
  ·
   intro y0 y1 y2
   unfold laws_heldItemS.j3
   repeat' first
   | (with_reducible exact ih0 _ _ _)
   | (with_reducible exact ih1 _ _ _)
   | (with_reducible exact ih2 _ _ _)
   | (with_reducible exact ih3 _ _ _)
   | (with_reducible exact ih4 _ _ _)
   | (with_reducible exact laws_markText.mono _ _)
   | (with_reducible exact LeO.refl _)
   | (with_reducible exact LeO.none _)
   | (with_reducible refine LeO.ite ?_ ?_)
   | (with_reducible refine LeO.bind ?_ (fun _ => ?_))
   | exact ih0 _ _ _
   | exact ih1 _ _ _
   | exact ih2 _ _ _
   | exact ih3 _ _ _
   | exact ih4 _ _ _
   | exact laws_markText.mono _ _
   | exact LeO.none _
   | refine LeO.ite ?_ ?_
   | refine LeO.bind ?_ (fun _ => ?_)
  ·
   intro y0 y1 y2
   unfold laws_heldItemS.j4
   repeat' first
   | (with_reducible exact ih0 _ _ _)
   | (with_reducible exact ih1 _ _ _)
   | (with_reducible exact ih2 _ _ _)
   | (with_reducible exact ih3 _ _ _)
   | (with_reducible exact ih4 _ _ _)
   | (with_reducible exact laws_markText.mono _ _)
   | (with_reducible exact LeO.refl _)
   | (with_reducible exact LeO.none _)
   | (with_reducible refine LeO.ite ?_ ?_)
   | (with_reducible refine LeO.bind ?_ (fun _ => ?_))
   | exact ih0 _ _ _
   | exact ih1 _ _ _
   | exact ih2 _ _ _
   | exact ih3 _ _ _
   | exact ih4 _ _ _
   | exact laws_markText.mono _ _
   | exact LeO.none _
   | refine LeO.ite ?_ ?_
   | refine LeO.bind ?_ (fun _ => ?_)
theorem laws_heldItemS.mono : ∀ a0 a1 k, LeO (laws_heldItemS.f k a0 a1) (laws_heldItemS.f (k + 1) a0 a1) := by
 intro a0 a1 k
 obtain ⟨ih0, ih1, ih2, ih3, ih4⟩ := laws_heldItemS.mono_l k
 unfold laws_heldItemS.f
 repeat' first
  | (with_reducible exact ih0 _ _ _)
  | (with_reducible exact ih1 _ _ _)
  | (with_reducible exact ih2 _ _ _)
  | (with_reducible exact ih3 _ _ _)
  | (with_reducible exact ih4 _ _ _)
  | (with_reducible exact laws_markText.mono _ _)
  | (with_reducible exact LeO.refl _)
  | (with_reducible exact LeO.none _)
  | (with_reducible refine LeO.ite ?_ ?_)
  | (with_reducible refine LeO.bind ?_ (fun _ => ?_))
  | exact ih0 _ _ _
  | exact ih1 _ _ _
  | exact ih2 _ _ _
  | exact ih3 _ _ _
  | exact ih4 _ _ _
  | exact laws_markText.mono _ _
  | exact LeO.none _
  | refine LeO.ite ?_ ?_
  | refine LeO.bind ?_ (fun _ => ?_)
def laws_heldItemS.T7 : Bool × List (List Nat × List Nat) := (true, [([], []), ([], []), ([0, 1], [0, 1]), ([2], [2]), ([3], [3]), ([], []), ([5], [5]), ([4, 6], [4, 6])])
def laws_heldItemS.B7 : List Nat := [0, 0, 3, 7, 15, 0, 32, 127]
theorem laws_heldItemS.tab7 : rtab .any (opsOf Try.f100 7) = laws_heldItemS.T7 := by kernel_rfl
theorem laws_heldItemS.bits7 : waitsOk laws_heldItemS.T7.2 laws_heldItemS.B7 = true := by kernel_rfl
def laws_heldItemS.T10 : Bool × List (List Nat × List Nat) := (true, [([], []), ([], []), ([0, 1], [0, 1]), ([2], [2]), ([3], [3]), ([], []), ([5], [5]), ([4, 6], [4, 6])])
def laws_heldItemS.B10 : List Nat := [0, 0, 3, 7, 15, 0, 32, 127]
theorem laws_heldItemS.tab10 : rtab .any (opsOf Try.f100 10) = laws_heldItemS.T10 := by kernel_rfl
theorem laws_heldItemS.bits10 : waitsOk laws_heldItemS.T10.2 laws_heldItemS.B10 = true := by kernel_rfl
set_option maxHeartbeats 8000000 in
set_option maxRecDepth 100000 in
theorem laws_heldItemS.calls (k : Nat) (A0 : Option Addr) (c0 : Nat) (l0 : List (S_Item)) (a1 : Int) (r : Int) (w : World) (hr0 : Kd.C k_Item w A0 l0.length l0) (hc0 : l0.length ≤ c0) (h : laws_heldItemS.f k l0 a1 = some r) :
 Calls Try.prog 100 #[.slice A0 l0.length c0, .int .i64 a1] w fun e w' => e = .returned (.int .i64 r) ∧ Below w.heap.size w w' := by
 have HR0 := Aside0.mk hr0
 have HC0 := Aside0.mk hc0
 clear hr0 hc0
 have HB := Aside0.mk (Below.refl w.heap.size w)
 have H : (laws_heldItemS.l0 k l0 a1 0) = some r := h
 clear h
 have H' := Aside0.mk H
 clear H
 go_enter Try.func100, Try.ntmps100
 go_wp2
 go_loopg [1, 5] k (fun kq v1 v5 w' => ∃ (x1_1 : Int) (x5_1 : Int), v1 = .int .i64 x1_1 ∧ v5 = .int .i64 x5_1 ∧ Aside0 (laws_heldItemS.l0 kq l0 x1_1 x5_1 = some r) ∧ Aside0 (kq ≤ k) ∧ Aside0 (Below w.heap.size w w'))
 case atStart => exact ⟨(a1), (0), (by first | rfl | (simp; done) | (simp [*]; done)), (by first | rfl | (simp; done) | (simp [*]; done)), H', ⟨Nat.le_refl _⟩, ⟨hb_ HB.out⟩⟩
 case round =>
  clear H'
  (try clear c1); (try clear p2)
  obtain ⟨x1_1, x5_1, rfl, rfl, HA, HK1, HB⟩ := hrel
  cases gk with
  | zero => exact absurd HA.out (by simp [laws_heldItemS.l0])
  | succ k1 =>
   have H := HA.out
   clear HA
   simp only [laws_heldItemS.l0] at H
   have HC3 := Aside0.mk H
   clear H
   go_upto_if 9 with (fail)
   go_cut [] (fun wc => ∃ (kq : Nat), Aside0 (laws_heldItemS.j1 kq l0 x1_1 x5_1 = some r) ∧ Aside0 (kq ≤ k1) ∧ Aside0 (Below w.heap.size w wc))
   case first =>
    have H := HC3.out
    clear HC3
    by_cases c4 : x5_1 < (l0.length : Int)
    ·
     rw [if_pos c4] at H
     have c4b0 : decide (x5_1 < (l0.length : Int)) = true := decide_eq_true c4
     clear c4
     (first | rw [c4b0] | (simp only [i64_w, i32_w]; rw [c4b0]) | rw [c4b4] | rw [c4b3] | skip)
     have H' := Aside0.mk H
     clear H
     go_wp2
     go_meet
     case rel => exact ⟨_, H', ⟨by have := HK1.out; first | omega | exact Nat.le_refl _⟩, ⟨hb_ HB.out⟩⟩
    ·
     rw [if_neg c4] at H
     have c4b0 : decide (x5_1 < (l0.length : Int)) = false := decide_eq_false c4
     clear c4
     (first | rw [c4b0] | (simp only [i64_w, i32_w]; rw [c4b0]) | rw [c4b4] | rw [c4b3] | skip)
     obtain rfl := Option.some.inj H
     go_wp2
     go_ret
     exact ⟨by first | rfl | (simp [errW_none, errW_some] <;> rfl) | (simp [*, errW_none, errW_some] <;> rfl), hb_ HB.out⟩
   case rest =>
    clear HC3
    (try clear c1); (try clear p2); (try clear c4); (try clear c4b0); (try clear p2)
    obtain ⟨kq, HA, HJ2, HB⟩ := hcut
    cases kq with
    | zero => exact absurd HA.out (by simp [laws_heldItemS.j1])
    | succ kj2 =>
     have H := HA.out
     clear HA
     simp only [laws_heldItemS.j1] at H
     by_cases c5 : 0 ≤ x5_1
     ·
      rw [if_pos c5] at H
      have c5b0 : decide (0 ≤ x5_1) = true := decide_eq_true c5
      clear c5
      by_cases c6 : x5_1 < (l0.length : Int)
      ·
       rw [if_pos c6] at H
       have c6b0 : decide (x5_1 < (l0.length : Int)) = true := decide_eq_true c6
       clear c6
       have HC7 := Aside0.mk H
       clear H
       have p650 : 0 ≤ (x5_1 : Int) := of_decide_eq_true (by first | (with_reducible assumption) | assumption)
       have q650 : x5_1 < (l0.length : Int) := of_decide_eq_true (by first | (with_reducible assumption) | assumption)
       obtain ⟨ad650, e650, hx650_0, hx650_1, hx650_2, hx650_3, hx650_4⟩ := at_Item HR0.out x5_1 p650 q650
       cases e650
       replace hx650_0 := (HB.out.cell (World.block_lt_of_cell? w _ hx650_0)).trans hx650_0
       replace hx650_1 := (HB.out.cell (World.block_lt_of_cell? w _ hx650_1)).trans hx650_1
       replace hx650_2 := (HB.out.cell (World.block_lt_of_cell? w _ hx650_2)).trans hx650_2
       replace hx650_3 := (HB.out.cell (World.block_lt_of_cell? w _ hx650_3)).trans hx650_3
       replace hx650_4 := (HB.out.cell (World.block_lt_of_cell? w _ hx650_4)).trans hx650_4
       replace p650 := eq_true p650
       replace q650 := eq_true q650
       go_upto_if 18 with (fail)
       go_cut [] (fun wc => ∃ (kq : Nat), Aside0 (laws_heldItemS.j2 kq l0 x1_1 x5_1 = some r) ∧ Aside0 (kq ≤ kj2) ∧ Aside0 (Below w.heap.size w wc))
       case first =>
        have H := HC7.out
        clear HC7
        by_cases c8 : ((rd_Item l0 x5_1).f0) = x1_1
        ·
         rw [if_pos c8] at H
         have c8b0 : (((rd_Item l0 x5_1).f0) == x1_1) = true := beq_iff_eq.mpr c8
         have c8b1 : (((rd_Item l0 x5_1).f0) != x1_1) = false := bne_eq_false_iff_eq.mpr c8
         clear c8
         (first | rw [c8b0] | (simp only [i64_w, i32_w]; rw [c8b0]) | rw [c8b4] | rw [c8b3] | skip)
         have H' := Aside0.mk H
         clear H
         go_wp2
         go_meet
         case rel => exact ⟨_, H', ⟨by have := HK1.out; have := HJ2.out; first | omega | exact Nat.le_refl _⟩, ⟨hb_ HB.out⟩⟩
        ·
         rw [if_neg c8] at H
         have c8b0 : (((rd_Item l0 x5_1).f0) == x1_1) = false := beq_eq_false_iff_ne.mpr c8
         have c8b1 : (((rd_Item l0 x5_1).f0) != x1_1) = true := bne_iff_ne.mpr c8
         (first | rw [c8b0] | (simp only [i64_w, i32_w]; rw [c8b0]) | rw [c8b4] | rw [c8b3] | skip)
         obtain rfl := Option.some.inj H
         go_wp2
         go_ret
         exact ⟨by first | rfl | (simp [errW_none, errW_some] <;> rfl) | (simp [*, errW_none, errW_some] <;> rfl), hb_ HB.out⟩
       case rest =>
        clear HC7
        (try clear c1); (try clear p2); (try clear c4); (try clear c4b0); (try clear c5); (try clear c5b0); (try clear c6); (try clear c6b0); (try clear p6); (try clear q6); (try clear hx6); (try clear c8); (try clear c8b0); (try clear c8b1); (try clear hx650_0); (try clear hx650_1); (try clear hx650_2); (try clear hx650_3); (try clear hx650_4); (try clear p2); (try clear p650); (try clear q650)
        obtain ⟨kq, HA, HJ6, HB⟩ := hcut
        cases kq with
        | zero => exact absurd HA.out (by simp [laws_heldItemS.j2])
        | succ kj6 =>
         have H := HA.out
         clear HA
         simp only [laws_heldItemS.j2] at H
         by_cases c9 : 0 ≤ x5_1
         ·
          rw [if_pos c9] at H
          have c9b0 : decide (0 ≤ x5_1) = true := decide_eq_true c9
          clear c9
          by_cases c10 : x5_1 < (l0.length : Int)
          ·
           rw [if_pos c10] at H
           have c10b0 : decide (x5_1 < (l0.length : Int)) = true := decide_eq_true c10
           clear c10
           replace H := Option.bind_eq_some_iff.mp H
           obtain ⟨t652, A110, H⟩ := H
           replace H : (if ((rd_Item l0 x5_1).f1).toList = t652.toList then (laws_heldItemS.j3 kj6 l0 (wrap64 (x1_1 + 1)) x5_1) else (some (-1))) = some r := H
           have A11 := Aside0.mk A110
           clear A110
           have HC12 := Aside0.mk H
           clear H
           try go_wp2
           have n0_ := Aside0.mk (below_drew1 HB.out)
           clear HB
           have HB := n0_
           clear n0_
           have p651 : 0 ≤ (x5_1 : Int) := of_decide_eq_true (by first | (with_reducible assumption) | assumption)
           have q651 : x5_1 < (l0.length : Int) := of_decide_eq_true (by first | (with_reducible assumption) | assumption)
           obtain ⟨ad651, e651, hx651_0, hx651_1, hx651_2, hx651_3, hx651_4⟩ := at_Item HR0.out x5_1 p651 q651
           have hw651_4 := hx651_4
           have hw651_3 := hx651_3
           have hw651_2 := hx651_2
           have hw651_1 := hx651_1
           have hw651_0 := hx651_0
           obtain rfl : ad650 = ad651 := (by injection e651)
           replace hx651_0 := (HB.out.cell (World.block_lt_of_cell? w _ hx651_0)).trans hx651_0
           replace hx651_1 := (HB.out.cell (World.block_lt_of_cell? w _ hx651_1)).trans hx651_1
           replace hx651_2 := (HB.out.cell (World.block_lt_of_cell? w _ hx651_2)).trans hx651_2
           replace hx651_3 := (HB.out.cell (World.block_lt_of_cell? w _ hx651_3)).trans hx651_3
           replace hx651_4 := (HB.out.cell (World.block_lt_of_cell? w _ hx651_4)).trans hx651_4
           replace p651 := eq_true p651
           replace q651 := eq_true q651
           refine start_ (n := 8) (S := fun w' => w'.cell? (ad650.add ((x5_1).toNat * 5)) = some (.int .i64 ((rd_Item l0 x5_1).f0)) ∧ w'.cell? ⟨(ad650.add ((x5_1).toNat * 5)).block, (ad650.add ((x5_1).toNat * 5)).off + 1, none⟩ = some (.string ((rd_Item l0 x5_1).f1)) ∧ w'.cell? ⟨(ad650.add ((x5_1).toNat * 5)).block, (ad650.add ((x5_1).toNat * 5)).off + 2, none⟩ = some (.string ((rd_Item l0 x5_1).f2)) ∧ w'.cell? ⟨(ad650.add ((x5_1).toNat * 5)).block, (ad650.add ((x5_1).toNat * 5)).off + 3, none⟩ = some (.int .i64 ((rd_Item l0 x5_1).f3)) ∧ w'.cell? ⟨(ad650.add ((x5_1).toNat * 5)).block, (ad650.add ((x5_1).toNat * 5)).off + 4, none⟩ = some (.int .i64 ((rd_Item l0 x5_1).f4))) (ds := []) #[false, false, false, false, false, false, false, false] (by kernel_rfl) rfl rfl ⟨((HB.out.cell (World.block_lt_of_cell? w _ hw651_0)).trans hw651_0), ((HB.out.cell (World.block_lt_of_cell? w _ hw651_1)).trans hw651_1), ((HB.out.cell (World.block_lt_of_cell? w _ hw651_2)).trans hw651_2), ((HB.out.cell (World.block_lt_of_cell? w _ hw651_3)).trans hw651_3), ((HB.out.cell (World.block_lt_of_cell? w _ hw651_4)).trans hw651_4)⟩ (fun hHeld => ?_); refine with_tabW laws_heldItemS.tab7 laws_heldItemS.bits7 (fun HT_ HW_ => ?_)
           generalize wc.drew = w13 at HB hx651_0 hx651_1 hx651_2 hx651_3 hx651_4 hHeld ⊢
           refine pI_ 0 21 HT_ #[true, false, false, false, false, false, false, false] rfl rfl ?_
           refine pI_ 1 22 HT_ #[true, true, false, false, false, false, false, false] rfl rfl ?_
           refine pI_ 2 23 HT_ #[true, true, true, false, false, false, false, false] rfl rfl ?_
           refine pI_ 3 24 HT_ #[true, true, true, true, false, false, false, false] rfl rfl ?_
           refine pI_ 5 26 HT_ #[true, true, true, true, false, true, false, false] rfl rfl ?_
           refine take_ (i := 4) (N := some 25) (v := ?_) (a' := ?_) #[true, true, true, true, true, true, false, false] rfl rfl (take_ofW HT_.out HW_.out (by kernel_rfl)) (fun _ _ _ h => h) (Or.inl ⟨by rfl, ?_⟩) hHeld ?_ ?_
           rotate_left
           ·
            rintro w' ⟨s0, s1, s2, s3, s4⟩
            go_simp
            with_reducible rfl
           rotate_left; (focus simp only [Act.put, List.setIfInBounds_toArray, List.set_cons_zero, List.set_cons_succ, i64_w, i32_w]; rfl)
           refine one_ (i := 6) (N := some 27) #[true, true, true, true, true, true, true, false] rfl rfl (one_of HT_.out (by kernel_rfl)) (by decide) (fun K hK => ?_)
           refine goes_ Try.func153 (by kernel_rfl) rfl #[.int .i64 (wrap64 (x1_1 + 1))] (by rfl) rfl rfl sm_ ?_
           with_reducible refine (laws_markText.calls kj6 (wrap64 (x1_1 + 1)) t652 _ A11.out).mono ?_
           rintro e w14 ⟨rfl, hb⟩
           refine ⟨_, rfl, ?_⟩
           have n0_ := Aside0.mk (below_step (hb_ HB.out) hb)
           clear HB
           have HB := n0_
           clear n0_
           (try clear hb)
           (try clear hb2)
           (try clear hk)
           (try clear hi)
           refine hK.out _ _ ⟨((HB.out.cell (World.block_lt_of_cell? w _ hw651_0)).trans hw651_0), ((HB.out.cell (World.block_lt_of_cell? w _ hw651_1)).trans hw651_1), ((HB.out.cell (World.block_lt_of_cell? w _ hw651_2)).trans hw651_2), ((HB.out.cell (World.block_lt_of_cell? w _ hw651_3)).trans hw651_3), ((HB.out.cell (World.block_lt_of_cell? w _ hw651_4)).trans hw651_4)⟩ (fun hHeld => ?_)
           clear hK K
           refine norm_ (a' := ?_) ?_ ?_
           rotate_left
           ·
            show Act.put _ (some 27) _ = _
            simp only [Act.put, List.setIfInBounds_toArray, List.set_cons_zero, List.set_cons_succ, i64_w, i32_w]
            rfl
           refine pI_ 7 28 HT_ #[true, true, true, true, true, true, true, true] rfl rfl ?_
           refine done_ (done_of HT_.out (by kernel_rfl)) ?_
           go_upto_if 28 with (fail)
           go_cut [] (fun wc => ∃ (kq : Nat), Aside0 (laws_heldItemS.j3 kq l0 (wrap64 (x1_1 + 1)) x5_1 = some r) ∧ Aside0 (kq ≤ kj6) ∧ Aside0 (Below w.heap.size w wc))
           case first =>
            have H := HC12.out
            clear HC12
            by_cases c15 : ((rd_Item l0 x5_1).f1).toList = t652.toList
            ·
             rw [if_pos c15] at H
             have c15b0 : (((rd_Item l0 x5_1).f1).toList == t652.toList) = true := beq_iff_eq.mpr c15
             have c15b1 : (((rd_Item l0 x5_1).f1).toList != t652.toList) = false := bne_eq_false_iff_eq.mpr c15
             clear c15
             (first | rw [c15b0] | (simp only [i64_w, i32_w]; rw [c15b0]) | rw [c15b4] | rw [c15b3] | skip)
             have H' := Aside0.mk H
             clear H
             go_wp2
             go_meet
             case rel => exact ⟨_, H', ⟨by have := HK1.out; have := HJ2.out; have := HJ6.out; first | omega | exact Nat.le_refl _⟩, ⟨hb_ HB.out⟩⟩
            ·
             rw [if_neg c15] at H
             have c15b0 : (((rd_Item l0 x5_1).f1).toList == t652.toList) = false := beq_eq_false_iff_ne.mpr c15
             have c15b1 : (((rd_Item l0 x5_1).f1).toList != t652.toList) = true := bne_iff_ne.mpr c15
             (first | rw [c15b0] | (simp only [i64_w, i32_w]; rw [c15b0]) | rw [c15b4] | rw [c15b3] | skip)
             obtain rfl := Option.some.inj H
             go_wp2
             go_ret
             exact ⟨by first | rfl | (simp [errW_none, errW_some] <;> rfl) | (simp [*, errW_none, errW_some] <;> rfl), hb_ HB.out⟩
           case rest =>
            clear HC12
            (try clear c1); (try clear p2); (try clear c4); (try clear c4b0); (try clear c5); (try clear c5b0); (try clear c6); (try clear c6b0); (try clear p6); (try clear q6); (try clear hx6); (try clear c8); (try clear c8b0); (try clear c8b1); (try clear c9); (try clear c9b0); (try clear c10); (try clear c10b0); (try clear c15); (try clear c15b0); (try clear c15b1); (try clear hx650_0); (try clear hx650_1); (try clear hx650_2); (try clear hx650_3); (try clear hx650_4); (try clear hx651_0); (try clear hx651_1); (try clear hx651_2); (try clear hx651_3); (try clear hx651_4); (try clear p2); (try clear p6); (try clear p650); (try clear p651); (try clear q6); (try clear q650); (try clear q651)
            obtain ⟨kq, HA, HJ11, HB⟩ := hcut
            cases kq with
            | zero => exact absurd HA.out (by simp [laws_heldItemS.j3])
            | succ kj11 =>
             have H := HA.out
             clear HA
             simp only [laws_heldItemS.j3] at H
             by_cases c16 : 0 ≤ x5_1
             ·
              rw [if_pos c16] at H
              have c16b0 : decide (0 ≤ x5_1) = true := decide_eq_true c16
              clear c16
              by_cases c17 : x5_1 < (l0.length : Int)
              ·
               rw [if_pos c17] at H
               have c17b0 : decide (x5_1 < (l0.length : Int)) = true := decide_eq_true c17
               clear c17
               replace H := Option.bind_eq_some_iff.mp H
               obtain ⟨t654, A180, H⟩ := H
               replace H : (if ((rd_Item l0 x5_1).f2).toList = t654.toList then (laws_heldItemS.j4 kj11 l0 (wrap64 ((wrap64 (x1_1 + 1)) + 1)) x5_1) else (some (-1))) = some r := H
               have A18 := Aside0.mk A180
               clear A180
               have HC19 := Aside0.mk H
               clear H
               try go_wp2
               have n0_ := Aside0.mk (below_drew1 HB.out)
               clear HB
               have HB := n0_
               clear n0_
               have p653 : 0 ≤ (x5_1 : Int) := of_decide_eq_true (by first | (with_reducible assumption) | assumption)
               have q653 : x5_1 < (l0.length : Int) := of_decide_eq_true (by first | (with_reducible assumption) | assumption)
               obtain ⟨ad653, e653, hx653_0, hx653_1, hx653_2, hx653_3, hx653_4⟩ := at_Item HR0.out x5_1 p653 q653
               have hw653_4 := hx653_4
               have hw653_3 := hx653_3
               have hw653_2 := hx653_2
               have hw653_1 := hx653_1
               have hw653_0 := hx653_0
               obtain rfl : ad650 = ad653 := (by injection e653)
               replace hx653_0 := (HB.out.cell (World.block_lt_of_cell? w _ hx653_0)).trans hx653_0
               replace hx653_1 := (HB.out.cell (World.block_lt_of_cell? w _ hx653_1)).trans hx653_1
               replace hx653_2 := (HB.out.cell (World.block_lt_of_cell? w _ hx653_2)).trans hx653_2
               replace hx653_3 := (HB.out.cell (World.block_lt_of_cell? w _ hx653_3)).trans hx653_3
               replace hx653_4 := (HB.out.cell (World.block_lt_of_cell? w _ hx653_4)).trans hx653_4
               replace p653 := eq_true p653
               replace q653 := eq_true q653
               refine start_ (n := 8) (S := fun w' => w'.cell? (ad650.add ((x5_1).toNat * 5)) = some (.int .i64 ((rd_Item l0 x5_1).f0)) ∧ w'.cell? ⟨(ad650.add ((x5_1).toNat * 5)).block, (ad650.add ((x5_1).toNat * 5)).off + 1, none⟩ = some (.string ((rd_Item l0 x5_1).f1)) ∧ w'.cell? ⟨(ad650.add ((x5_1).toNat * 5)).block, (ad650.add ((x5_1).toNat * 5)).off + 2, none⟩ = some (.string ((rd_Item l0 x5_1).f2)) ∧ w'.cell? ⟨(ad650.add ((x5_1).toNat * 5)).block, (ad650.add ((x5_1).toNat * 5)).off + 3, none⟩ = some (.int .i64 ((rd_Item l0 x5_1).f3)) ∧ w'.cell? ⟨(ad650.add ((x5_1).toNat * 5)).block, (ad650.add ((x5_1).toNat * 5)).off + 4, none⟩ = some (.int .i64 ((rd_Item l0 x5_1).f4))) (ds := []) #[false, false, false, false, false, false, false, false] (by kernel_rfl) rfl rfl ⟨((HB.out.cell (World.block_lt_of_cell? w _ hw653_0)).trans hw653_0), ((HB.out.cell (World.block_lt_of_cell? w _ hw653_1)).trans hw653_1), ((HB.out.cell (World.block_lt_of_cell? w _ hw653_2)).trans hw653_2), ((HB.out.cell (World.block_lt_of_cell? w _ hw653_3)).trans hw653_3), ((HB.out.cell (World.block_lt_of_cell? w _ hw653_4)).trans hw653_4)⟩ (fun hHeld => ?_); refine with_tabW laws_heldItemS.tab10 laws_heldItemS.bits10 (fun HT_ HW_ => ?_)
               generalize wc.drew = w20 at HB hx653_0 hx653_1 hx653_2 hx653_3 hx653_4 hHeld ⊢
               refine pI_ 0 31 HT_ #[true, false, false, false, false, false, false, false] rfl rfl ?_
               refine pI_ 1 32 HT_ #[true, true, false, false, false, false, false, false] rfl rfl ?_
               refine pI_ 2 33 HT_ #[true, true, true, false, false, false, false, false] rfl rfl ?_
               refine pI_ 3 34 HT_ #[true, true, true, true, false, false, false, false] rfl rfl ?_
               refine pI_ 5 36 HT_ #[true, true, true, true, false, true, false, false] rfl rfl ?_
               refine take_ (i := 4) (N := some 35) (v := ?_) (a' := ?_) #[true, true, true, true, true, true, false, false] rfl rfl (take_ofW HT_.out HW_.out (by kernel_rfl)) (fun _ _ _ h => h) (Or.inl ⟨by rfl, ?_⟩) hHeld ?_ ?_
               rotate_left
               ·
                rintro w' ⟨s0, s1, s2, s3, s4⟩
                go_simp
                with_reducible rfl
               rotate_left; (focus simp only [Act.put, List.setIfInBounds_toArray, List.set_cons_zero, List.set_cons_succ, i64_w, i32_w]; rfl)
               refine one_ (i := 6) (N := some 37) #[true, true, true, true, true, true, true, false] rfl rfl (one_of HT_.out (by kernel_rfl)) (by decide) (fun K hK => ?_)
               refine goes_ Try.func153 (by kernel_rfl) rfl #[.int .i64 (wrap64 ((wrap64 (x1_1 + 1)) + 1))] (by rfl) rfl rfl sm_ ?_
               with_reducible refine (laws_markText.calls kj11 (wrap64 ((wrap64 (x1_1 + 1)) + 1)) t654 _ A18.out).mono ?_
               rintro e w21 ⟨rfl, hb⟩
               refine ⟨_, rfl, ?_⟩
               have n0_ := Aside0.mk (below_step (hb_ HB.out) hb)
               clear HB
               have HB := n0_
               clear n0_
               (try clear hb)
               (try clear hb2)
               (try clear hk)
               (try clear hi)
               refine hK.out _ _ ⟨((HB.out.cell (World.block_lt_of_cell? w _ hw653_0)).trans hw653_0), ((HB.out.cell (World.block_lt_of_cell? w _ hw653_1)).trans hw653_1), ((HB.out.cell (World.block_lt_of_cell? w _ hw653_2)).trans hw653_2), ((HB.out.cell (World.block_lt_of_cell? w _ hw653_3)).trans hw653_3), ((HB.out.cell (World.block_lt_of_cell? w _ hw653_4)).trans hw653_4)⟩ (fun hHeld => ?_)
               clear hK K
               refine norm_ (a' := ?_) ?_ ?_
               rotate_left
               ·
                show Act.put _ (some 37) _ = _
                simp only [Act.put, List.setIfInBounds_toArray, List.set_cons_zero, List.set_cons_succ, i64_w, i32_w]
                rfl
               refine pI_ 7 38 HT_ #[true, true, true, true, true, true, true, true] rfl rfl ?_
               refine done_ (done_of HT_.out (by kernel_rfl)) ?_
               go_upto_if 38 with (fail)
               go_cut [] (fun wc => ∃ (kq : Nat), Aside0 (laws_heldItemS.j4 kq l0 (wrap64 ((wrap64 (x1_1 + 1)) + 1)) x5_1 = some r) ∧ Aside0 (kq ≤ kj11) ∧ Aside0 (Below w.heap.size w wc))
               case first =>
                have H := HC19.out
                clear HC19
                by_cases c22 : ((rd_Item l0 x5_1).f2).toList = t654.toList
                ·
                 rw [if_pos c22] at H
                 have c22b0 : (((rd_Item l0 x5_1).f2).toList == t654.toList) = true := beq_iff_eq.mpr c22
                 have c22b1 : (((rd_Item l0 x5_1).f2).toList != t654.toList) = false := bne_eq_false_iff_eq.mpr c22
                 clear c22
                 (first | rw [c22b0] | (simp only [i64_w, i32_w]; rw [c22b0]) | rw [c22b4] | rw [c22b3] | skip)
                 have H' := Aside0.mk H
                 clear H
                 go_wp2
                 go_meet
                 case rel => exact ⟨_, H', ⟨by have := HK1.out; have := HJ2.out; have := HJ6.out; have := HJ11.out; first | omega | exact Nat.le_refl _⟩, ⟨hb_ HB.out⟩⟩
                ·
                 rw [if_neg c22] at H
                 have c22b0 : (((rd_Item l0 x5_1).f2).toList == t654.toList) = false := beq_eq_false_iff_ne.mpr c22
                 have c22b1 : (((rd_Item l0 x5_1).f2).toList != t654.toList) = true := bne_iff_ne.mpr c22
                 (first | rw [c22b0] | (simp only [i64_w, i32_w]; rw [c22b0]) | rw [c22b4] | rw [c22b3] | skip)
                 obtain rfl := Option.some.inj H
                 go_wp2
                 go_ret
                 exact ⟨by first | rfl | (simp [errW_none, errW_some] <;> rfl) | (simp [*, errW_none, errW_some] <;> rfl), hb_ HB.out⟩
               case rest =>
                clear HC19
                (try clear c1); (try clear c2); (try clear p2); (try clear c4); (try clear c4b0); (try clear c5); (try clear c5b0); (try clear c6); (try clear c6b0); (try clear p6); (try clear q6); (try clear hx6); (try clear c8); (try clear c8b0); (try clear c8b1); (try clear c9); (try clear c9b0); (try clear c10); (try clear c10b0); (try clear c15); (try clear c15b0); (try clear c15b1); (try clear c16); (try clear c16b0); (try clear c17); (try clear c17b0); (try clear c22); (try clear c22b0); (try clear c22b1); (try clear hx650_0); (try clear hx650_1); (try clear hx650_2); (try clear hx650_3); (try clear hx650_4); (try clear hx651_0); (try clear hx651_1); (try clear hx651_2); (try clear hx651_3); (try clear hx651_4); (try clear hx653_0); (try clear hx653_1); (try clear hx653_2); (try clear hx653_3); (try clear hx653_4); (try clear p2); (try clear p6); (try clear p650); (try clear p651); (try clear p653); (try clear q6); (try clear q650); (try clear q651); (try clear q653)
                obtain ⟨kq, HA, HJ18, HB⟩ := hcut
                cases kq with
                | zero => exact absurd HA.out (by simp [laws_heldItemS.j4])
                | succ kj18 =>
                 have H := HA.out
                 clear HA
                 simp only [laws_heldItemS.j4] at H
                 by_cases c23 : 0 ≤ x5_1
                 ·
                  rw [if_pos c23] at H
                  have c23b0 : decide (0 ≤ x5_1) = true := decide_eq_true c23
                  clear c23
                  by_cases c24 : x5_1 < (l0.length : Int)
                  ·
                   rw [if_pos c24] at H
                   have c24b0 : decide (x5_1 < (l0.length : Int)) = true := decide_eq_true c24
                   clear c24
                   by_cases c25 : ((rd_Item l0 x5_1).f3) = (wrap64 ((wrap64 ((wrap64 (x1_1 + 1)) + 1)) + 1))
                   ·
                    rw [if_pos c25] at H
                    have c25b0 : (((rd_Item l0 x5_1).f3) == (wrap64 ((wrap64 ((wrap64 (x1_1 + 1)) + 1)) + 1))) = true := beq_iff_eq.mpr c25
                    have c25b1 : (((rd_Item l0 x5_1).f3) != (wrap64 ((wrap64 ((wrap64 (x1_1 + 1)) + 1)) + 1))) = false := bne_eq_false_iff_eq.mpr c25
                    clear c25
                    by_cases c26 : ((rd_Item l0 x5_1).f4) = (wrap64 ((wrap64 ((wrap64 ((wrap64 (x1_1 + 1)) + 1)) + 1)) + 1))
                    ·
                     rw [if_pos c26] at H
                     have c26b0 : (((rd_Item l0 x5_1).f4) == (wrap64 ((wrap64 ((wrap64 ((wrap64 (x1_1 + 1)) + 1)) + 1)) + 1))) = true := beq_iff_eq.mpr c26
                     have c26b1 : (((rd_Item l0 x5_1).f4) != (wrap64 ((wrap64 ((wrap64 ((wrap64 (x1_1 + 1)) + 1)) + 1)) + 1))) = false := bne_eq_false_iff_eq.mpr c26
                     clear c26
                     have H' := Aside0.mk H
                     clear H
                     have p655 : 0 ≤ (x5_1 : Int) := of_decide_eq_true (by first | (with_reducible assumption) | assumption)
                     have q655 : x5_1 < (l0.length : Int) := of_decide_eq_true (by first | (with_reducible assumption) | assumption)
                     obtain ⟨ad655, e655, hx655_0, hx655_1, hx655_2, hx655_3, hx655_4⟩ := at_Item HR0.out x5_1 p655 q655
                     obtain rfl : ad650 = ad655 := (by injection e655)
                     replace hx655_0 := (HB.out.cell (World.block_lt_of_cell? w _ hx655_0)).trans hx655_0
                     replace hx655_1 := (HB.out.cell (World.block_lt_of_cell? w _ hx655_1)).trans hx655_1
                     replace hx655_2 := (HB.out.cell (World.block_lt_of_cell? w _ hx655_2)).trans hx655_2
                     replace hx655_3 := (HB.out.cell (World.block_lt_of_cell? w _ hx655_3)).trans hx655_3
                     replace hx655_4 := (HB.out.cell (World.block_lt_of_cell? w _ hx655_4)).trans hx655_4
                     replace p655 := eq_true p655
                     replace q655 := eq_true q655
                     have p656 : 0 ≤ (x5_1 : Int) := of_decide_eq_true (by first | (with_reducible assumption) | assumption)
                     have q656 : x5_1 < (l0.length : Int) := of_decide_eq_true (by first | (with_reducible assumption) | assumption)
                     obtain ⟨ad656, e656, hx656_0, hx656_1, hx656_2, hx656_3, hx656_4⟩ := at_Item HR0.out x5_1 p656 q656
                     obtain rfl : ad650 = ad656 := (by injection e656)
                     replace hx656_0 := (HB.out.cell (World.block_lt_of_cell? w _ hx656_0)).trans hx656_0
                     replace hx656_1 := (HB.out.cell (World.block_lt_of_cell? w _ hx656_1)).trans hx656_1
                     replace hx656_2 := (HB.out.cell (World.block_lt_of_cell? w _ hx656_2)).trans hx656_2
                     replace hx656_3 := (HB.out.cell (World.block_lt_of_cell? w _ hx656_3)).trans hx656_3
                     replace hx656_4 := (HB.out.cell (World.block_lt_of_cell? w _ hx656_4)).trans hx656_4
                     replace p656 := eq_true p656
                     replace q656 := eq_true q656
                     go_wp2
                     go_roundg kj18
                     case measure => have := HK1.out; have := HJ2.out; have := HJ6.out; have := HJ11.out; have := HJ18.out; omega
                     case rel => exact ⟨(wrap64 ((wrap64 ((wrap64 ((wrap64 ((wrap64 (x1_1 + 1)) + 1)) + 1)) + 1)) + 1)), (wrap64 (x5_1 + 1)), (by first | rfl | (simp; done) | (simp [*]; done)), (by first | rfl | (simp; done) | (simp [*]; done)), H', ⟨by have := HK1.out; have := HJ2.out; have := HJ6.out; have := HJ11.out; have := HJ18.out; omega⟩, ⟨hb_ HB.out⟩⟩
                    ·
                     rw [if_neg c26] at H
                     have c26b0 : (((rd_Item l0 x5_1).f4) == (wrap64 ((wrap64 ((wrap64 ((wrap64 (x1_1 + 1)) + 1)) + 1)) + 1))) = false := beq_eq_false_iff_ne.mpr c26
                     have c26b1 : (((rd_Item l0 x5_1).f4) != (wrap64 ((wrap64 ((wrap64 ((wrap64 (x1_1 + 1)) + 1)) + 1)) + 1))) = true := bne_iff_ne.mpr c26
                     obtain rfl := Option.some.inj H
                     have p655 : 0 ≤ (x5_1 : Int) := of_decide_eq_true (by first | (with_reducible assumption) | assumption)
                     have q655 : x5_1 < (l0.length : Int) := of_decide_eq_true (by first | (with_reducible assumption) | assumption)
                     obtain ⟨ad655, e655, hx655_0, hx655_1, hx655_2, hx655_3, hx655_4⟩ := at_Item HR0.out x5_1 p655 q655
                     obtain rfl : ad650 = ad655 := (by injection e655)
                     replace hx655_0 := (HB.out.cell (World.block_lt_of_cell? w _ hx655_0)).trans hx655_0
                     replace hx655_1 := (HB.out.cell (World.block_lt_of_cell? w _ hx655_1)).trans hx655_1
                     replace hx655_2 := (HB.out.cell (World.block_lt_of_cell? w _ hx655_2)).trans hx655_2
                     replace hx655_3 := (HB.out.cell (World.block_lt_of_cell? w _ hx655_3)).trans hx655_3
                     replace hx655_4 := (HB.out.cell (World.block_lt_of_cell? w _ hx655_4)).trans hx655_4
                     replace p655 := eq_true p655
                     replace q655 := eq_true q655
                     have p656 : 0 ≤ (x5_1 : Int) := of_decide_eq_true (by first | (with_reducible assumption) | assumption)
                     have q656 : x5_1 < (l0.length : Int) := of_decide_eq_true (by first | (with_reducible assumption) | assumption)
                     obtain ⟨ad656, e656, hx656_0, hx656_1, hx656_2, hx656_3, hx656_4⟩ := at_Item HR0.out x5_1 p656 q656
                     obtain rfl : ad650 = ad656 := (by injection e656)
                     replace hx656_0 := (HB.out.cell (World.block_lt_of_cell? w _ hx656_0)).trans hx656_0
                     replace hx656_1 := (HB.out.cell (World.block_lt_of_cell? w _ hx656_1)).trans hx656_1
                     replace hx656_2 := (HB.out.cell (World.block_lt_of_cell? w _ hx656_2)).trans hx656_2
                     replace hx656_3 := (HB.out.cell (World.block_lt_of_cell? w _ hx656_3)).trans hx656_3
                     replace hx656_4 := (HB.out.cell (World.block_lt_of_cell? w _ hx656_4)).trans hx656_4
                     replace p656 := eq_true p656
                     replace q656 := eq_true q656
                     go_wp2
                     go_ret
                     exact ⟨by first | rfl | (simp [errW_none, errW_some] <;> rfl) | (simp [*, errW_none, errW_some] <;> rfl), hb_ HB.out⟩
                   ·
                    rw [if_neg c25] at H
                    have c25b0 : (((rd_Item l0 x5_1).f3) == (wrap64 ((wrap64 ((wrap64 (x1_1 + 1)) + 1)) + 1))) = false := beq_eq_false_iff_ne.mpr c25
                    have c25b1 : (((rd_Item l0 x5_1).f3) != (wrap64 ((wrap64 ((wrap64 (x1_1 + 1)) + 1)) + 1))) = true := bne_iff_ne.mpr c25
                    obtain rfl := Option.some.inj H
                    have p655 : 0 ≤ (x5_1 : Int) := of_decide_eq_true (by first | (with_reducible assumption) | assumption)
                    have q655 : x5_1 < (l0.length : Int) := of_decide_eq_true (by first | (with_reducible assumption) | assumption)
                    obtain ⟨ad655, e655, hx655_0, hx655_1, hx655_2, hx655_3, hx655_4⟩ := at_Item HR0.out x5_1 p655 q655
                    obtain rfl : ad650 = ad655 := (by injection e655)
                    replace hx655_0 := (HB.out.cell (World.block_lt_of_cell? w _ hx655_0)).trans hx655_0
                    replace hx655_1 := (HB.out.cell (World.block_lt_of_cell? w _ hx655_1)).trans hx655_1
                    replace hx655_2 := (HB.out.cell (World.block_lt_of_cell? w _ hx655_2)).trans hx655_2
                    replace hx655_3 := (HB.out.cell (World.block_lt_of_cell? w _ hx655_3)).trans hx655_3
                    replace hx655_4 := (HB.out.cell (World.block_lt_of_cell? w _ hx655_4)).trans hx655_4
                    replace p655 := eq_true p655
                    replace q655 := eq_true q655
                    go_wp2
                    go_ret
                    exact ⟨by first | rfl | (simp [errW_none, errW_some] <;> rfl) | (simp [*, errW_none, errW_some] <;> rfl), hb_ HB.out⟩
                  ·
                   rw [if_neg c24] at H
                   exact absurd H (by simp)
                 ·
                  rw [if_neg c23] at H
                  exact absurd H (by simp)
              ·
               rw [if_neg c17] at H
               exact absurd H (by simp)
             ·
              rw [if_neg c16] at H
              exact absurd H (by simp)
          ·
           rw [if_neg c10] at H
           exact absurd H (by simp)
         ·
          rw [if_neg c9] at H
          exact absurd H (by simp)
      ·
       rw [if_neg c6] at H
       exact absurd H (by simp)
     ·
      rw [if_neg c5] at H
      exact absurd H (by simp)
/-! ### laws_szItem: function 150 -/
def laws_szItem.f (a0_0 : Int) (a0_1 : ByteArray) (a0_2 : ByteArray) (a0_3 : Int) (a0_4 : Int) (a1 : Int) : Option (Int) := if (wrap64 (a1 - (a0_1.size : Int))) < 0 then (some (-1)) else (if (wrap64 ((wrap64 (a1 - (a0_1.size : Int))) - (a0_2.size : Int))) < 0 then (some (-1)) else (some (wrap64 ((wrap64 (a1 - (a0_1.size : Int))) - (a0_2.size : Int)))))
set_option maxHeartbeats 8000000 in
set_option maxRecDepth 100000 in
theorem laws_szItem.calls (a0_0 : Int) (a0_1 : ByteArray) (a0_2 : ByteArray) (a0_3 : Int) (a0_4 : Int) (a1 : Int) (r : Int) (w : World) (h : laws_szItem.f a0_0 a0_1 a0_2 a0_3 a0_4 a1 = some r) :
 Calls Try.prog 150 #[.agg #[.int .i64 a0_0, .string a0_1, .string a0_2, .int .i64 a0_3, .int .i64 a0_4], .int .i64 a1] w fun e w' => e = .returned (.int .i64 r) ∧ Below w.heap.size w w' := by
 have hu184 := Try.underlying184
 have HB := Aside0.mk (Below.refl w.heap.size w)
 have H : (if (wrap64 (a1 - (a0_1.size : Int))) < 0 then (some (-1)) else (if (wrap64 ((wrap64 (a1 - (a0_1.size : Int))) - (a0_2.size : Int))) < 0 then (some (-1)) else (some (wrap64 ((wrap64 (a1 - (a0_1.size : Int))) - (a0_2.size : Int)))))) = some r := h
 clear h
 by_cases c3 : (wrap64 (a1 - (a0_1.size : Int))) < 0
 ·
  rw [if_pos c3] at H
  have c3b0 : decide ((wrap64 (a1 - (a0_1.size : Int))) < 0) = true := decide_eq_true c3
  clear c3
  obtain rfl := Option.some.inj H
  go_enter Try.func150, Try.ntmps150
  go_wp2_with (first | ((with_reducible refine gate_dst (N := 2) rfl ?_); refine box_event ?hg (N := 2) ?hd (cs := #[.int .i64 a0_0, .string a0_1, .string a0_2, .int .i64 a0_3, .int .i64 a0_4]) (t := 184) ?hr ?_; (case hd => rfl); (case hg => rfl); (case hr => first | (go_simp; done) | (go_simp; rfl)); intro gb897 hg w4 hbox hb; have n0_ := Aside0.mk (below_step (hb_ HB.out) hb); have n1_ := Aside0.mk (hbox); have n2_ := Aside0.mk ((by rw [hg]; exact (below_size (hb_ HB.out)) : w.heap.size ≤ gb897)); have n3_ := Aside0.mk ((by rw [hg]; exact (below_size (hb_ HB.out)) : w.heap.size ≤ gb897)); clear HB; have HB := n0_; have BK897 := n1_; have GW897 := n2_; have GE897 := n3_; clear n0_ n1_ n2_ n3_; clear hb hbox hg; have hcz5_0 : w4.cell? ⟨gb897, 0, none⟩ = some (.int .i64 a0_0) := (blk_cell BK897.out 0).trans rfl; have hcz5_1 : w4.cell? ⟨gb897, 1, none⟩ = some (.string a0_1) := (blk_cell BK897.out 1).trans rfl; have hcz5_2 : w4.cell? ⟨gb897, 2, none⟩ = some (.string a0_2) := (blk_cell BK897.out 2).trans rfl; have hcz5_3 : w4.cell? ⟨gb897, 3, none⟩ = some (.int .i64 a0_3) := (blk_cell BK897.out 3).trans rfl; have hcz5_4 : w4.cell? ⟨gb897, 4, none⟩ = some (.int .i64 a0_4) := (blk_cell BK897.out 4).trans rfl; have hfz5_0 := blk_frozen BK897.out 0; have hfz5_1 := blk_frozen BK897.out 1; have hfz5_2 := blk_frozen BK897.out 2; have hfz5_3 := blk_frozen BK897.out 3; have hfz5_4 := blk_frozen BK897.out 4))
  go_ret
  exact ⟨by first | rfl | (simp [errW_none, errW_some] <;> rfl) | (simp [*, errW_none, errW_some] <;> rfl), hb_ HB.out⟩
 ·
  rw [if_neg c3] at H
  have c3b0 : decide ((wrap64 (a1 - (a0_1.size : Int))) < 0) = false := decide_eq_false c3
  clear c3
  by_cases c6 : (wrap64 ((wrap64 (a1 - (a0_1.size : Int))) - (a0_2.size : Int))) < 0
  ·
   rw [if_pos c6] at H
   have c6b0 : decide ((wrap64 ((wrap64 (a1 - (a0_1.size : Int))) - (a0_2.size : Int))) < 0) = true := decide_eq_true c6
   clear c6
   obtain rfl := Option.some.inj H
   go_enter Try.func150, Try.ntmps150
   go_wp2_with (first | ((with_reducible refine gate_dst (N := 2) rfl ?_); refine box_event ?hg (N := 2) ?hd (cs := #[.int .i64 a0_0, .string a0_1, .string a0_2, .int .i64 a0_3, .int .i64 a0_4]) (t := 184) ?hr ?_; (case hd => rfl); (case hg => rfl); (case hr => first | (go_simp; done) | (go_simp; rfl)); intro gb897 hg w7 hbox hb; have n0_ := Aside0.mk (below_step (hb_ HB.out) hb); have n1_ := Aside0.mk (hbox); have n2_ := Aside0.mk ((by rw [hg]; exact (below_size (hb_ HB.out)) : w.heap.size ≤ gb897)); have n3_ := Aside0.mk ((by rw [hg]; exact (below_size (hb_ HB.out)) : w.heap.size ≤ gb897)); clear HB; have HB := n0_; have BK897 := n1_; have GW897 := n2_; have GE897 := n3_; clear n0_ n1_ n2_ n3_; clear hb hbox hg; have hcz8_0 : w7.cell? ⟨gb897, 0, none⟩ = some (.int .i64 a0_0) := (blk_cell BK897.out 0).trans rfl; have hcz8_1 : w7.cell? ⟨gb897, 1, none⟩ = some (.string a0_1) := (blk_cell BK897.out 1).trans rfl; have hcz8_2 : w7.cell? ⟨gb897, 2, none⟩ = some (.string a0_2) := (blk_cell BK897.out 2).trans rfl; have hcz8_3 : w7.cell? ⟨gb897, 3, none⟩ = some (.int .i64 a0_3) := (blk_cell BK897.out 3).trans rfl; have hcz8_4 : w7.cell? ⟨gb897, 4, none⟩ = some (.int .i64 a0_4) := (blk_cell BK897.out 4).trans rfl; have hfz8_0 := blk_frozen BK897.out 0; have hfz8_1 := blk_frozen BK897.out 1; have hfz8_2 := blk_frozen BK897.out 2; have hfz8_3 := blk_frozen BK897.out 3; have hfz8_4 := blk_frozen BK897.out 4))
   go_ret
   exact ⟨by first | rfl | (simp [errW_none, errW_some] <;> rfl) | (simp [*, errW_none, errW_some] <;> rfl), hb_ HB.out⟩
  ·
   rw [if_neg c6] at H
   have c6b0 : decide ((wrap64 ((wrap64 (a1 - (a0_1.size : Int))) - (a0_2.size : Int))) < 0) = false := decide_eq_false c6
   clear c6
   obtain rfl := Option.some.inj H
   go_enter Try.func150, Try.ntmps150
   go_wp2_with (first | ((with_reducible refine gate_dst (N := 2) rfl ?_); refine box_event ?hg (N := 2) ?hd (cs := #[.int .i64 a0_0, .string a0_1, .string a0_2, .int .i64 a0_3, .int .i64 a0_4]) (t := 184) ?hr ?_; (case hd => rfl); (case hg => rfl); (case hr => first | (go_simp; done) | (go_simp; rfl)); intro gb897 hg w9 hbox hb; have n0_ := Aside0.mk (below_step (hb_ HB.out) hb); have n1_ := Aside0.mk (hbox); have n2_ := Aside0.mk ((by rw [hg]; exact (below_size (hb_ HB.out)) : w.heap.size ≤ gb897)); have n3_ := Aside0.mk ((by rw [hg]; exact (below_size (hb_ HB.out)) : w.heap.size ≤ gb897)); clear HB; have HB := n0_; have BK897 := n1_; have GW897 := n2_; have GE897 := n3_; clear n0_ n1_ n2_ n3_; clear hb hbox hg; have hcz10_0 : w9.cell? ⟨gb897, 0, none⟩ = some (.int .i64 a0_0) := (blk_cell BK897.out 0).trans rfl; have hcz10_1 : w9.cell? ⟨gb897, 1, none⟩ = some (.string a0_1) := (blk_cell BK897.out 1).trans rfl; have hcz10_2 : w9.cell? ⟨gb897, 2, none⟩ = some (.string a0_2) := (blk_cell BK897.out 2).trans rfl; have hcz10_3 : w9.cell? ⟨gb897, 3, none⟩ = some (.int .i64 a0_3) := (blk_cell BK897.out 3).trans rfl; have hcz10_4 : w9.cell? ⟨gb897, 4, none⟩ = some (.int .i64 a0_4) := (blk_cell BK897.out 4).trans rfl; have hfz10_0 := blk_frozen BK897.out 0; have hfz10_1 := blk_frozen BK897.out 1; have hfz10_2 := blk_frozen BK897.out 2; have hfz10_3 := blk_frozen BK897.out 3; have hfz10_4 := blk_frozen BK897.out 4))
   go_ret
   exact ⟨by first | rfl | (simp [errW_none, errW_some] <;> rfl) | (simp [*, errW_none, errW_some] <;> rfl), hb_ HB.out⟩

/-! ### laws_szItemS: function 94 -/
def laws_szItemS.l0 : Nat → List (S_LItem) → Int → Int → Option (Int)
 | 0, _, _, _ => none
 | k + 1, x0, x1, x5 => if x5 < (x0.length : Int) then (if 0 ≤ x5 then ((laws_szItem.f ((rd_LItem x0 x5).f0) ((rd_LItem x0 x5).f1) ((rd_LItem x0 x5).f2) ((rd_LItem x0 x5).f3) ((rd_LItem x0 x5).f4) x1).bind fun t899 => (if t899 < 0 then (some (-1)) else (laws_szItemS.l0 k x0 t899 (wrap64 (x5 + 1))))) else (none)) else (some x1)
def laws_szItemS.f (k : Nat) (l0 : List (S_LItem)) (a1 : Int) : Option (Int) := if (wrap64 (a1 - (l0.length : Int))) < 0 then (some (-1)) else (laws_szItemS.l0 k l0 (wrap64 (a1 - (l0.length : Int))) 0)
theorem laws_szItemS.mono_l : ∀ k, (∀ y0 y1 y2, LeO (laws_szItemS.l0 k y0 y1 y2) (laws_szItemS.l0 (k + 1) y0 y1 y2))
 | 0 => fun _ _ _ r h => by simp [laws_szItemS.l0] at h
 | k + 1 => by
  have ih0 := laws_szItemS.mono_l k
  ·
   intro y0 y1 y2
   unfold laws_szItemS.l0
   repeat' first
   | (with_reducible exact ih0 _ _ _)
   | (with_reducible exact LeO.refl _)
   | (with_reducible exact LeO.none _)
   | (with_reducible refine LeO.ite ?_ ?_)
   | (with_reducible refine LeO.bind ?_ (fun _ => ?_))
   | exact ih0 _ _ _
   | exact LeO.none _
   | refine LeO.ite ?_ ?_
   | refine LeO.bind ?_ (fun _ => ?_)
theorem laws_szItemS.mono : ∀ a0 a1 k, LeO (laws_szItemS.f k a0 a1) (laws_szItemS.f (k + 1) a0 a1) := by
 intro a0 a1 k
 have ih0 := laws_szItemS.mono_l k
 unfold laws_szItemS.f
 repeat' first
  | (with_reducible exact ih0 _ _ _)
  | (with_reducible exact LeO.refl _)
  | (with_reducible exact LeO.none _)
  | (with_reducible refine LeO.ite ?_ ?_)
  | (with_reducible refine LeO.bind ?_ (fun _ => ?_))
  | exact ih0 _ _ _
  | exact LeO.none _
  | refine LeO.ite ?_ ?_
  | refine LeO.bind ?_ (fun _ => ?_)
set_option maxHeartbeats 8000000 in
set_option maxRecDepth 100000 in
theorem laws_szItemS.calls (k : Nat) (A0 : Option Addr) (c0 : Nat) (l0 : List (S_LItem)) (a1 : Int) (r : Int) (w : World) (hr0 : Kd.C k_LItem w A0 l0.length l0) (hc0 : l0.length ≤ c0) (h : laws_szItemS.f k l0 a1 = some r) :
 Calls Try.prog 94 #[.slice A0 l0.length c0, .int .i64 a1] w fun e w' => e = .returned (.int .i64 r) ∧ Below w.heap.size w w' := by
 have hu184 := Try.underlying184
 have HR0 := Aside0.mk hr0
 have HC0 := Aside0.mk hc0
 clear hr0 hc0
 have HB := Aside0.mk (Below.refl w.heap.size w)
 have H : (if (wrap64 (a1 - (l0.length : Int))) < 0 then (some (-1)) else (laws_szItemS.l0 k l0 (wrap64 (a1 - (l0.length : Int))) 0)) = some r := h
 clear h
 by_cases c3 : (wrap64 (a1 - (l0.length : Int))) < 0
 ·
  rw [if_pos c3] at H
  have c3b0 : decide ((wrap64 (a1 - (l0.length : Int))) < 0) = true := decide_eq_true c3
  clear c3
  obtain rfl := Option.some.inj H
  go_enter Try.func94, Try.ntmps94
  go_wp2
  go_ret
  exact ⟨by first | rfl | (simp [errW_none, errW_some] <;> rfl) | (simp [*, errW_none, errW_some] <;> rfl), hb_ HB.out⟩
 ·
  rw [if_neg c3] at H
  have c3b0 : decide ((wrap64 (a1 - (l0.length : Int))) < 0) = false := decide_eq_false c3
  clear c3
  have H' := Aside0.mk H
  clear H
  go_enter Try.func94, Try.ntmps94
  go_wp2
  go_loopg [1, 5] k (fun kq v1 v5 w' => ∃ (x1_1 : Int) (x5_1 : Int), v1 = .int .i64 x1_1 ∧ v5 = .int .i64 x5_1 ∧ Aside0 (laws_szItemS.l0 kq l0 x1_1 x5_1 = some r) ∧ Aside0 (kq ≤ k) ∧ Aside0 (Below w.heap.size w w'))
  case atStart => exact ⟨(wrap64 (a1 - (l0.length : Int))), (0), (by first | rfl | (simp; done) | (simp [*]; done)), (by first | rfl | (simp; done) | (simp [*]; done)), H', ⟨Nat.le_refl _⟩, ⟨hb_ HB.out⟩⟩
  case round =>
   clear H'
   (try clear p2); (try clear c3); (try clear c3b0)
   obtain ⟨x1_1, x5_1, rfl, rfl, HA, HK1, HB⟩ := hrel
   cases gk with
   | zero => exact absurd HA.out (by simp [laws_szItemS.l0])
   | succ k1 =>
    have H := HA.out
    clear HA
    simp only [laws_szItemS.l0] at H
    by_cases c4 : x5_1 < (l0.length : Int)
    ·
     rw [if_pos c4] at H
     have c4b0 : decide (x5_1 < (l0.length : Int)) = true := decide_eq_true c4
     clear c4
     by_cases c5 : 0 ≤ x5_1
     ·
      rw [if_pos c5] at H
      have c5b0 : decide (0 ≤ x5_1) = true := decide_eq_true c5
      clear c5
      replace H := Option.bind_eq_some_iff.mp H
      obtain ⟨t899, A60, H⟩ := H
      replace H : (if t899 < 0 then (some (-1)) else (laws_szItemS.l0 k1 l0 t899 (wrap64 (x5_1 + 1)))) = some r := H
      have A6 := Aside0.mk A60
      clear A60
      by_cases c7 : t899 < 0
      ·
       rw [if_pos c7] at H
       have c7b0 : decide (t899 < 0) = true := decide_eq_true c7
       clear c7
       obtain rfl := Option.some.inj H
       have p898 : 0 ≤ (x5_1 : Int) := of_decide_eq_true (by first | (with_reducible assumption) | assumption)
       have q898 : x5_1 < (l0.length : Int) := of_decide_eq_true (by first | (with_reducible assumption) | assumption)
       obtain ⟨ad898, e898, hx898_0, hx898_1, hx898_2, hx898_3, hx898_4⟩ := at_LItem HR0.out x5_1 p898 q898
       cases e898
       replace hx898_0 := (HB.out.cell (World.block_lt_of_cell? w _ hx898_0)).trans hx898_0
       replace hx898_1 := (HB.out.cell (World.block_lt_of_cell? w _ hx898_1)).trans hx898_1
       replace hx898_2 := (HB.out.cell (World.block_lt_of_cell? w _ hx898_2)).trans hx898_2
       replace hx898_3 := (HB.out.cell (World.block_lt_of_cell? w _ hx898_3)).trans hx898_3
       replace hx898_4 := (HB.out.cell (World.block_lt_of_cell? w _ hx898_4)).trans hx898_4
       replace p898 := eq_true p898
       replace q898 := eq_true q898
       go_wp2_with (first | ((with_reducible refine gate_callee (f := 150) rfl ?_); refine goesL_ (some 23) rfl rfl Try.func150 (by kernel_rfl) rfl #[.agg #[.int .i64 ((rd_LItem l0 x5_1).f0), .string ((rd_LItem l0 x5_1).f1), .string ((rd_LItem l0 x5_1).f2), .int .i64 ((rd_LItem l0 x5_1).f3), .int .i64 ((rd_LItem l0 x5_1).f4)], .int .i64 x1_1] rfl sm_ ?_; (with_reducible refine (laws_szItem.calls ((rd_LItem l0 x5_1).f0) ((rd_LItem l0 x5_1).f1) ((rd_LItem l0 x5_1).f2) ((rd_LItem l0 x5_1).f3) ((rd_LItem l0 x5_1).f4) x1_1 t899 _ A6.out).mono ?_); rintro e w8 ⟨rfl, hb⟩; refine ⟨_, rfl, ?_⟩; have n0_ := Aside0.mk (below_step (hb_ HB.out) hb); clear HB; have HB := n0_; clear n0_; (try clear hb); (try clear hb2); (try clear hk); (try clear hi)))
       go_ret
       exact ⟨by first | rfl | (simp [errW_none, errW_some] <;> rfl) | (simp [*, errW_none, errW_some] <;> rfl), hb_ HB.out⟩
      ·
       rw [if_neg c7] at H
       have c7b0 : decide (t899 < 0) = false := decide_eq_false c7
       clear c7
       have H' := Aside0.mk H
       clear H
       have p898 : 0 ≤ (x5_1 : Int) := of_decide_eq_true (by first | (with_reducible assumption) | assumption)
       have q898 : x5_1 < (l0.length : Int) := of_decide_eq_true (by first | (with_reducible assumption) | assumption)
       obtain ⟨ad898, e898, hx898_0, hx898_1, hx898_2, hx898_3, hx898_4⟩ := at_LItem HR0.out x5_1 p898 q898
       cases e898
       replace hx898_0 := (HB.out.cell (World.block_lt_of_cell? w _ hx898_0)).trans hx898_0
       replace hx898_1 := (HB.out.cell (World.block_lt_of_cell? w _ hx898_1)).trans hx898_1
       replace hx898_2 := (HB.out.cell (World.block_lt_of_cell? w _ hx898_2)).trans hx898_2
       replace hx898_3 := (HB.out.cell (World.block_lt_of_cell? w _ hx898_3)).trans hx898_3
       replace hx898_4 := (HB.out.cell (World.block_lt_of_cell? w _ hx898_4)).trans hx898_4
       replace p898 := eq_true p898
       replace q898 := eq_true q898
       go_wp2_with (first | ((with_reducible refine gate_callee (f := 150) rfl ?_); refine goesL_ (some 23) rfl rfl Try.func150 (by kernel_rfl) rfl #[.agg #[.int .i64 ((rd_LItem l0 x5_1).f0), .string ((rd_LItem l0 x5_1).f1), .string ((rd_LItem l0 x5_1).f2), .int .i64 ((rd_LItem l0 x5_1).f3), .int .i64 ((rd_LItem l0 x5_1).f4)], .int .i64 x1_1] rfl sm_ ?_; (with_reducible refine (laws_szItem.calls ((rd_LItem l0 x5_1).f0) ((rd_LItem l0 x5_1).f1) ((rd_LItem l0 x5_1).f2) ((rd_LItem l0 x5_1).f3) ((rd_LItem l0 x5_1).f4) x1_1 t899 _ A6.out).mono ?_); rintro e w9 ⟨rfl, hb⟩; refine ⟨_, rfl, ?_⟩; have n0_ := Aside0.mk (below_step (hb_ HB.out) hb); clear HB; have HB := n0_; clear n0_; (try clear hb); (try clear hb2); (try clear hk); (try clear hi)))
       go_roundg k1
       case measure => have := HK1.out; omega
       case rel => exact ⟨(t899), (wrap64 (x5_1 + 1)), (by first | rfl | (simp; done) | (simp [*]; done)), (by first | rfl | (simp; done) | (simp [*]; done)), H', ⟨by have := HK1.out; omega⟩, ⟨hb_ HB.out⟩⟩
     ·
      rw [if_neg c5] at H
      exact absurd H (by simp)
    ·
     rw [if_neg c4] at H
     have c4b0 : decide (x5_1 < (l0.length : Int)) = false := decide_eq_false c4
     clear c4
     obtain rfl := Option.some.inj H
     go_wp2
     go_ret
     exact ⟨by first | rfl | (simp [errW_none, errW_some] <;> rfl) | (simp [*, errW_none, errW_some] <;> rfl), hb_ HB.out⟩

/-! ### laws_szRow: function 29 -/
def laws_szRow.f (k : Nat) (a0_0 : Int) (a0_1 : Int) (l0_2 : List (S_LItem)) (a1 : Int) : Option (Int) := (laws_szItemS.f k l0_2 a1).bind fun t901 => (if t901 < 0 then (some (-1)) else (some t901))
theorem laws_szRow.mono : ∀ a0 a1 a2 a3 k, LeO (laws_szRow.f k a0 a1 a2 a3) (laws_szRow.f (k + 1) a0 a1 a2 a3) := by
 intro a0 a1 a2 a3 k
 unfold laws_szRow.f
 repeat' first
  | (with_reducible exact laws_szItemS.mono _ _ _)
  | (with_reducible exact LeO.refl _)
  | (with_reducible exact LeO.none _)
  | (with_reducible refine LeO.ite ?_ ?_)
  | (with_reducible refine LeO.bind ?_ (fun _ => ?_))
  | exact laws_szItemS.mono _ _ _
  | exact LeO.none _
  | refine LeO.ite ?_ ?_
  | refine LeO.bind ?_ (fun _ => ?_)
set_option maxHeartbeats 8000000 in
set_option maxRecDepth 100000 in
theorem laws_szRow.calls (k : Nat) (a0_0 : Int) (a0_1 : Int) (A0_2 : Option Addr) (c0_2 : Nat) (l0_2 : List (S_LItem)) (a1 : Int) (r : Int) (w : World) (hr0_2 : Kd.C k_LItem w A0_2 l0_2.length l0_2) (hc0_2 : l0_2.length ≤ c0_2) (h : laws_szRow.f k a0_0 a0_1 l0_2 a1 = some r) :
 Calls Try.prog 29 #[.agg #[.int .i64 a0_0, .int .i64 a0_1, .slice A0_2 l0_2.length c0_2], .int .i64 a1] w fun e w' => e = .returned (.int .i64 r) ∧ Below w.heap.size w w' := by
 have hu53 := Try.underlying53
 have HR0_2 := Aside0.mk hr0_2
 have HC0_2 := Aside0.mk hc0_2
 clear hr0_2 hc0_2
 have HB := Aside0.mk (Below.refl w.heap.size w)
 have H : ((laws_szItemS.f k l0_2 a1).bind fun t901 => (if t901 < 0 then (some (-1)) else (some t901))) = some r := h
 clear h
 replace H := Option.bind_eq_some_iff.mp H
 obtain ⟨t901, A30, H⟩ := H
 replace H : (if t901 < 0 then (some (-1)) else (some t901)) = some r := H
 have A3 := Aside0.mk A30
 clear A30
 by_cases c4 : t901 < 0
 ·
  rw [if_pos c4] at H
  have c4b0 : decide (t901 < 0) = true := decide_eq_true c4
  clear c4
  obtain rfl := Option.some.inj H
  go_enter Try.func29, Try.ntmps29
  go_wp2_with (first | ((with_reducible refine gate_dst (N := 2) rfl ?_); refine box_event ?hg (N := 2) ?hd (cs := #[.int .i64 a0_0, .int .i64 a0_1, .slice A0_2 l0_2.length c0_2]) (t := 53) ?hr ?_; (case hd => rfl); (case hg => rfl); (case hr => first | (go_simp; done) | (go_simp; rfl)); intro gb900 hg w5 hbox hb; have n0_ := Aside0.mk (below_step (hb_ HB.out) hb); have n1_ := Aside0.mk (hbox); have n2_ := Aside0.mk ((by rw [hg]; exact (below_size (hb_ HB.out)) : w.heap.size ≤ gb900)); have n3_ := Aside0.mk ((by rw [hg]; exact (below_size (hb_ HB.out)) : w.heap.size ≤ gb900)); clear HB; have HB := n0_; have BK900 := n1_; have GW900 := n2_; have GE900 := n3_; clear n0_ n1_ n2_ n3_; clear hb hbox hg; have hcz6_0 : w5.cell? ⟨gb900, 0, none⟩ = some (.int .i64 a0_0) := (blk_cell BK900.out 0).trans rfl; have hcz6_1 : w5.cell? ⟨gb900, 1, none⟩ = some (.int .i64 a0_1) := (blk_cell BK900.out 1).trans rfl; have hcz6_2 : w5.cell? ⟨gb900, 2, none⟩ = some (.slice A0_2 l0_2.length c0_2) := (blk_cell BK900.out 2).trans rfl; have hfz6_0 := blk_frozen BK900.out 0; have hfz6_1 := blk_frozen BK900.out 1; have hfz6_2 := blk_frozen BK900.out 2) | ((with_reducible refine gate_callee (f := 94) rfl ?_); refine goesL_ (some 8) rfl rfl Try.func94 (by kernel_rfl) rfl #[.slice A0_2 l0_2.length c0_2, .int .i64 a1] rfl sm_ ?_; (with_reducible refine (laws_szItemS.calls k _ _ l0_2 a1 t901 _ ?side1 ?side2 A3.out).mono ?_); (case side1 => repeat (first | exact (Kd.C_below HR0_2.out HB.out) | (with_reducible refine Kd.C_alloc ?_ _) | (with_reducible refine Kd.C_drewN ?_ _) | (with_reducible refine Kd.C_drew ?_))); (case side2 => exact HC0_2.out); rintro e w7 ⟨rfl, hb⟩; refine ⟨_, rfl, ?_⟩; have n0_ := Aside0.mk (bb_ BK900.out hb); have n1_ := Aside0.mk (below_step (hb_ HB.out) hb); clear BK900; clear HB; have BK900 := n0_; have HB := n1_; clear n0_ n1_; (try clear hb); (try clear hb2); (try clear hk); (try clear hi)))
  go_ret
  exact ⟨by first | rfl | (simp [errW_none, errW_some] <;> rfl) | (simp [*, errW_none, errW_some] <;> rfl), hb_ HB.out⟩
 ·
  rw [if_neg c4] at H
  have c4b0 : decide (t901 < 0) = false := decide_eq_false c4
  clear c4
  obtain rfl := Option.some.inj H
  go_enter Try.func29, Try.ntmps29
  go_wp2_with (first | ((with_reducible refine gate_dst (N := 2) rfl ?_); refine box_event ?hg (N := 2) ?hd (cs := #[.int .i64 a0_0, .int .i64 a0_1, .slice A0_2 l0_2.length c0_2]) (t := 53) ?hr ?_; (case hd => rfl); (case hg => rfl); (case hr => first | (go_simp; done) | (go_simp; rfl)); intro gb900 hg w8 hbox hb; have n0_ := Aside0.mk (below_step (hb_ HB.out) hb); have n1_ := Aside0.mk (hbox); have n2_ := Aside0.mk ((by rw [hg]; exact (below_size (hb_ HB.out)) : w.heap.size ≤ gb900)); have n3_ := Aside0.mk ((by rw [hg]; exact (below_size (hb_ HB.out)) : w.heap.size ≤ gb900)); clear HB; have HB := n0_; have BK900 := n1_; have GW900 := n2_; have GE900 := n3_; clear n0_ n1_ n2_ n3_; clear hb hbox hg; have hcz9_0 : w8.cell? ⟨gb900, 0, none⟩ = some (.int .i64 a0_0) := (blk_cell BK900.out 0).trans rfl; have hcz9_1 : w8.cell? ⟨gb900, 1, none⟩ = some (.int .i64 a0_1) := (blk_cell BK900.out 1).trans rfl; have hcz9_2 : w8.cell? ⟨gb900, 2, none⟩ = some (.slice A0_2 l0_2.length c0_2) := (blk_cell BK900.out 2).trans rfl; have hfz9_0 := blk_frozen BK900.out 0; have hfz9_1 := blk_frozen BK900.out 1; have hfz9_2 := blk_frozen BK900.out 2) | ((with_reducible refine gate_callee (f := 94) rfl ?_); refine goesL_ (some 8) rfl rfl Try.func94 (by kernel_rfl) rfl #[.slice A0_2 l0_2.length c0_2, .int .i64 a1] rfl sm_ ?_; (with_reducible refine (laws_szItemS.calls k _ _ l0_2 a1 t901 _ ?side1 ?side2 A3.out).mono ?_); (case side1 => repeat (first | exact (Kd.C_below HR0_2.out HB.out) | (with_reducible refine Kd.C_alloc ?_ _) | (with_reducible refine Kd.C_drewN ?_ _) | (with_reducible refine Kd.C_drew ?_))); (case side2 => exact HC0_2.out); rintro e w10 ⟨rfl, hb⟩; refine ⟨_, rfl, ?_⟩; have n0_ := Aside0.mk (bb_ BK900.out hb); have n1_ := Aside0.mk (below_step (hb_ HB.out) hb); clear BK900; clear HB; have BK900 := n0_; have HB := n1_; clear n0_ n1_; (try clear hb); (try clear hb2); (try clear hk); (try clear hi)))
  go_ret
  exact ⟨by first | rfl | (simp [errW_none, errW_some] <;> rfl) | (simp [*, errW_none, errW_some] <;> rfl), hb_ HB.out⟩

/-! ### laws_toItem: function 151 -/
def laws_toItem.f (a0_0 : Int) (a0_1 : ByteArray) (a0_2 : ByteArray) (a0_3 : Int) (a0_4 : Int) : Option (Int × ByteArray × ByteArray × Int × Int) := some (a0_0, a0_1, a0_2, a0_3, a0_4)
set_option maxHeartbeats 8000000 in
set_option maxRecDepth 100000 in
theorem laws_toItem.calls (a0_0 : Int) (a0_1 : ByteArray) (a0_2 : ByteArray) (a0_3 : Int) (a0_4 : Int) (r1 : Int) (r2 : ByteArray) (r3 : ByteArray) (r4 : Int) (r5 : Int) (w : World) (h : laws_toItem.f a0_0 a0_1 a0_2 a0_3 a0_4 = some (r1, r2, r3, r4, r5)) :
 Calls Try.prog 151 #[.agg #[.int .i64 a0_0, .string a0_1, .string a0_2, .int .i64 a0_3, .int .i64 a0_4]] w fun e w' => e = .returned (.agg #[.int .i64 r1, .string r2, .string r3, .int .i64 r4, .int .i64 r5]) ∧ Below w.heap.size w w' := by
 have hu184 := Try.underlying184
 have hu69 := Try.underlying69
 have HB := Aside0.mk (Below.refl w.heap.size w)
 have H : (some (a0_0, a0_1, a0_2, a0_3, a0_4)) = some (r1, r2, r3, r4, r5) := h
 clear h
 simp only [Option.some.injEq, Prod.mk.injEq] at H
 obtain ⟨rfl, rfl, rfl, rfl, rfl⟩ := H
 go_enter Try.func151, Try.ntmps151
 go_wp2_with (first | ((with_reducible refine gate_dst (N := 1) rfl ?_); refine box_event ?hg (N := 1) ?hd (cs := #[.int .i64 a0_0, .string a0_1, .string a0_2, .int .i64 a0_3, .int .i64 a0_4]) (t := 184) ?hr ?_; (case hd => rfl); (case hg => rfl); (case hr => first | (go_simp; done) | (go_simp; rfl)); intro gb902 hg w2 hbox hb; have n0_ := Aside0.mk (below_step (hb_ HB.out) hb); have n1_ := Aside0.mk (hbox); have n2_ := Aside0.mk ((by rw [hg]; exact (below_size (hb_ HB.out)) : w.heap.size ≤ gb902)); have n3_ := Aside0.mk ((by rw [hg]; exact (below_size (hb_ HB.out)) : w.heap.size ≤ gb902)); clear HB; have HB := n0_; have BK902 := n1_; have GW902 := n2_; have GE902 := n3_; clear n0_ n1_ n2_ n3_; clear hb hbox hg) | ((with_reducible refine gate_dst (N := 2) rfl ?_); refine box_event ?hg (N := 2) ?hd (cs := #[.int .i64 0, .string (⟨#[]⟩ : ByteArray), .string (⟨#[]⟩ : ByteArray), .int .i64 0, .int .i64 0]) (t := 69) ?hr ?_; (case hd => rfl); (case hg => rfl); (case hr => first | (go_simp; done) | (go_simp; rfl)); intro gb903 hg w3 hbox hb; have n0_ := Aside0.mk (bb_ BK902.out hb); have n1_ := Aside0.mk (below_step (hb_ HB.out) hb); have n2_ := Aside0.mk (hbox); have n3_ := Aside0.mk ((by rw [hg]; exact (below_size (hb_ HB.out)) : w.heap.size ≤ gb903)); have n4_ := Aside0.mk ((by rw [hg]; exact (below_size (hb_ HB.out)) : w.heap.size ≤ gb903)); have n5_ := Aside0.mk ((by rw [hg]; exact Nat.ne_of_lt (blk_lt (g := gb902) (o := .cells #[.int .i64 a0_0, .string a0_1, .string a0_2, .int .i64 a0_3, .int .i64 a0_4] 184 (0, 0)) (bq_ BK902.out)) : gb902 ≠ gb903)); have n6_ := Aside0.mk ((by rw [hg]; exact Nat.ne_of_gt (blk_lt (g := gb902) (o := .cells #[.int .i64 a0_0, .string a0_1, .string a0_2, .int .i64 a0_3, .int .i64 a0_4] 184 (0, 0)) (bq_ BK902.out)) : gb903 ≠ gb902)); clear BK902; clear HB; have BK902 := n0_; have HB := n1_; have BK903 := n2_; have GW903 := n3_; have GE903 := n4_; have NB902_903 := n5_; have NB903_902 := n6_; clear n0_ n1_ n2_ n3_ n4_ n5_ n6_; clear hb hbox hg) | ((with_reducible refine gate_dst (N := 3) rfl ?_); refine box_event ?hg (N := 3) ?hd (cs := #[.int .i64 0, .string (⟨#[]⟩ : ByteArray), .string (⟨#[]⟩ : ByteArray), .int .i64 0, .int .i64 0]) (t := 69) ?hr ?_; (case hd => rfl); (case hg => rfl); (case hr => first | (go_simp; done) | (go_simp; rfl)); intro gb904 hg w4 hbox hb; have n0_ := Aside0.mk (bb_ BK902.out hb); have n1_ := Aside0.mk (bb_ BK903.out hb); have n2_ := Aside0.mk (below_step (hb_ HB.out) hb); have n3_ := Aside0.mk (hbox); have n4_ := Aside0.mk ((by rw [hg]; exact (below_size (hb_ HB.out)) : w.heap.size ≤ gb904)); have n5_ := Aside0.mk ((by rw [hg]; exact (below_size (hb_ HB.out)) : w.heap.size ≤ gb904)); have n6_ := Aside0.mk ((by rw [hg]; exact Nat.ne_of_lt (blk_lt (g := gb902) (o := .cells #[.int .i64 a0_0, .string a0_1, .string a0_2, .int .i64 a0_3, .int .i64 a0_4] 184 (0, 0)) (bq_ BK902.out)) : gb902 ≠ gb904)); have n7_ := Aside0.mk ((by rw [hg]; exact Nat.ne_of_gt (blk_lt (g := gb902) (o := .cells #[.int .i64 a0_0, .string a0_1, .string a0_2, .int .i64 a0_3, .int .i64 a0_4] 184 (0, 0)) (bq_ BK902.out)) : gb904 ≠ gb902)); have n8_ := Aside0.mk ((by rw [hg]; exact Nat.ne_of_lt (blk_lt (g := gb903) (o := .cells #[.int .i64 0, .string (⟨#[]⟩ : ByteArray), .string (⟨#[]⟩ : ByteArray), .int .i64 0, .int .i64 0] 69 (0, 0)) (bq_ BK903.out)) : gb903 ≠ gb904)); have n9_ := Aside0.mk ((by rw [hg]; exact Nat.ne_of_gt (blk_lt (g := gb903) (o := .cells #[.int .i64 0, .string (⟨#[]⟩ : ByteArray), .string (⟨#[]⟩ : ByteArray), .int .i64 0, .int .i64 0] 69 (0, 0)) (bq_ BK903.out)) : gb904 ≠ gb903)); clear BK902; clear BK903; clear HB; have BK902 := n0_; have BK903 := n1_; have HB := n2_; have BK904 := n3_; have GW904 := n4_; have GE904 := n5_; have NB902_904 := n6_; have NB904_902 := n7_; have NB903_904 := n8_; have NB904_903 := n9_; clear n0_ n1_ n2_ n3_ n4_ n5_ n6_ n7_ n8_ n9_; clear hb hbox hg; have hnb5 := NB902_903.out; have hnc5 := NB903_902.out; have hnb6 := NB902_904.out; have hnc6 := NB904_902.out; have hcz7_0 : w4.cell? ⟨gb902, 0, none⟩ = some (.int .i64 a0_0) := (blk_cell BK902.out 0).trans rfl; have hcz7_1 : w4.cell? ⟨gb902, 1, none⟩ = some (.string a0_1) := (blk_cell BK902.out 1).trans rfl; have hcz7_2 : w4.cell? ⟨gb902, 2, none⟩ = some (.string a0_2) := (blk_cell BK902.out 2).trans rfl; have hcz7_3 : w4.cell? ⟨gb902, 3, none⟩ = some (.int .i64 a0_3) := (blk_cell BK902.out 3).trans rfl; have hcz7_4 : w4.cell? ⟨gb902, 4, none⟩ = some (.int .i64 a0_4) := (blk_cell BK902.out 4).trans rfl; have hfz7_0 := blk_frozen BK902.out 0; have hfz7_1 := blk_frozen BK902.out 1; have hfz7_2 := blk_frozen BK902.out 2; have hfz7_3 := blk_frozen BK902.out 3; have hfz7_4 := blk_frozen BK902.out 4; have hnb8 := NB904_903.out; have hnc8 := NB903_904.out; have hcz9_0 : w4.cell? ⟨gb904, 0, none⟩ = some (.int .i64 0) := (blk_cell BK904.out 0).trans rfl; have hcz9_1 : w4.cell? ⟨gb904, 1, none⟩ = some (.string (⟨#[]⟩ : ByteArray)) := (blk_cell BK904.out 1).trans rfl; have hcz9_2 : w4.cell? ⟨gb904, 2, none⟩ = some (.string (⟨#[]⟩ : ByteArray)) := (blk_cell BK904.out 2).trans rfl; have hcz9_3 : w4.cell? ⟨gb904, 3, none⟩ = some (.int .i64 0) := (blk_cell BK904.out 3).trans rfl; have hcz9_4 : w4.cell? ⟨gb904, 4, none⟩ = some (.int .i64 0) := (blk_cell BK904.out 4).trans rfl; have hfz9_0 := blk_frozen BK904.out 0; have hfz9_1 := blk_frozen BK904.out 1; have hfz9_2 := blk_frozen BK904.out 2; have hfz9_3 := blk_frozen BK904.out 3; have hfz9_4 := blk_frozen BK904.out 4; have hcz10_0 : w4.cell? ⟨gb903, 0, none⟩ = some (.int .i64 0) := (blk_cell BK903.out 0).trans rfl; have hcz10_1 : w4.cell? ⟨gb903, 1, none⟩ = some (.string (⟨#[]⟩ : ByteArray)) := (blk_cell BK903.out 1).trans rfl; have hcz10_2 : w4.cell? ⟨gb903, 2, none⟩ = some (.string (⟨#[]⟩ : ByteArray)) := (blk_cell BK903.out 2).trans rfl; have hcz10_3 : w4.cell? ⟨gb903, 3, none⟩ = some (.int .i64 0) := (blk_cell BK903.out 3).trans rfl; have hcz10_4 : w4.cell? ⟨gb903, 4, none⟩ = some (.int .i64 0) := (blk_cell BK903.out 4).trans rfl; have hfz10_0 := blk_frozen BK903.out 0; have hfz10_1 := blk_frozen BK903.out 1; have hfz10_2 := blk_frozen BK903.out 2; have hfz10_3 := blk_frozen BK903.out 3; have hfz10_4 := blk_frozen BK903.out 4))
 refine bodyPost_ret (results_cell_row rfl _ _ gb903 69 #[.int .i64 a0_0, .string a0_1, .string a0_2, .int .i64 a0_3, .int .i64 a0_4] (0, 0) _ rfl (by (with_reducible repeat (first | refine blk_drewN ?_ _ | refine blk_drew ?_ | refine blk_alloc ?_ _)); refine blk_put (cs := #[.int .i64 a0_0, .string a0_1, .string a0_2, .int .i64 a0_3, .int .i64 0]) ?_ 4 _ rfl; (with_reducible repeat (first | refine blk_drewN ?_ _ | refine blk_drew ?_ | refine blk_alloc ?_ _)); refine blk_put (cs := #[.int .i64 a0_0, .string a0_1, .string a0_2, .int .i64 0, .int .i64 0]) ?_ 3 _ rfl; (with_reducible repeat (first | refine blk_drewN ?_ _ | refine blk_drew ?_ | refine blk_alloc ?_ _)); refine blk_put (cs := #[.int .i64 a0_0, .string a0_1, .string (⟨#[]⟩ : ByteArray), .int .i64 0, .int .i64 0]) ?_ 2 _ rfl; (with_reducible repeat (first | refine blk_drewN ?_ _ | refine blk_drew ?_ | refine blk_alloc ?_ _)); refine blk_put (cs := #[.int .i64 a0_0, .string (⟨#[]⟩ : ByteArray), .string (⟨#[]⟩ : ByteArray), .int .i64 0, .int .i64 0]) ?_ 1 _ rfl; (with_reducible repeat (first | refine blk_drewN ?_ _ | refine blk_drew ?_ | refine blk_alloc ?_ _)); refine blk_put (cs := #[.int .i64 0, .string (⟨#[]⟩ : ByteArray), .string (⟨#[]⟩ : ByteArray), .int .i64 0, .int .i64 0]) ?_ 0 _ rfl; (with_reducible repeat (first | refine blk_drewN ?_ _ | refine blk_drew ?_ | refine blk_alloc ?_ _)); refine blk_far ?_ NB903_904.out _; (with_reducible repeat (first | refine blk_drewN ?_ _ | refine blk_drew ?_ | refine blk_alloc ?_ _)); refine blk_far ?_ NB903_904.out _; (with_reducible repeat (first | refine blk_drewN ?_ _ | refine blk_drew ?_ | refine blk_alloc ?_ _)); refine blk_far ?_ NB903_904.out _; (with_reducible repeat (first | refine blk_drewN ?_ _ | refine blk_drew ?_ | refine blk_alloc ?_ _)); refine blk_far ?_ NB903_904.out _; (with_reducible repeat (first | refine blk_drewN ?_ _ | refine blk_drew ?_ | refine blk_alloc ?_ _)); refine blk_far ?_ NB903_904.out _; (with_reducible repeat (first | refine blk_drewN ?_ _ | refine blk_drew ?_ | refine blk_alloc ?_ _)); exact BK903.out) Try.underlying69 rfl (by kernel_rfl)) rfl ?_
 exact ⟨by first | rfl | (simp [errW_none, errW_some] <;> rfl) | (simp [*, errW_none, errW_some] <;> rfl), hb_ HB.out⟩

/-! ### laws_toItemS: function 96 -/
def laws_toItemS.l0 : Nat → List (S_LItem) → List (S_Item) → Int → Option ((List (S_Item)))
 | 0, _, _, _ => none
 | k + 1, x0, x3, x4 => if x4 < (x0.length : Int) then (if 0 ≤ x4 then ((laws_toItem.f ((rd_LItem x0 x4).f0) ((rd_LItem x0 x4).f1) ((rd_LItem x0 x4).f2) ((rd_LItem x0 x4).f3) ((rd_LItem x0 x4).f4)).bind fun bt909 => (if x4 < (x3.length : Int) then (laws_toItemS.l0 k x0 (x3.set (x4 : Int).toNat (⟨bt909.1, bt909.2.1, bt909.2.2.1, bt909.2.2.2.1, bt909.2.2.2.2⟩ : S_Item)) (wrap64 (x4 + 1))) else (none))) else (none)) else (some x3)
def laws_toItemS.f (k : Nat) (l0 : List (S_LItem)) : Option ((List (S_Item))) := if 0 ≤ (l0.length : Int) then (if ((l0.length : Int) : Int).toNat ≤ 5026338869833 then (laws_toItemS.l0 k l0 (List.replicate ((l0.length : Int) : Int).toNat z_Item) 0) else (none)) else (none)
theorem laws_toItemS.mono_l : ∀ k, (∀ y0 y1 y2, LeO (laws_toItemS.l0 k y0 y1 y2) (laws_toItemS.l0 (k + 1) y0 y1 y2))
 | 0 => fun _ _ _ r h => by simp [laws_toItemS.l0] at h
 | k + 1 => by
  have ih0 := laws_toItemS.mono_l k
  ·
   intro y0 y1 y2
   unfold laws_toItemS.l0
   repeat' first
   | (with_reducible exact ih0 _ _ _)
   | (with_reducible exact LeO.refl _)
   | (with_reducible exact LeO.none _)
   | (with_reducible refine LeO.ite ?_ ?_)
   | (with_reducible refine LeO.bind ?_ (fun _ => ?_))
   | exact ih0 _ _ _
   | exact LeO.none _
   | refine LeO.ite ?_ ?_
   | refine LeO.bind ?_ (fun _ => ?_)
theorem laws_toItemS.mono : ∀ a0 k, LeO (laws_toItemS.f k a0) (laws_toItemS.f (k + 1) a0) := by
 intro a0 k
 have ih0 := laws_toItemS.mono_l k
 unfold laws_toItemS.f
 repeat' first
  | (with_reducible exact ih0 _ _ _)
  | (with_reducible exact LeO.refl _)
  | (with_reducible exact LeO.none _)
  | (with_reducible refine LeO.ite ?_ ?_)
  | (with_reducible refine LeO.bind ?_ (fun _ => ?_))
  | exact ih0 _ _ _
  | exact LeO.none _
  | refine LeO.ite ?_ ?_
  | refine LeO.bind ?_ (fun _ => ?_)
set_option maxHeartbeats 8000000 in
set_option maxRecDepth 100000 in
theorem laws_toItemS.calls (k : Nat) (A0 : Option Addr) (c0 : Nat) (l0 : List (S_LItem)) (r : List (S_Item)) (w : World) (hr0 : Kd.C k_LItem w A0 l0.length l0) (hc0 : l0.length ≤ c0) (h : laws_toItemS.f k l0 = some r) :
 Calls Try.prog 96 #[.slice A0 l0.length c0] w fun e w' => ∃ v0_ : Value, e = .returned (v0_) ∧ Kd.R k_Item 69 w' w.heap.size (fun _ => True) v0_ r ∧ Below w.heap.size w w' := by
 have hu184 := Try.underlying184
 have hu69 := Try.underlying69
 have HR0 := Aside0.mk hr0
 have HC0 := Aside0.mk hc0
 clear hr0 hc0
 have HB := Aside0.mk (Below.refl w.heap.size w)
 have H : (if 0 ≤ (l0.length : Int) then (if ((l0.length : Int) : Int).toNat ≤ 5026338869833 then (laws_toItemS.l0 k l0 (List.replicate ((l0.length : Int) : Int).toNat z_Item) 0) else (none)) else (none)) = some r := h
 clear h
 by_cases c2 : 0 ≤ (l0.length : Int)
 ·
  rw [if_pos c2] at H
  have c2b0 := eq_true c2
  have c2b1 : decide (0 ≤ (l0.length : Int)) = true := decide_eq_true c2
  clear c2
  by_cases c3 : ((l0.length : Int) : Int).toNat ≤ 5026338869833
  ·
   rw [if_pos c3] at H
   have c3b0 := eq_true c3
   have c3b1 : decide (((l0.length : Int) : Int).toNat ≤ 5026338869833) = true := decide_eq_true c3
   clear c3
   obtain ⟨y905, hy905⟩ : ∃ y_ : List (S_Item), y_ = (List.replicate ((l0.length : Int) : Int).toNat z_Item) := ⟨_, rfl⟩
   replace H : (laws_toItemS.l0 k l0 y905 0) = some r := by first | (rw [hy905]; with_reducible exact H) | (have H2_ := (Option.bind_some _ _).symm.trans H; rw [hy905]; with_reducible exact H2_) | (have H2_ := (Option.bind_some _ _).symm.trans H; with_reducible exact H2_) | with_reducible exact H | (rw [hy905]; exact H) | exact H
   have Ny905 := Aside0.mk hy905
   clear hy905
   have H' := Aside0.mk H
   clear H
   go_enter Try.func96, Try.ntmps96
   go_wp2_with (first | ((with_reducible refine gate_dst (N := 7) rfl ?_); refine Kd.R_make k_Item _ 69 rfl (N := 7) rfl 55 _ _ rfl (l0.length : Int) rfl rfl Try.underlying55 (.agg #[(.int .i64 0), (.string ⟨#[]⟩), (.string ⟨#[]⟩), (.int .i64 0), (.int .i64 0)]) 56 info69 rfl (by decide) (by omega) z_Item (ok := fun _ => True) (okp := fun _ => True) (k_Item_mkM _ _ _ z_Item ) (fun _ hk => hk) trivial (of_decide_eq_true (by first | (with_reducible assumption) | assumption)) (Nat.le_trans (Nat.mul_le_mul_right _ (of_decide_eq_true (by first | (with_reducible assumption) | assumption) : (l0.length : Int).toNat ≤ 5026338869833)) (by omega)) (Below.refl _ _) (Nat.le_refl _) ?_; intro v906 w4 ho5 hb hg_ hnew_; clear hg_ hnew_; (first | rw [← Ny905.out] at ho5 | (simp only [Int.reduceToNat] at ho5; rw [← Ny905.out] at ho5)); have n0_ := Aside0.mk (Kd.R_lower ho5 (below_size (hb_ HB.out))); have n1_ := Aside0.mk (below_step (hb_ HB.out) hb); clear HB; have HO907 := n0_; have HB := n1_; clear n0_ n1_; clear hb ho5))
   go_loopg [4] k (fun kq v4 w' => ∃ (x3_1 : List (S_Item)) (x4_1 : Int), v4 = .int .i64 x4_1 ∧ Aside0 (laws_toItemS.l0 kq l0 x3_1 x4_1 = some r) ∧ Aside0 (kq ≤ k) ∧ Aside0 (Kd.R k_Item 69 w' w.heap.size (fun _ => True) v906 x3_1) ∧ Aside0 (Below w.heap.size w w'))
   case atStart => exact ⟨(y905), (0), (by first | rfl | (simp; done) | (simp [*]; done)), H', ⟨Nat.le_refl _⟩, ⟨rq_ HO907.out⟩, ⟨hb_ HB.out⟩⟩
   case round =>
    clear H'
    (try clear c2); (try clear c2b0); (try clear c2b1); (try clear p2); (try clear c3); (try clear c3b0); (try clear c3b1)
    obtain ⟨x3_1, x4_1, rfl, HA, HK1, HO_3, HB⟩ := hrel
    cases gk with
    | zero => exact absurd HA.out (by simp [laws_toItemS.l0])
    | succ k1 =>
     have H := HA.out
     clear HA
     simp only [laws_toItemS.l0] at H
     by_cases c6 : x4_1 < (l0.length : Int)
     ·
      rw [if_pos c6] at H
      have c6b0 : decide (x4_1 < (l0.length : Int)) = true := decide_eq_true c6
      clear c6
      by_cases c7 : 0 ≤ x4_1
      ·
       rw [if_pos c7] at H
       have c7b0 : decide (0 ≤ x4_1) = true := decide_eq_true c7
       clear c7
       replace H := Option.bind_eq_some_iff.mp H
       obtain ⟨⟨t909, t910, t911, t912, t913⟩, A80, H⟩ := H
       replace H : (if x4_1 < (x3_1.length : Int) then (laws_toItemS.l0 k1 l0 (x3_1.set (x4_1 : Int).toNat (⟨t909, t910, t911, t912, t913⟩ : S_Item)) (wrap64 (x4_1 + 1))) else (none)) = some r := H
       have A8 := Aside0.mk A80
       clear A80
       by_cases c9 : x4_1 < (x3_1.length : Int)
       ·
        rw [if_pos c9] at H
        have c9b0 : decide (x4_1 < (x3_1.length : Int)) = true := decide_eq_true c9
        clear c9
        obtain ⟨y914, hy914⟩ : ∃ y_ : List (S_Item), y_ = (x3_1.set (x4_1 : Int).toNat (⟨t909, t910, t911, t912, t913⟩ : S_Item)) := ⟨_, rfl⟩
        replace H : (laws_toItemS.l0 k1 l0 y914 (wrap64 (x4_1 + 1))) = some r := by first | (rw [hy914]; with_reducible exact H) | (have H2_ := (Option.bind_some _ _).symm.trans H; rw [hy914]; with_reducible exact H2_) | (have H2_ := (Option.bind_some _ _).symm.trans H; with_reducible exact H2_) | with_reducible exact H | (rw [hy914]; exact H) | exact H
        have Ny914 := Aside0.mk hy914
        clear hy914
        have H' := Aside0.mk H
        clear H
        have p908 : 0 ≤ (x4_1 : Int) := of_decide_eq_true (by first | (with_reducible assumption) | assumption)
        have q908 : x4_1 < (l0.length : Int) := of_decide_eq_true (by first | (with_reducible assumption) | assumption)
        obtain ⟨ad908, e908, hx908_0, hx908_1, hx908_2, hx908_3, hx908_4⟩ := at_LItem HR0.out x4_1 p908 q908
        cases e908
        replace hx908_0 := (HB.out.cell (World.block_lt_of_cell? w _ hx908_0)).trans hx908_0
        replace hx908_1 := (HB.out.cell (World.block_lt_of_cell? w _ hx908_1)).trans hx908_1
        replace hx908_2 := (HB.out.cell (World.block_lt_of_cell? w _ hx908_2)).trans hx908_2
        replace hx908_3 := (HB.out.cell (World.block_lt_of_cell? w _ hx908_3)).trans hx908_3
        replace hx908_4 := (HB.out.cell (World.block_lt_of_cell? w _ hx908_4)).trans hx908_4
        replace p908 := eq_true p908
        replace q908 := eq_true q908
        go_wp2_with (first | ((with_reducible refine gate_callee (f := 151) rfl ?_); refine goesL_ (some 20) rfl rfl Try.func151 (by kernel_rfl) rfl #[.agg #[.int .i64 ((rd_LItem l0 x4_1).f0), .string ((rd_LItem l0 x4_1).f1), .string ((rd_LItem l0 x4_1).f2), .int .i64 ((rd_LItem l0 x4_1).f3), .int .i64 ((rd_LItem l0 x4_1).f4)]] rfl sm_ ?_; (with_reducible refine (laws_toItem.calls ((rd_LItem l0 x4_1).f0) ((rd_LItem l0 x4_1).f1) ((rd_LItem l0 x4_1).f2) ((rd_LItem l0 x4_1).f3) ((rd_LItem l0 x4_1).f4) t909 t910 t911 t912 t913 _ A8.out).mono ?_); rintro e w11 ⟨rfl, hb⟩; refine ⟨_, rfl, ?_⟩; have n0_ := Aside0.mk (Kd.R_below (rq_ HO_3.out) hb); have n1_ := Aside0.mk (below_step (hb_ HB.out) hb); clear HO_3; clear HB; have HO_3 := n0_; have HB := n1_; clear n0_ n1_; (try clear hb); (try clear hb2); (try clear hk); (try clear hi); have p10 : 0 ≤ (x4_1 : Int) := of_decide_eq_true (by first | (with_reducible assumption) | assumption); have q10 : (x4_1 : Int) < ((x3_1.length : Int) : Int) := of_decide_eq_true (by first | (with_reducible assumption) | assumption); obtain ⟨go10, co10, eo10, gb10, gl10, cl10, HG10⟩ := Kd.R_form HO_3.out (by omega); (first | cases eo10 | (injection eo10 with ea_ en_ ec_; (first | subst ea_ | (injection ea_ with ea_; subst ea_)); subst ec_; clear en_)); have GB10 := Aside0.mk gb10; have GG10 := Aside0.mk HG10; clear gb10 gl10 HG10; obtain ⟨ce10, hcl10, hM10, hcc10, hfr10⟩ := Kd.R_elem HO_3.out z_Item (x4_1 : Int) p10 q10; obtain rfl := k_Item_openM hM10; have hx10_0 : w11.cell? ⟨go10, (x4_1 : Int).toNat * 5, none⟩ = some (.int .i64 ((rd_Item x3_1 x4_1).f0)) := hcc10 0 _ rfl; have hx10_1 : w11.cell? ⟨go10, (x4_1 : Int).toNat * 5 + 1, none⟩ = some (.string ((rd_Item x3_1 x4_1).f1)) := hcc10 1 _ rfl; have hx10_2 : w11.cell? ⟨go10, (x4_1 : Int).toNat * 5 + 2, none⟩ = some (.string ((rd_Item x3_1 x4_1).f2)) := hcc10 2 _ rfl; have hx10_3 : w11.cell? ⟨go10, (x4_1 : Int).toNat * 5 + 3, none⟩ = some (.int .i64 ((rd_Item x3_1 x4_1).f3)) := hcc10 3 _ rfl; have hx10_4 : w11.cell? ⟨go10, (x4_1 : Int).toNat * 5 + 4, none⟩ = some (.int .i64 ((rd_Item x3_1 x4_1).f4)) := hcc10 4 _ rfl; have hf10_0 : w11.frozen? ⟨go10, (x4_1 : Int).toNat * 5, none⟩ = false := hfr10 0; have hf10_1 : w11.frozen? ⟨go10, (x4_1 : Int).toNat * 5 + 1, none⟩ = false := hfr10 1; have hf10_2 : w11.frozen? ⟨go10, (x4_1 : Int).toNat * 5 + 2, none⟩ = false := hfr10 2; have hf10_3 : w11.frozen? ⟨go10, (x4_1 : Int).toNat * 5 + 3, none⟩ = false := hfr10 3; have hf10_4 : w11.frozen? ⟨go10, (x4_1 : Int).toNat * 5 + 4, none⟩ = false := hfr10 4; clear hcl10 hcc10 hfr10 hM10; replace p10 := eq_true p10; replace q10 := eq_true q10; have HX12 := Aside0.mk (show Kd.R k_Item 69 w11 w.heap.size (fun _ => True) (.slice (some ⟨go10, 0, none⟩) x3_1.length co10) x3_1 from (rq_ HO_3.out)); obtain ⟨ce12, hcl12, hM12, hcc12, hfr12⟩ := Kd.R_elem HX12.out z_Item (x4_1 : Int) (of_decide_eq_true (by first | (with_reducible assumption) | assumption)) (by have h_ : (x4_1 : Int) < ((x3_1.length : Int) : Int) := of_decide_eq_true (by first | (with_reducible assumption) | assumption); first | exact h_ | (have e_ := (Kd.R_reads' HO_3.out).1; omega) | simpa using h_); obtain rfl := k_Item_openM hM12; have HP12 := Kd.R_seg HX12.out (x4_1 : Int) (of_decide_eq_true (by first | (with_reducible assumption) | assumption)) (by have h_ : (x4_1 : Int) < ((x3_1.length : Int) : Int) := of_decide_eq_true (by first | (with_reducible assumption) | assumption); first | exact h_ | (have e_ := (Kd.R_reads' HO_3.out).1; omega) | simpa using h_) (seg := [.int .i64 t909, .string t910, .string t911, .int .i64 t912, .int .i64 t913]) (j := 0) hcl12 hcc12 (show 5 ≤ 5 from by decide) (x' := (⟨t909, t910, t911, t912, t913⟩ : S_Item)) (k_Item_mkM _ _ _ (⟨t909, t910, t911, t912, t913⟩ : S_Item) ) (fun _ hk => hk); have hx12_0 := hcc12 0 _ rfl; (try simp only [show (k_Item).sz = 5 from rfl, Nat.mul_one, Nat.add_zero] at hx12_0); have hf12_0 := hfr12 0; (try simp only [show (k_Item).sz = 5 from rfl, Nat.mul_one, Nat.add_zero] at hf12_0); have hx12_1 := hcc12 1 _ rfl; (try simp only [show (k_Item).sz = 5 from rfl, Nat.mul_one, Nat.add_zero] at hx12_1); have hf12_1 := hfr12 1; (try simp only [show (k_Item).sz = 5 from rfl, Nat.mul_one, Nat.add_zero] at hf12_1); have hx12_2 := hcc12 2 _ rfl; (try simp only [show (k_Item).sz = 5 from rfl, Nat.mul_one, Nat.add_zero] at hx12_2); have hf12_2 := hfr12 2; (try simp only [show (k_Item).sz = 5 from rfl, Nat.mul_one, Nat.add_zero] at hf12_2); have hx12_3 := hcc12 3 _ rfl; (try simp only [show (k_Item).sz = 5 from rfl, Nat.mul_one, Nat.add_zero] at hx12_3); have hf12_3 := hfr12 3; (try simp only [show (k_Item).sz = 5 from rfl, Nat.mul_one, Nat.add_zero] at hf12_3); have hx12_4 := hcc12 4 _ rfl; (try simp only [show (k_Item).sz = 5 from rfl, Nat.mul_one, Nat.add_zero] at hx12_4); have hf12_4 := hfr12 4; (try simp only [show (k_Item).sz = 5 from rfl, Nat.mul_one, Nat.add_zero] at hf12_4); clear hcl12 hcc12 hfr12 hM12) | ((with_reducible refine gate_store (t := 69) (p := 21) rfl ?_); refine store_event (t := 69) (p := 21) (v := ?vo_w13) (w1 := (((((w11.setCell ⟨go10, (x4_1 : Int).toNat * 5, none⟩ (.int .i64 t909)).setCell ⟨go10, (x4_1 : Int).toNat * 5 + 1, none⟩ (.string t910)).setCell ⟨go10, (x4_1 : Int).toNat * 5 + 2, none⟩ (.string t911)).setCell ⟨go10, (x4_1 : Int).toNat * 5 + 3, none⟩ (.int .i64 t912)).setCell ⟨go10, (x4_1 : Int).toNat * 5 + 4, none⟩ (.int .i64 t913))) ?hg ?ho ?hn ?hr ?_; (case ho => rfl); (case hg => rfl); (case hn => rfl); (case hr => first | (go_simp; done) | (go_simp; rfl)); intro w13 hw; have hg : w11.grownBy w13 (some go10) := (by rw [hw]; exact HP12.2); have hp_ : Kd.R k_Item 69 w13 w.heap.size (fun _ => True) (.slice (some ⟨go10, 0, none⟩) x3_1.length co10) y914 := (by rw [hw, Ny914.out]; exact HP12.1); clear HP12; have n0_ := Aside0.mk (hp_); have n1_ := Aside0.mk ((by rw [hw]; exact below_set (below_set (below_set (below_set (below_set (HB.out) GB10.out) GB10.out) GB10.out) GB10.out) GB10.out : Below w.heap.size w w13)); clear HO_3; clear HB; have HO_3 := n0_; have HB := n1_; clear n0_ n1_; clear hg hw hp_))
        go_roundg k1
        case measure => have := HK1.out; omega
        case rel => exact ⟨(y914), (wrap64 (x4_1 + 1)), (by first | rfl | (simp; done) | (simp [*]; done)), H', ⟨by have := HK1.out; omega⟩, ⟨rq_ HO_3.out⟩, ⟨hb_ HB.out⟩⟩
       ·
        rw [if_neg c9] at H
        exact absurd H (by simp)
      ·
       rw [if_neg c7] at H
       exact absurd H (by simp)
     ·
      rw [if_neg c6] at H
      have c6b0 : decide (x4_1 < (l0.length : Int)) = false := decide_eq_false c6
      clear c6
      obtain rfl := Option.some.inj H
      go_wp2
      go_ret
      exact ⟨_, by first | rfl | (simp [errW_none, errW_some] <;> rfl) | (simp [*, errW_none, errW_some] <;> rfl), by (with_reducible repeat (first | apply Kd.R_alloc | apply Kd.R_drewN | apply Kd.R_drew)); exact HO_3.out, hb_ HB.out⟩
  ·
   rw [if_neg c3] at H
   exact absurd H (by simp)
 ·
  rw [if_neg c2] at H
  exact absurd H (by simp)
/-! ### laws_toRow: function 31 -/
def laws_toRow.f (k : Nat) (a0_0 : Int) (a0_1 : Int) (l0_2 : List (S_LItem)) : Option (Int × Int × (List (S_Item))) := (laws_toItemS.f k l0_2).bind fun t918 => (some (a0_0, a0_1, t918))
theorem laws_toRow.mono : ∀ a0 a1 a2 k, LeO (laws_toRow.f k a0 a1 a2) (laws_toRow.f (k + 1) a0 a1 a2) := by
 intro a0 a1 a2 k
 unfold laws_toRow.f
 repeat' first
  | (with_reducible exact laws_toItemS.mono _ _)
  | (with_reducible exact LeO.refl _)
  | (with_reducible exact LeO.none _)
  | (with_reducible refine LeO.ite ?_ ?_)
  | (with_reducible refine LeO.bind ?_ (fun _ => ?_))
  | exact laws_toItemS.mono _ _
  | exact LeO.none _
  | refine LeO.ite ?_ ?_
  | refine LeO.bind ?_ (fun _ => ?_)
set_option maxHeartbeats 8000000 in
set_option maxRecDepth 100000 in
theorem laws_toRow.calls (k : Nat) (a0_0 : Int) (a0_1 : Int) (A0_2 : Option Addr) (c0_2 : Nat) (l0_2 : List (S_LItem)) (r1 : Int) (r2 : Int) (r3 : List (S_Item)) (w : World) (hr0_2 : Kd.C k_LItem w A0_2 l0_2.length l0_2) (hc0_2 : l0_2.length ≤ c0_2) (h : laws_toRow.f k a0_0 a0_1 l0_2 = some (r1, r2, r3)) :
 Calls Try.prog 31 #[.agg #[.int .i64 a0_0, .int .i64 a0_1, .slice A0_2 l0_2.length c0_2]] w fun e w' => ∃ v2_ : Value, e = .returned (.agg #[.int .i64 r1, .int .i64 r2, v2_]) ∧ Kd.R k_Item 69 w' w.heap.size (fun _ => True) v2_ r3 ∧ Below w.heap.size w w' := by
 have hu53 := Try.underlying53
 have hu57 := Try.underlying57
 have HR0_2 := Aside0.mk hr0_2
 have HC0_2 := Aside0.mk hc0_2
 clear hr0_2 hc0_2
 have HB := Aside0.mk (Below.refl w.heap.size w)
 have H : ((laws_toItemS.f k l0_2).bind fun t918 => (some (a0_0, a0_1, t918))) = some (r1, r2, r3) := h
 clear h
 replace H := Option.bind_eq_some_iff.mp H
 obtain ⟨t918, A20, H⟩ := H
 replace H : (some (a0_0, a0_1, t918)) = some (r1, r2, r3) := H
 have A2 := Aside0.mk A20
 clear A20
 simp only [Option.some.injEq, Prod.mk.injEq] at H
 obtain ⟨rfl, rfl, rfl⟩ := H
 go_enter Try.func31, Try.ntmps31
 go_wp2_with (first | ((with_reducible refine gate_dst (N := 1) rfl ?_); refine box_event ?hg (N := 1) ?hd (cs := #[.int .i64 a0_0, .int .i64 a0_1, .slice A0_2 l0_2.length c0_2]) (t := 53) ?hr ?_; (case hd => rfl); (case hg => rfl); (case hr => first | (go_simp; done) | (go_simp; rfl)); intro gb915 hg w3 hbox hb; have n0_ := Aside0.mk (below_step (hb_ HB.out) hb); have n1_ := Aside0.mk (hbox); have n2_ := Aside0.mk ((by rw [hg]; exact (below_size (hb_ HB.out)) : w.heap.size ≤ gb915)); have n3_ := Aside0.mk ((by rw [hg]; exact (below_size (hb_ HB.out)) : w.heap.size ≤ gb915)); clear HB; have HB := n0_; have BK915 := n1_; have GW915 := n2_; have GE915 := n3_; clear n0_ n1_ n2_ n3_; clear hb hbox hg) | ((with_reducible refine gate_dst (N := 2) rfl ?_); refine box_event ?hg (N := 2) ?hd (cs := #[.int .i64 0, .int .i64 0, .slice none 0 0]) (t := 57) ?hr ?_; (case hd => rfl); (case hg => rfl); (case hr => first | (go_simp; done) | (go_simp; rfl)); intro gb916 hg w4 hbox hb; have n0_ := Aside0.mk (bb_ BK915.out hb); have n1_ := Aside0.mk (below_step (hb_ HB.out) hb); have n2_ := Aside0.mk (hbox); have n3_ := Aside0.mk ((by rw [hg]; exact (below_size (hb_ HB.out)) : w.heap.size ≤ gb916)); have n4_ := Aside0.mk ((by rw [hg]; exact (below_size (hb_ HB.out)) : w.heap.size ≤ gb916)); have n5_ := Aside0.mk ((by rw [hg]; exact Nat.ne_of_lt (blk_lt (g := gb915) (o := .cells #[.int .i64 a0_0, .int .i64 a0_1, .slice A0_2 l0_2.length c0_2] 53 (0, 0)) (bq_ BK915.out)) : gb915 ≠ gb916)); have n6_ := Aside0.mk ((by rw [hg]; exact Nat.ne_of_gt (blk_lt (g := gb915) (o := .cells #[.int .i64 a0_0, .int .i64 a0_1, .slice A0_2 l0_2.length c0_2] 53 (0, 0)) (bq_ BK915.out)) : gb916 ≠ gb915)); clear BK915; clear HB; have BK915 := n0_; have HB := n1_; have BK916 := n2_; have GW916 := n3_; have GE916 := n4_; have NB915_916 := n5_; have NB916_915 := n6_; clear n0_ n1_ n2_ n3_ n4_ n5_ n6_; clear hb hbox hg) | ((with_reducible refine gate_dst (N := 3) rfl ?_); refine box_event ?hg (N := 3) ?hd (cs := #[.int .i64 0, .int .i64 0, .slice none 0 0]) (t := 57) ?hr ?_; (case hd => rfl); (case hg => rfl); (case hr => first | (go_simp; done) | (go_simp; rfl)); intro gb917 hg w5 hbox hb; have n0_ := Aside0.mk (bb_ BK915.out hb); have n1_ := Aside0.mk (bb_ BK916.out hb); have n2_ := Aside0.mk (below_step (hb_ HB.out) hb); have n3_ := Aside0.mk (hbox); have n4_ := Aside0.mk ((by rw [hg]; exact (below_size (hb_ HB.out)) : w.heap.size ≤ gb917)); have n5_ := Aside0.mk ((by rw [hg]; exact (below_size (hb_ HB.out)) : w.heap.size ≤ gb917)); have n6_ := Aside0.mk ((by rw [hg]; exact Nat.ne_of_lt (blk_lt (g := gb915) (o := .cells #[.int .i64 a0_0, .int .i64 a0_1, .slice A0_2 l0_2.length c0_2] 53 (0, 0)) (bq_ BK915.out)) : gb915 ≠ gb917)); have n7_ := Aside0.mk ((by rw [hg]; exact Nat.ne_of_gt (blk_lt (g := gb915) (o := .cells #[.int .i64 a0_0, .int .i64 a0_1, .slice A0_2 l0_2.length c0_2] 53 (0, 0)) (bq_ BK915.out)) : gb917 ≠ gb915)); have n8_ := Aside0.mk ((by rw [hg]; exact Nat.ne_of_lt (blk_lt (g := gb916) (o := .cells #[.int .i64 0, .int .i64 0, .slice none 0 0] 57 (0, 0)) (bq_ BK916.out)) : gb916 ≠ gb917)); have n9_ := Aside0.mk ((by rw [hg]; exact Nat.ne_of_gt (blk_lt (g := gb916) (o := .cells #[.int .i64 0, .int .i64 0, .slice none 0 0] 57 (0, 0)) (bq_ BK916.out)) : gb917 ≠ gb916)); clear BK915; clear BK916; clear HB; have BK915 := n0_; have BK916 := n1_; have HB := n2_; have BK917 := n3_; have GW917 := n4_; have GE917 := n5_; have NB915_917 := n6_; have NB917_915 := n7_; have NB916_917 := n8_; have NB917_916 := n9_; clear n0_ n1_ n2_ n3_ n4_ n5_ n6_ n7_ n8_ n9_; clear hb hbox hg; have hnb6 := NB915_916.out; have hnc6 := NB916_915.out; have hnb7 := NB915_917.out; have hnc7 := NB917_915.out; have hcz8_0 : w5.cell? ⟨gb915, 0, none⟩ = some (.int .i64 a0_0) := (blk_cell BK915.out 0).trans rfl; have hcz8_1 : w5.cell? ⟨gb915, 1, none⟩ = some (.int .i64 a0_1) := (blk_cell BK915.out 1).trans rfl; have hcz8_2 : w5.cell? ⟨gb915, 2, none⟩ = some (.slice A0_2 l0_2.length c0_2) := (blk_cell BK915.out 2).trans rfl; have hfz8_0 := blk_frozen BK915.out 0; have hfz8_1 := blk_frozen BK915.out 1; have hfz8_2 := blk_frozen BK915.out 2; have hnb9 := NB917_916.out; have hnc9 := NB916_917.out; have hcz10_0 : w5.cell? ⟨gb917, 0, none⟩ = some (.int .i64 0) := (blk_cell BK917.out 0).trans rfl; have hcz10_1 : w5.cell? ⟨gb917, 1, none⟩ = some (.int .i64 0) := (blk_cell BK917.out 1).trans rfl; have hcz10_2 : w5.cell? ⟨gb917, 2, none⟩ = some (.slice none 0 0) := (blk_cell BK917.out 2).trans rfl; have hfz10_0 := blk_frozen BK917.out 0; have hfz10_1 := blk_frozen BK917.out 1; have hfz10_2 := blk_frozen BK917.out 2) | ((with_reducible refine gate_callee (f := 96) rfl ?_); refine goesL_ (some 12) rfl rfl Try.func96 (by kernel_rfl) rfl #[.slice A0_2 l0_2.length c0_2] rfl sm_ ?_; (with_reducible refine (laws_toItemS.calls k _ _ l0_2 t918 _ ?side1 ?side2 A2.out).mono ?_); (case side1 => exact Kd.C_below HR0_2.out (hb_ HB.out)); (case side2 => exact HC0_2.out); rintro e w11 ⟨v919, rfl, ho0, hb⟩; refine ⟨_, rfl, ?_⟩; have n0_ := Aside0.mk (Kd.R_lower ho0 (below_size (hb_ HB.out))); have n1_ := Aside0.mk (blk_below (g := gb915) (o := .cells #[.int .i64 a0_0, .int .i64 a0_1, .slice A0_2 l0_2.length c0_2] 53 (0, 0)) (bf_ NB915_917.out BK915.out) hb); have n2_ := Aside0.mk (blk_below (g := gb916) (o := .cells #[.int .i64 0, .int .i64 0, .slice none 0 0] 57 (0, 0)) (bf_ NB916_917.out BK916.out) hb); have n3_ := Aside0.mk (blk_below (g := gb917) (o := .cells #[.int .i64 a0_0, .int .i64 a0_1, .slice none 0 0] 57 (0, 0)) (bp_ BK917.out) hb); have n4_ := Aside0.mk (below_step (hb_ HB.out) hb); clear BK915; clear BK916; clear BK917; clear HB; have HO920 := n0_; have BK915 := n1_; have BK916 := n2_; have BK917 := n3_; have HB := n4_; clear n0_ n1_ n2_ n3_ n4_; (try clear hb); (try clear hb2); (try clear hk); (try clear hi); (try clear ho0); obtain ⟨Ao12, co12, eo12⟩ := Kd.R_slice HO920.out; subst eo12; have hcz13_0 : w11.cell? ⟨gb917, 0, none⟩ = some (.int .i64 a0_0) := (blk_cell BK917.out 0).trans rfl; have hcz13_1 : w11.cell? ⟨gb917, 1, none⟩ = some (.int .i64 a0_1) := (blk_cell BK917.out 1).trans rfl; have hcz13_2 : w11.cell? ⟨gb917, 2, none⟩ = some (.slice none 0 0) := (blk_cell BK917.out 2).trans rfl; have hfz13_0 := blk_frozen BK917.out 0; have hfz13_1 := blk_frozen BK917.out 1; have hfz13_2 := blk_frozen BK917.out 2; have hcz14_0 : w11.cell? ⟨gb916, 0, none⟩ = some (.int .i64 0) := (blk_cell BK916.out 0).trans rfl; have hcz14_1 : w11.cell? ⟨gb916, 1, none⟩ = some (.int .i64 0) := (blk_cell BK916.out 1).trans rfl; have hcz14_2 : w11.cell? ⟨gb916, 2, none⟩ = some (.slice none 0 0) := (blk_cell BK916.out 2).trans rfl; have hfz14_0 := blk_frozen BK916.out 0; have hfz14_1 := blk_frozen BK916.out 1; have hfz14_2 := blk_frozen BK916.out 2))
 refine bodyPost_ret (results_cell_row rfl _ _ gb916 57 #[.int .i64 a0_0, .int .i64 a0_1, .slice Ao12 t918.length co12] (0, 0) _ rfl (by (with_reducible repeat (first | refine blk_drewN ?_ _ | refine blk_drew ?_ | refine blk_alloc ?_ _)); refine blk_put (cs := #[.int .i64 a0_0, .int .i64 a0_1, .slice none 0 0]) ?_ 2 _ rfl; (with_reducible repeat (first | refine blk_drewN ?_ _ | refine blk_drew ?_ | refine blk_alloc ?_ _)); refine blk_put (cs := #[.int .i64 a0_0, .int .i64 0, .slice none 0 0]) ?_ 1 _ rfl; (with_reducible repeat (first | refine blk_drewN ?_ _ | refine blk_drew ?_ | refine blk_alloc ?_ _)); refine blk_put (cs := #[.int .i64 0, .int .i64 0, .slice none 0 0]) ?_ 0 _ rfl; (with_reducible repeat (first | refine blk_drewN ?_ _ | refine blk_drew ?_ | refine blk_alloc ?_ _)); refine blk_far ?_ NB916_917.out _; (with_reducible repeat (first | refine blk_drewN ?_ _ | refine blk_drew ?_ | refine blk_alloc ?_ _)); exact BK916.out) Try.underlying57 rfl (by kernel_rfl)) rfl ?_
 exact ⟨_, by first | rfl | (simp [errW_none, errW_some] <;> rfl) | (simp [*, errW_none, errW_some] <;> rfl), by (with_reducible repeat (first | apply Kd.R_alloc | apply Kd.R_drewN | apply Kd.R_drew)); exact Kd.R_mono (Kd.R_far (p := ⟨gb916, 2, none⟩) (Kd.R_far (p := ⟨gb916, 1, none⟩) (Kd.R_far (p := ⟨gb916, 0, none⟩) (Kd.R_far (p := ⟨gb917, 2, none⟩) (Kd.R_types (Kd.R_types HO920.out BK917.out (by decide)) BK916.out (by decide)) (fun _ hk => hk.1.2) (.slice Ao12 t918.length co12)) (fun _ hk => hk.2) (.int .i64 a0_0)) (fun _ hk => hk.2) (.int .i64 a0_1)) (fun _ hk => hk.2) (.slice Ao12 t918.length co12)) (fun _ hk => trivial), hb_ HB.out⟩

end Go.Proofs.Ytiknkolclcdajaa.Q
