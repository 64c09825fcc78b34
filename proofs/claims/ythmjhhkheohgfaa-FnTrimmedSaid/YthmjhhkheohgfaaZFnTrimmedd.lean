/- Made by a program of ours out of the print of the loaded functions: for each of some functions a plain function, and the walk that shows that a call comes to what it says. No condition but those of each theorem. -/
import Derived.Test.YthmjhhkheohgfaaZFnTrimmed0
import Derived.Test.YthmjhhkheohgfaaZFnTrimmeda
import Derived.Test.YthmjhhkheohgfaaZFnTrimmedc
namespace Go.Proofs.Ythmjhhkheohgfaa.Q
open Go.RowKit Go.Proofs.YthmjhhkheohgfaaW.PrintWords Go.Proofs.YthmjhhkheohgfaaW.PrintLast Go.Proofs.YthmjhhkheohgfaaW.PrintMore
attribute [local go_sem] max2_int min2_int max_two min_two max_three min_three max_four min_four   -- for this text's walks alone
set_option linter.unusedVariables false
set_option linter.unusedSimpArgs false
theorem qd0_ {P : Prop} (h : P := by repeat (first | (with_reducible first | exact HB.out | apply below_alloc | apply pw_below_drewN | apply below_drew1 | refine below_set ?_ GE1015.out | refine below_set ?_ GE1016.out | refine below_set ?_ GE1022.out) | exact HB.out)) : P := h
theorem qd1_ {P : Prop} (h : P := by repeat (first | (with_reducible first | exact HK.out | apply KeepBut.set_ | apply keep_drewN | apply keep_drew | apply keep_alloc) | exact HK.out)) : P := h
theorem qd2_ {P : Prop} (h : P := by (try simp only [List.map_toArray, List.map_cons, List.map_nil]); first | done | rfl | (simp only [List.length_drop, List.length_take]; rfl)) : P := h
theorem qd3_ {P : Prop} (h : P := by repeat (first | (with_reducible first | exact HI0.out | apply IsS_l1Cur.alloc | apply IsS_l1Cur.drewN | apply IsS_l1Cur.drew | apply IsS_l1Cur.set_1 | apply IsS_l1Cur.set_2) | exact HI0.out)) : P := h
theorem qd4_ {P : Prop} (h : P := by repeat (first | (with_reducible first | exact HB.out | apply below_alloc | apply pw_below_drewN | apply below_drew1 | refine below_set ?_ (IsS_l1Cur.ge HI0.out)) | exact HB.out)) : P := h
theorem qd5_ {P : Prop} (h : P := by rw [qe_]; exact by (with_reducible repeat (first | apply Kd.R_alloc | apply Kd.R_drewN | apply Kd.R_drew)); exact Kd.R_mono (Kd.R_far (p := ⟨gb1056, 4, none⟩) (Kd.R_far (p := ⟨gb1056, 3, none⟩) (Kd.R_far (p := ⟨gb1056, 2, none⟩) (Kd.R_far (p := ⟨gb1056, 1, none⟩) (Kd.R_far (p := ⟨gb1056, 0, none⟩) (Kd.R_mono HO_1055002.out (fun k_ hk => (⟨hk, hk.2⟩ : _ ∧ k_ ≠ gb1056))) (fun _ hk => hk.2) (.int .i64 ((rd_Item l0_2 x6_3).f0))) (fun _ hk => hk.2) (.string ((rd_Item l0_2 x6_3).f1))) (fun _ hk => hk.2) (.string ((rd_Item l0_2 x6_3).f2))) (fun _ hk => hk.2) (.int .i64 ((rd_Item l0_2 x6_3).f3))) (fun _ hk => hk.2) (.int .i64 ((rd_Item l0_2 x6_3).f4))) (fun _ hk => hk.1.2)) : P := h
theorem qd6_ {P : Prop} (h : P := by repeat (first | (with_reducible first | exact HB.out | apply below_alloc | apply pw_below_drewN | apply below_drew1) | exact HB.out)) : P := h
theorem qd7_ {P : Prop} (h : P := by first | rfl | (simp [errW_none, errW_some] <;> rfl) | (simp [*, errW_none, errW_some] <;> rfl)) : P := h
theorem qd8_ {P : Prop} (h : P := by repeat (first | (with_reducible first | exact HB.out | apply below_alloc | apply pw_below_drewN | apply below_drew1 | refine below_set ?_ GE1015.out | refine below_set ?_ GE1016.out) | exact HB.out)) : P := h
theorem qd9_ {P : Prop} (h : P := by repeat (first | (with_reducible first | exact HBW.out | apply below_alloc | apply pw_below_drewN | apply below_drew1) | exact HBW.out)) : P := h
theorem qd10_ {P : Prop} (h : P := by first | rfl | (simp; done) | (simp [*]; done)) : P := h
theorem qd11_ {P : Prop} (h : P := by repeat (first | (with_reducible first | exact HB.out | apply below_alloc | apply pw_below_drewN | apply below_drew1 | refine below_set ?_ GE1043.out) | exact HB.out)) : P := h
theorem qd12_ {P : Prop} (h : P := by (with_reducible repeat (first | apply Kd.R_alloc | apply Kd.R_drewN | apply Kd.R_drew)); exact (Kd.R_mono (Kd.R_far (p := ⟨gb1022, 1, none⟩) (Kd.R_far (p := ⟨gb1022, 2, none⟩) (Kd.R_types HO1026.out BK1022.out (by decide)) (fun _ hk => hk.2) (.slice Ao51 y1024.length co51)) (fun _ hk => hk.2) (.int .i64 (wrap64 (a0_1 + 1)))) (fun _ h_ => h_.1))) : P := h
theorem qd13_ {P : Prop} (h : P := by (with_reducible repeat (first | apply Kd.R_alloc | apply Kd.R_drewN | apply Kd.R_drew)); exact (Kd.R_mono (Kd.R_far (p := ⟨gb1022, 1, none⟩) (Kd.R_far (p := ⟨gb1022, 2, none⟩) (Kd.R_types HO1026.out BK1022.out (by decide)) (fun _ hk => hk.2) (.slice Ao36 y1024.length co36)) (fun _ hk => hk.2) (.int .i64 (wrap64 (a0_1 + 1)))) (fun _ h_ => h_.1))) : P := h
theorem qd14_ {P : Prop} (h : P := by repeat (first | (with_reducible first | exact HB.out | apply below_alloc | apply pw_below_drewN | apply below_drew1 | refine below_set ?_ GE1015.out) | exact HB.out)) : P := h
theorem qd15_ {P : Prop} (h : P := by have := HJ2.out; have := HJ10.out; have := HK3.out; have := HJ24.out; first | omega | exact Nat.le_refl _) : P := h
theorem qdh0_ {P : Prop} (h : P := by repeat' first | (with_reducible exact ih0 _ _ _) | (with_reducible exact LeO.refl _) | (with_reducible exact LeO.none _) | (with_reducible refine LeO.ite ?_ ?_) | (with_reducible refine LeO.bind ?_ (fun _ => ?_)) | exact ih0 _ _ _ | exact LeO.none _ | refine LeO.ite ?_ ?_ | refine LeO.bind ?_ (fun _ => ?_)) : P := h
theorem qdh1_ {P : Prop} (h : P := by repeat' first | (with_reducible exact ih0 _ _ _ _ _ _ _ _ _ _) | (with_reducible exact spec_RowOk.mono _ _ _ _) | (with_reducible exact LeO.refl _) | (with_reducible exact LeO.none _) | (with_reducible refine LeO.ite ?_ ?_) | (with_reducible refine LeO.bind ?_ (fun _ => ?_)) | exact ih0 _ _ _ _ _ _ _ _ _ _ | exact spec_RowOk.mono _ _ _ _ | exact LeO.none _ | refine LeO.ite ?_ ?_ | refine LeO.bind ?_ (fun _ => ?_)) : P := h
theorem qdh2_ {P : Prop} (h : P := by repeat' first | (with_reducible exact ih0 _ _ _ _ _) | (with_reducible exact LeO.refl _) | (with_reducible exact LeO.none _) | (with_reducible refine LeO.ite ?_ ?_) | (with_reducible refine LeO.bind ?_ (fun _ => ?_)) | exact ih0 _ _ _ _ _ | exact LeO.none _ | refine LeO.ite ?_ ?_ | refine LeO.bind ?_ (fun _ => ?_)) : P := h
theorem qdh3_ {P : Prop} (h : P := by repeat' first | (with_reducible exact ih0 _ _ _ _ _) | (with_reducible exact ih1 _ _ _ _) | (with_reducible exact ih2 _ _ _ _ _ _ _ _) | (with_reducible exact ih3 _ _ _ _ _ _ _ _) | (with_reducible exact ih4 _ _ _ _ _ _ _ _ _ _ _ _ _ _) | (with_reducible exact spec_RowOk.mono _ _ _ _) | (with_reducible exact spec_l3Behind.mono _ _ _ _ _) | (with_reducible exact LeO.refl _) | (with_reducible exact LeO.none _) | (with_reducible refine LeO.ite ?_ ?_) | (with_reducible refine LeO.bind ?_ (fun _ => ?_)) | exact ih0 _ _ _ _ _ | exact ih1 _ _ _ _ | exact ih2 _ _ _ _ _ _ _ _ | exact ih3 _ _ _ _ _ _ _ _ | exact ih4 _ _ _ _ _ _ _ _ _ _ _ _ _ _ | exact spec_RowOk.mono _ _ _ _ | exact spec_l3Behind.mono _ _ _ _ _ | exact LeO.none _ | refine LeO.ite ?_ ?_ | refine LeO.bind ?_ (fun _ => ?_)) : P := h

/-! ### spec_l1New: function 50 -/
def spec_l1New.l0 : Nat → List Int → Int → Int → Option (List Int × Int × Int)
  | 0, _, _, _ => none
  | k + 1, x0, x3, x4 => if x4 < (x0.length : Int) then (if x4 < 4000 then (if 0 ≤ x4 then (spec_l1New.l0 k x0 (Go.bits .and .i64 (wrap64 ((wrap64 ((wrap64 (x3 * 131)) + (wrap64 (rd x0 x4)))) + 7)) 1073741823) (wrap64 (x4 + 1))) else (none)) else (some (x0, 0, x3))) else (some (x0, 0, x3))
def spec_l1New.f (k : Nat) (l0 : List Int) : Option (List Int × Int × Int) := spec_l1New.l0 k l0 (wrap64 (24548 + (l0.length : Int))) 0
theorem spec_l1New.mono_l : ∀ k, (∀ y0 y1 y2, LeO (spec_l1New.l0 k y0 y1 y2) (spec_l1New.l0 (k + 1) y0 y1 y2))
  | 0 => fun _ _ _ r h => by simp [spec_l1New.l0] at h
  | k + 1 => by
    have ih0 := spec_l1New.mono_l k
    · intro y0 y1 y2
      unfold spec_l1New.l0
      exact qdh0_
theorem spec_l1New.mono : ∀ a0 k, LeO (spec_l1New.f k a0) (spec_l1New.f (k + 1) a0) := by
  intro a0 k
  have ih0 := spec_l1New.mono_l k
  unfold spec_l1New.f
  exact qdh0_
set_option maxHeartbeats 8000000 in
set_option maxRecDepth 100000 in
theorem spec_l1New.calls (k : Nat) (A0 : Option Addr) (c0 : Nat) (l0 : List Int) (r1 : List Int) (r2 : Int) (r3 : Int) (w0 w : World) (hB : Below w0.heap.size w0 w) (hr0 : Kd.C (Kd.int .u8) w0 A0 l0.length l0) (hc0 : l0.length ≤ c0) (h : spec_l1New.f k l0 = some (r1, r2, r3)) :
    Calls Try.prog 50 #[.slice A0 l0.length c0] w fun e w' => ∃ g_ : Nat, e = .returned (.pointer (some ⟨g_, 0, none⟩)) ∧ IsS_l1Cur w0 w' g_ r1 r2 r3 ∧ Below w0.heap.size w0 w' ∧ Below w.heap.size w w' := by
  have hu126 := Try.underlying126
  have HR0 := Aside0.mk hr0
  have HC0 := Aside0.mk hc0
  clear hr0 hc0
  have HBW := Aside0.mk (Below.refl w.heap.size w)
  have HW0 := Aside0.mk hB.size
  have HB := Aside0.mk hB
  clear hB
  have H : (spec_l1New.l0 k l0 (wrap64 (24548 + (l0.length : Int))) 0) = some (r1, r2, r3) := h
  clear h
  have H' := Aside0.mk H
  clear H
  go_enter Try.func50, Try.ntmps50
  go_wp2
  go_loopg [3, 4] k (fun kq v3 v4 w' => ∃ (x3_1 : Int) (x4_1 : Int), v3 = .int .i64 x3_1 ∧ v4 = .int .i64 x4_1 ∧ Aside0 (spec_l1New.l0 kq l0 x3_1 x4_1 = some (r1, r2, r3)) ∧ Aside0 (kq ≤ k) ∧ Aside0 (Below w.heap.size w w') ∧ Aside0 (Below w0.heap.size w0 w'))
  case atStart => exact ⟨(wrap64 (24548 + (l0.length : Int))), (0), (qd10_), (qd10_), H', ⟨Nat.le_refl _⟩, ⟨qd9_⟩, ⟨qd6_⟩⟩
  case round =>
    clear H'
    obtain ⟨x3_1, x4_1, rfl, rfl, HA, HK1, HBW, HB⟩ := hrel
    cases gk with
    | zero => exact absurd HA.out (by simp [spec_l1New.l0])
    | succ k1 =>
      have H := HA.out
      clear HA
      simp only [spec_l1New.l0] at H
      by_cases c2 : x4_1 < (l0.length : Int)
      · rw [if_pos c2] at H
        have c2b0 : decide (x4_1 < (l0.length : Int)) = true := decide_eq_true c2
        clear c2
        by_cases c3 : x4_1 < 4000
        · rw [if_pos c3] at H
          have c3b0 : decide (x4_1 < 4000) = true := decide_eq_true c3
          clear c3
          by_cases c4 : 0 ≤ x4_1
          · rw [if_pos c4] at H
            have c4b0 : decide (0 ≤ x4_1) = true := decide_eq_true c4
            clear c4
            have H' := Aside0.mk H
            clear H
            have p697 : 0 ≤ (x4_1 : Int) := of_decide_eq_true dt_
            have q697 : x4_1 < (l0.length : Int) := of_decide_eq_true dt_
            obtain ⟨ad697, e697, hx697_0⟩ := Kd.at_int HR0.out x4_1 p697 q697
            cases e697
            replace hx697_0 := pw_cell_below HB.out hx697_0
            replace p697 := eq_true p697
            replace q697 := eq_true q697
            go_wp2
            go_roundg k1
            case measure => have := HK1.out; omega
            case rel => exact ⟨(Go.bits .and .i64 (wrap64 ((wrap64 ((wrap64 (x3_1 * 131)) + (wrap64 (rd l0 x4_1)))) + 7)) 1073741823), (wrap64 (x4_1 + 1)), (qd10_), (qd10_), H', ⟨by have := HK1.out; omega⟩, ⟨qd9_⟩, ⟨qd6_⟩⟩
          · rw [if_neg c4] at H
            exact absurd H (by simp)
        · rw [if_neg c3] at H
          have c3b0 : decide (x4_1 < 4000) = false := decide_eq_false c3
          clear c3
          simp only [Option.some.injEq, Prod.mk.injEq] at H
          obtain ⟨rfl, rfl, rfl⟩ := H
          go_wp2_with (first | ((with_reducible refine gate_dst (N := 31) rfl ?_); refine box_event ?hg (N := 31) ?hd (cs := #[.slice A0 l0.length c0, .int .i64 0, .int .i64 x3_1]) (t := 126) ?hr ?_; (case hd => rfl); (case hg => rfl); (case hr => first | (go_simp; done) | (go_simp; rfl)); intro gb698 hg w5 hbox hb; have BK698 := Aside0.mk (hbox); have GW698 := Aside0.mk ((by rw [hg]; exact (below_size (qd9_)) : w.heap.size ≤ gb698)); have GE698 := Aside0.mk ((Nat.le_trans HW0.out (by rw [hg]; exact (below_size (qd9_)) : w.heap.size ≤ gb698) : w0.heap.size ≤ gb698)); replace HBW := Aside0.mk (below_step HBW.out hb); replace HB := Aside0.mk (below_step (qd6_) hb); clear hb hbox hg))
          go_ret
          exact ⟨_, rfl, (show IsS_l1Cur w0 _ gb698 l0 0 x3_1 from ⟨_, _, by (with_reducible repeat (first | refine blk_drewN ?_ _ | refine blk_drew ?_ | refine blk_alloc ?_ _)); exact BK698.out, GE698.out, ⟨HR0.out, HC0.out⟩⟩), by repeat (first | (with_reducible first | exact HB.out | apply below_alloc | apply pw_below_drewN | apply below_drew1 | refine below_set ?_ GE698.out) | exact HB.out), by repeat (first | (with_reducible first | exact HBW.out | apply below_alloc | apply pw_below_drewN | apply below_drew1 | refine below_set ?_ GW698.out) | exact HBW.out)⟩
      · rw [if_neg c2] at H
        have c2b0 : decide (x4_1 < (l0.length : Int)) = false := decide_eq_false c2
        clear c2
        simp only [Option.some.injEq, Prod.mk.injEq] at H
        obtain ⟨rfl, rfl, rfl⟩ := H
        go_wp2_with (first | ((with_reducible refine gate_dst (N := 31) rfl ?_); refine box_event ?hg (N := 31) ?hd (cs := #[.slice A0 l0.length c0, .int .i64 0, .int .i64 x3_1]) (t := 126) ?hr ?_; (case hd => rfl); (case hg => rfl); (case hr => first | (go_simp; done) | (go_simp; rfl)); intro gb699 hg w6 hbox hb; have BK699 := Aside0.mk (hbox); have GW699 := Aside0.mk ((by rw [hg]; exact (below_size (qd9_)) : w.heap.size ≤ gb699)); have GE699 := Aside0.mk ((Nat.le_trans HW0.out (by rw [hg]; exact (below_size (qd9_)) : w.heap.size ≤ gb699) : w0.heap.size ≤ gb699)); replace HBW := Aside0.mk (below_step HBW.out hb); replace HB := Aside0.mk (below_step (qd6_) hb); clear hb hbox hg))
        go_ret
        exact ⟨_, rfl, (show IsS_l1Cur w0 _ gb699 l0 0 x3_1 from ⟨_, _, by (with_reducible repeat (first | refine blk_drewN ?_ _ | refine blk_drew ?_ | refine blk_alloc ?_ _)); exact BK699.out, GE699.out, ⟨HR0.out, HC0.out⟩⟩), by repeat (first | (with_reducible first | exact HB.out | apply below_alloc | apply pw_below_drewN | apply below_drew1 | refine below_set ?_ GE699.out) | exact HB.out), by repeat (first | (with_reducible first | exact HBW.out | apply below_alloc | apply pw_below_drewN | apply below_drew1 | refine below_set ?_ GW699.out) | exact HBW.out)⟩

/-! ### spec_l1Byte: function 108 -/
def spec_l1Byte.f (s0_0 : List Int) (s0_1 : Int) (s0_2 : Int) : Option (Int × Int × Int) := if s0_1 < (s0_0.length : Int) then (if 0 ≤ s0_1 then (some (Go.bits .and .i64 (wrap64 ((Go.bits .and .i64 (Go.bits .xor .i64 ((wrap64 ((wrap64 (s0_2 * 6364136223846793005)) + 1442695040888963407)) / 8589934592) ((wrap64 ((wrap64 (s0_2 * 6364136223846793005)) + 1442695040888963407)) / 35184372088832)) 255) + (wrap64 (rd s0_0 s0_1)))) 255, wrap64 (s0_1 + 1), wrap64 ((wrap64 (s0_2 * 6364136223846793005)) + 1442695040888963407))) else (none)) else (some (Go.bits .and .i64 (Go.bits .xor .i64 ((wrap64 ((wrap64 (s0_2 * 6364136223846793005)) + 1442695040888963407)) / 8589934592) ((wrap64 ((wrap64 (s0_2 * 6364136223846793005)) + 1442695040888963407)) / 35184372088832)) 255, s0_1, wrap64 ((wrap64 (s0_2 * 6364136223846793005)) + 1442695040888963407)))
set_option maxHeartbeats 8000000 in
set_option maxRecDepth 100000 in
theorem spec_l1Byte.calls (g : Nat) (s0_0 : List Int) (s0_1 : Int) (s0_2 : Int) (r1 : Int) (r2 : Int) (r3 : Int) (w0 w : World) (hI : IsS_l1Cur w0 w g s0_0 s0_1 s0_2) (hB : Below w0.heap.size w0 w) (h : spec_l1Byte.f s0_0 s0_1 s0_2 = some (r1, r2, r3)) :
    Calls Try.prog 108 #[.pointer (some ⟨g, 0, none⟩)] w fun e w' => e = .returned (.int .i64 r1) ∧ IsS_l1Cur w0 w' g s0_0 r2 r3 ∧ Below w0.heap.size w0 w' ∧ KeepBut w w' g none := by
  have HI0 := Aside0.mk hI
  have HK := Aside0.mk (KeepBut.refl w g none)
  have HL := Aside0.mk hB.size
  clear hI
  have HW0 := Aside0.mk hB.size
  have HB := Aside0.mk hB
  clear hB
  have H : (if s0_1 < (s0_0.length : Int) then (if 0 ≤ s0_1 then (some (Go.bits .and .i64 (wrap64 ((Go.bits .and .i64 (Go.bits .xor .i64 ((wrap64 ((wrap64 (s0_2 * 6364136223846793005)) + 1442695040888963407)) / 8589934592) ((wrap64 ((wrap64 (s0_2 * 6364136223846793005)) + 1442695040888963407)) / 35184372088832)) 255) + (wrap64 (rd s0_0 s0_1)))) 255, wrap64 (s0_1 + 1), wrap64 ((wrap64 (s0_2 * 6364136223846793005)) + 1442695040888963407))) else (none)) else (some (Go.bits .and .i64 (Go.bits .xor .i64 ((wrap64 ((wrap64 (s0_2 * 6364136223846793005)) + 1442695040888963407)) / 8589934592) ((wrap64 ((wrap64 (s0_2 * 6364136223846793005)) + 1442695040888963407)) / 35184372088832)) 255, s0_1, wrap64 ((wrap64 (s0_2 * 6364136223846793005)) + 1442695040888963407)))) = some (r1, r2, r3) := h
  clear h
  by_cases c2 : s0_1 < (s0_0.length : Int)
  · rw [if_pos c2] at H
    have c2b0 : decide (s0_1 < (s0_0.length : Int)) = true := decide_eq_true c2
    clear c2
    by_cases c3 : 0 ≤ s0_1
    · rw [if_pos c3] at H
      have c3b0 : decide (0 ≤ s0_1) = true := decide_eq_true c3
      clear c3
      simp only [Option.some.injEq, Prod.mk.injEq] at H
      obtain ⟨rfl, rfl, rfl⟩ := H
      obtain ⟨ASz4_0, cSz4_0, HGz4, hgz4, ⟨HSz4_0, HZz4_0⟩⟩ := HI0.out
      have hcz4_0 := cellS126_0 HGz4
      have hcz4_1 := cellS126_1 HGz4
      have hcz4_2 := cellS126_2 HGz4
      have hfz4_1 := blk_frozen HGz4 1
      have hfz4_2 := blk_frozen HGz4 2
      clear HGz4 hgz4
      have p700 : 0 ≤ (s0_1 : Int) := of_decide_eq_true dt_
      have q700 : s0_1 < (s0_0.length : Int) := of_decide_eq_true dt_
      obtain ⟨ad700, e700, hx700_0⟩ := Kd.at_int HSz4_0 s0_1 p700 q700
      cases e700
      have hn700_0 : ad700.block ≠ g := Nat.ne_of_lt (Nat.lt_of_lt_of_le (by have := World.block_lt_of_cell? _ _ hx700_0; first | rwa [add_block] at this | exact this) (IsS_l1Cur.ge HI0.out))
      replace hx700_0 := pw_cell_below HB.out hx700_0
      replace hx700_0 := (cell_far (p := ⟨g, 2, none⟩) (by first | (rw [add_block]; exact hn700_0) | (show (Addr.add _ _).block ≠ _; rw [add_block]; exact hn700_0) | exact hn700_0) (.int .i64 (wrap64 ((wrap64 (s0_2 * 6364136223846793005)) + 1442695040888963407)))).trans hx700_0
      (try have hy700_0 := fun (n_ : Nat) => (show (((w.drewN n_).setCell ⟨g, 2, none⟩ (.int .i64 (wrap64 ((wrap64 (s0_2 * 6364136223846793005)) + 1442695040888963407))))).cell? _ = some _ from hx700_0))
      clear hn700_0
      replace p700 := eq_true p700
      replace q700 := eq_true q700
      go_enter Try.func108, Try.ntmps108
      go_wp2
      repeat (go_quiet (fail); try go_wp2)
      go_ret
      exact ⟨qd7_, qd3_, qd4_, qd1_⟩
    · rw [if_neg c3] at H
      exact absurd H (by simp)
  · rw [if_neg c2] at H
    have c2b0 : decide (s0_1 < (s0_0.length : Int)) = false := decide_eq_false c2
    clear c2
    simp only [Option.some.injEq, Prod.mk.injEq] at H
    obtain ⟨rfl, rfl, rfl⟩ := H
    obtain ⟨ASz5_0, cSz5_0, HGz5, hgz5, ⟨HSz5_0, HZz5_0⟩⟩ := HI0.out
    have hcz5_0 := cellS126_0 HGz5
    have hcz5_1 := cellS126_1 HGz5
    have hcz5_2 := cellS126_2 HGz5
    have hfz5_1 := blk_frozen HGz5 1
    have hfz5_2 := blk_frozen HGz5 2
    clear HGz5 hgz5
    go_enter Try.func108, Try.ntmps108
    go_wp2
    repeat (go_quiet (fail); try go_wp2)
    go_ret
    exact ⟨qd7_, qd3_, qd4_, qd1_⟩
/-! ### spec_l1Below: function 76 -/
def spec_l1Below.f (s0_0 : List Int) (s0_1 : Int) (s0_2 : Int) (a1 : Int) : Option (Int × Int × Int) := if a1 ≤ 0 then (some (0, s0_1, s0_2)) else (if a1 ≤ 256 then ((spec_l1Byte.f s0_0 s0_1 s0_2).bind fun bt701 => (if a1 = 0 then (none) else (some (Int.tmod bt701.1 a1, bt701.2.1, bt701.2.2)))) else ((spec_l1Byte.f s0_0 s0_1 s0_2).bind fun bt704 => ((spec_l1Byte.f s0_0 bt704.2.1 bt704.2.2).bind fun bt707 => ((spec_l1Byte.f s0_0 bt707.2.1 bt707.2.2).bind fun bt710 => ((spec_l1Byte.f s0_0 bt710.2.1 bt710.2.2).bind fun bt713 => (if a1 = 0 then (none) else (some (Int.tmod (wrap64 ((wrap64 ((wrap64 ((wrap64 (bt704.1 * 16777216)) + (wrap64 (bt707.1 * 65536)))) + (wrap64 (bt710.1 * 256)))) + bt713.1)) a1, bt713.2.1, bt713.2.2))))))))
set_option maxHeartbeats 8000000 in
set_option maxRecDepth 100000 in
theorem spec_l1Below.calls (g : Nat) (s0_0 : List Int) (s0_1 : Int) (s0_2 : Int) (a1 : Int) (r1 : Int) (r2 : Int) (r3 : Int) (w0 w : World) (hI : IsS_l1Cur w0 w g s0_0 s0_1 s0_2) (hB : Below w0.heap.size w0 w) (h : spec_l1Below.f s0_0 s0_1 s0_2 a1 = some (r1, r2, r3)) :
    Calls Try.prog 76 #[.pointer (some ⟨g, 0, none⟩), .int .i64 a1] w fun e w' => e = .returned (.int .i64 r1) ∧ IsS_l1Cur w0 w' g s0_0 r2 r3 ∧ Below w0.heap.size w0 w' ∧ KeepBut w w' g none := by
  have HI0 := Aside0.mk hI
  have HK := Aside0.mk (KeepBut.refl w g none)
  have HL := Aside0.mk hB.size
  clear hI
  have HW0 := Aside0.mk hB.size
  have HB := Aside0.mk hB
  clear hB
  have H : (if a1 ≤ 0 then (some (0, s0_1, s0_2)) else (if a1 ≤ 256 then ((spec_l1Byte.f s0_0 s0_1 s0_2).bind fun bt701 => (if a1 = 0 then (none) else (some (Int.tmod bt701.1 a1, bt701.2.1, bt701.2.2)))) else ((spec_l1Byte.f s0_0 s0_1 s0_2).bind fun bt704 => ((spec_l1Byte.f s0_0 bt704.2.1 bt704.2.2).bind fun bt707 => ((spec_l1Byte.f s0_0 bt707.2.1 bt707.2.2).bind fun bt710 => ((spec_l1Byte.f s0_0 bt710.2.1 bt710.2.2).bind fun bt713 => (if a1 = 0 then (none) else (some (Int.tmod (wrap64 ((wrap64 ((wrap64 ((wrap64 (bt704.1 * 16777216)) + (wrap64 (bt707.1 * 65536)))) + (wrap64 (bt710.1 * 256)))) + bt713.1)) a1, bt713.2.1, bt713.2.2))))))))) = some (r1, r2, r3) := h
  clear h
  by_cases c3 : a1 ≤ 0
  · rw [if_pos c3] at H
    have c3b0 : decide (a1 ≤ 0) = true := decide_eq_true c3
    clear c3
    simp only [Option.some.injEq, Prod.mk.injEq] at H
    obtain ⟨rfl, rfl, rfl⟩ := H
    go_enter Try.func76, Try.ntmps76
    go_wp2
    go_ret
    exact ⟨qd7_, qd3_, qd4_, qd1_⟩
  · rw [if_neg c3] at H
    have c3b0 : decide (a1 ≤ 0) = false := decide_eq_false c3
    clear c3
    by_cases c4 : a1 ≤ 256
    · rw [if_pos c4] at H
      have c4b0 : decide (a1 ≤ 256) = true := decide_eq_true c4
      clear c4
      replace H := Option.bind_eq_some_iff.mp H
      obtain ⟨⟨t701, t702, t703⟩, A50, H⟩ := H
      replace H : (if a1 = 0 then (none) else (some (Int.tmod t701 a1, t702, t703))) = some (r1, r2, r3) := H
      have A5 := Aside0.mk A50
      clear A50
      by_cases c6 : a1 = 0
      · rw [if_pos c6] at H
        exact absurd H (by simp)
      · rw [if_neg c6] at H
        have c6b0 : (a1 == 0) = false := beq_eq_false_iff_ne.mpr c6
        have c6b1 : (a1 != 0) = true := bne_iff_ne.mpr c6
        simp only [Option.some.injEq, Prod.mk.injEq] at H
        obtain ⟨rfl, rfl, rfl⟩ := H
        go_enter Try.func76, Try.ntmps76
        go_wp2_with (first | ((with_reducible refine gate_callee (f := 108) rfl ?_); refine goesL_ (some 14) rfl rfl Try.func108 (by kernel_rfl) rfl #[.pointer (some ⟨g, 0, none⟩)] rfl (qd2_) ?_; (with_reducible refine (spec_l1Byte.calls g s0_0 s0_1 s0_2 t701 t702 t703 w0 _ ?side1 ?side2 A5.out).mono ?_); (case side1 => repeat (first | (with_reducible first | exact HI0.out | apply IsS_l1Cur.alloc | apply IsS_l1Cur.drewN | apply IsS_l1Cur.drew | apply IsS_l1Cur.set_1 | apply IsS_l1Cur.set_2) | exact HI0.out)); (case side2 => repeat (first | (with_reducible first | exact HB.out | apply below_alloc | apply pw_below_drewN | apply below_drew1 | refine below_set ?_ (IsS_l1Cur.ge HI0.out)) | exact HB.out)); rintro e w7 ⟨rfl, hi, hb, hk⟩; refine ⟨_, rfl, ?_⟩; replace HK := Aside0.mk (KeepBut.trans (qd1_) hk (.inl rfl)); replace HB := Aside0.mk (hb); replace HI0 := Aside0.mk (hi); (try clear hb); (try clear hb2); (try clear hk); (try clear hi)))
        go_ret
        exact ⟨qd7_, qd3_, qd4_, qd1_⟩
    · rw [if_neg c4] at H
      have c4b0 : decide (a1 ≤ 256) = false := decide_eq_false c4
      clear c4
      replace H := Option.bind_eq_some_iff.mp H
      obtain ⟨⟨t704, t705, t706⟩, A80, H⟩ := H
      replace H : ((spec_l1Byte.f s0_0 t705 t706).bind fun bt707 => ((spec_l1Byte.f s0_0 bt707.2.1 bt707.2.2).bind fun bt710 => ((spec_l1Byte.f s0_0 bt710.2.1 bt710.2.2).bind fun bt713 => (if a1 = 0 then (none) else (some (Int.tmod (wrap64 ((wrap64 ((wrap64 ((wrap64 (t704 * 16777216)) + (wrap64 (bt707.1 * 65536)))) + (wrap64 (bt710.1 * 256)))) + bt713.1)) a1, bt713.2.1, bt713.2.2)))))) = some (r1, r2, r3) := H
      have A8 := Aside0.mk A80
      clear A80
      replace H := Option.bind_eq_some_iff.mp H
      obtain ⟨⟨t707, t708, t709⟩, A90, H⟩ := H
      replace H : ((spec_l1Byte.f s0_0 t708 t709).bind fun bt710 => ((spec_l1Byte.f s0_0 bt710.2.1 bt710.2.2).bind fun bt713 => (if a1 = 0 then (none) else (some (Int.tmod (wrap64 ((wrap64 ((wrap64 ((wrap64 (t704 * 16777216)) + (wrap64 (t707 * 65536)))) + (wrap64 (bt710.1 * 256)))) + bt713.1)) a1, bt713.2.1, bt713.2.2))))) = some (r1, r2, r3) := H
      have A9 := Aside0.mk A90
      clear A90
      replace H := Option.bind_eq_some_iff.mp H
      obtain ⟨⟨t710, t711, t712⟩, A100, H⟩ := H
      replace H : ((spec_l1Byte.f s0_0 t711 t712).bind fun bt713 => (if a1 = 0 then (none) else (some (Int.tmod (wrap64 ((wrap64 ((wrap64 ((wrap64 (t704 * 16777216)) + (wrap64 (t707 * 65536)))) + (wrap64 (t710 * 256)))) + bt713.1)) a1, bt713.2.1, bt713.2.2)))) = some (r1, r2, r3) := H
      have A10 := Aside0.mk A100
      clear A100
      replace H := Option.bind_eq_some_iff.mp H
      obtain ⟨⟨t713, t714, t715⟩, A110, H⟩ := H
      replace H : (if a1 = 0 then (none) else (some (Int.tmod (wrap64 ((wrap64 ((wrap64 ((wrap64 (t704 * 16777216)) + (wrap64 (t707 * 65536)))) + (wrap64 (t710 * 256)))) + t713)) a1, t714, t715))) = some (r1, r2, r3) := H
      have A11 := Aside0.mk A110
      clear A110
      by_cases c12 : a1 = 0
      · rw [if_pos c12] at H
        exact absurd H (by simp)
      · rw [if_neg c12] at H
        have c12b0 : (a1 == 0) = false := beq_eq_false_iff_ne.mpr c12
        have c12b1 : (a1 != 0) = true := bne_iff_ne.mpr c12
        simp only [Option.some.injEq, Prod.mk.injEq] at H
        obtain ⟨rfl, rfl, rfl⟩ := H
        go_enter Try.func76, Try.ntmps76
        go_wp2_with (first | ((with_reducible refine gate_callee (f := 108) rfl ?_); refine goesL_ (some 18) rfl rfl Try.func108 (by kernel_rfl) rfl #[.pointer (some ⟨g, 0, none⟩)] rfl (qd2_) ?_; (with_reducible refine (spec_l1Byte.calls g s0_0 s0_1 s0_2 t704 t705 t706 w0 _ ?side1 ?side2 A8.out).mono ?_); (case side1 => repeat (first | (with_reducible first | exact HI0.out | apply IsS_l1Cur.alloc | apply IsS_l1Cur.drewN | apply IsS_l1Cur.drew | apply IsS_l1Cur.set_1 | apply IsS_l1Cur.set_2) | exact HI0.out)); (case side2 => repeat (first | (with_reducible first | exact HB.out | apply below_alloc | apply pw_below_drewN | apply below_drew1 | refine below_set ?_ (IsS_l1Cur.ge HI0.out)) | exact HB.out)); rintro e w13 ⟨rfl, hi, hb, hk⟩; refine ⟨_, rfl, ?_⟩; replace HK := Aside0.mk (KeepBut.trans (qd1_) hk (.inl rfl)); replace HB := Aside0.mk (hb); replace HI0 := Aside0.mk (hi); (try clear hb); (try clear hb2); (try clear hk); (try clear hi)) | ((with_reducible refine gate_callee (f := 108) rfl ?_); refine goesL_ (some 20) rfl rfl Try.func108 (by kernel_rfl) rfl #[.pointer (some ⟨g, 0, none⟩)] rfl (qd2_) ?_; (with_reducible refine (spec_l1Byte.calls g s0_0 t705 t706 t707 t708 t709 w0 _ ?side1 ?side2 A9.out).mono ?_); (case side1 => repeat (first | (with_reducible first | exact HI0.out | apply IsS_l1Cur.alloc | apply IsS_l1Cur.drewN | apply IsS_l1Cur.drew | apply IsS_l1Cur.set_1 | apply IsS_l1Cur.set_2) | exact HI0.out)); (case side2 => repeat (first | (with_reducible first | exact HB.out | apply below_alloc | apply pw_below_drewN | apply below_drew1 | refine below_set ?_ (IsS_l1Cur.ge HI0.out)) | exact HB.out)); rintro e w14 ⟨rfl, hi, hb, hk⟩; refine ⟨_, rfl, ?_⟩; replace HK := Aside0.mk (KeepBut.trans (qd1_) hk (.inl rfl)); replace HB := Aside0.mk (hb); replace HI0 := Aside0.mk (hi); (try clear hb); (try clear hb2); (try clear hk); (try clear hi)) | ((with_reducible refine gate_callee (f := 108) rfl ?_); refine goesL_ (some 22) rfl rfl Try.func108 (by kernel_rfl) rfl #[.pointer (some ⟨g, 0, none⟩)] rfl (qd2_) ?_; (with_reducible refine (spec_l1Byte.calls g s0_0 t708 t709 t710 t711 t712 w0 _ ?side1 ?side2 A10.out).mono ?_); (case side1 => repeat (first | (with_reducible first | exact HI0.out | apply IsS_l1Cur.alloc | apply IsS_l1Cur.drewN | apply IsS_l1Cur.drew | apply IsS_l1Cur.set_1 | apply IsS_l1Cur.set_2) | exact HI0.out)); (case side2 => repeat (first | (with_reducible first | exact HB.out | apply below_alloc | apply pw_below_drewN | apply below_drew1 | refine below_set ?_ (IsS_l1Cur.ge HI0.out)) | exact HB.out)); rintro e w15 ⟨rfl, hi, hb, hk⟩; refine ⟨_, rfl, ?_⟩; replace HK := Aside0.mk (KeepBut.trans (qd1_) hk (.inl rfl)); replace HB := Aside0.mk (hb); replace HI0 := Aside0.mk (hi); (try clear hb); (try clear hb2); (try clear hk); (try clear hi)) | ((with_reducible refine gate_callee (f := 108) rfl ?_); refine goesL_ (some 24) rfl rfl Try.func108 (by kernel_rfl) rfl #[.pointer (some ⟨g, 0, none⟩)] rfl (qd2_) ?_; (with_reducible refine (spec_l1Byte.calls g s0_0 t711 t712 t713 t714 t715 w0 _ ?side1 ?side2 A11.out).mono ?_); (case side1 => repeat (first | (with_reducible first | exact HI0.out | apply IsS_l1Cur.alloc | apply IsS_l1Cur.drewN | apply IsS_l1Cur.drew | apply IsS_l1Cur.set_1 | apply IsS_l1Cur.set_2) | exact HI0.out)); (case side2 => repeat (first | (with_reducible first | exact HB.out | apply below_alloc | apply pw_below_drewN | apply below_drew1 | refine below_set ?_ (IsS_l1Cur.ge HI0.out)) | exact HB.out)); rintro e w16 ⟨rfl, hi, hb, hk⟩; refine ⟨_, rfl, ?_⟩; replace HK := Aside0.mk (KeepBut.trans (qd1_) hk (.inl rfl)); replace HB := Aside0.mk (hb); replace HI0 := Aside0.mk (hi); (try clear hb); (try clear hb2); (try clear hk); (try clear hi)))
        go_ret
        exact ⟨qd7_, qd3_, qd4_, qd1_⟩

/-! ### spec_l1PickInt: function 52 -/
def spec_l1PickInt.f (s0_0 : List Int) (s0_1 : Int) (s0_2 : Int) (l1 : List Int) : Option (Int × Int × Int) := (spec_l1Below.f s0_0 s0_1 s0_2 (l1.length : Int)).bind fun bt716 => (if 0 ≤ bt716.1 then (if bt716.1 < (l1.length : Int) then (some (rd l1 bt716.1, bt716.2.1, bt716.2.2)) else (none)) else (none))
set_option maxHeartbeats 8000000 in
set_option maxRecDepth 100000 in
theorem spec_l1PickInt.calls (g : Nat) (s0_0 : List Int) (s0_1 : Int) (s0_2 : Int) (A1 : Option Addr) (c1 : Nat) (l1 : List Int) (r1 : Int) (r2 : Int) (r3 : Int) (w0 w : World) (hI : IsS_l1Cur w0 w g s0_0 s0_1 s0_2) (hB : Below w0.heap.size w0 w) (hr1 : Kd.C (Kd.int .i64) w A1 l1.length l1) (hc1 : l1.length ≤ c1) (hf1 : ∀ ad, A1 = some ad → 0 < l1.length → ad.block ≠ g) (h : spec_l1PickInt.f s0_0 s0_1 s0_2 l1 = some (r1, r2, r3)) :
    Calls Try.prog 52 #[.pointer (some ⟨g, 0, none⟩), .slice A1 l1.length c1] w fun e w' => e = .returned (.int .i64 r1) ∧ IsS_l1Cur w0 w' g s0_0 r2 r3 ∧ Below w0.heap.size w0 w' ∧ KeepBut w w' g none := by
  have HR1 := Aside0.mk hr1
  have HC1 := Aside0.mk hc1
  clear hr1 hc1
  have HI0 := Aside0.mk hI
  have HK := Aside0.mk (KeepBut.refl w g none)
  have HL := Aside0.mk hB.size
  clear hI
  have HW0 := Aside0.mk hB.size
  have HB := Aside0.mk hB
  clear hB
  have H : ((spec_l1Below.f s0_0 s0_1 s0_2 (l1.length : Int)).bind fun bt716 => (if 0 ≤ bt716.1 then (if bt716.1 < (l1.length : Int) then (some (rd l1 bt716.1, bt716.2.1, bt716.2.2)) else (none)) else (none))) = some (r1, r2, r3) := h
  clear h
  replace H := Option.bind_eq_some_iff.mp H
  obtain ⟨⟨t716, t717, t718⟩, A30, H⟩ := H
  replace H : (if 0 ≤ t716 then (if t716 < (l1.length : Int) then (some (rd l1 t716, t717, t718)) else (none)) else (none)) = some (r1, r2, r3) := H
  have A3 := Aside0.mk A30
  clear A30
  by_cases c4 : 0 ≤ t716
  · rw [if_pos c4] at H
    have c4b0 : decide (0 ≤ t716) = true := decide_eq_true c4
    clear c4
    by_cases c5 : t716 < (l1.length : Int)
    · rw [if_pos c5] at H
      have c5b0 : decide (t716 < (l1.length : Int)) = true := decide_eq_true c5
      clear c5
      simp only [Option.some.injEq, Prod.mk.injEq] at H
      obtain ⟨rfl, rfl, rfl⟩ := H
      go_enter Try.func52, Try.ntmps52
      go_wp2_with (first | ((with_reducible refine gate_callee (f := 76) rfl ?_); refine goesL_ (some 9) rfl rfl Try.func76 (by kernel_rfl) rfl #[.pointer (some ⟨g, 0, none⟩), .int .i64 (l1.length : Int)] rfl (qd2_) ?_; (with_reducible refine (spec_l1Below.calls g s0_0 s0_1 s0_2 (l1.length : Int) t716 t717 t718 w0 _ ?side1 ?side2 A3.out).mono ?_); (case side1 => repeat (first | (with_reducible first | exact HI0.out | apply IsS_l1Cur.alloc | apply IsS_l1Cur.drewN | apply IsS_l1Cur.drew | apply IsS_l1Cur.set_1 | apply IsS_l1Cur.set_2) | exact HI0.out)); (case side2 => repeat (first | (with_reducible first | exact HB.out | apply below_alloc | apply pw_below_drewN | apply below_drew1 | refine below_set ?_ (IsS_l1Cur.ge HI0.out)) | exact HB.out)); rintro e w6 ⟨rfl, hi, hb, hk⟩; refine ⟨_, rfl, ?_⟩; replace HK := Aside0.mk (KeepBut.trans (qd1_) hk (.inl rfl)); replace HB := Aside0.mk (hb); replace HI0 := Aside0.mk (hi); (try clear hb); (try clear hb2); (try clear hk); (try clear hi); have p719 : 0 ≤ (t716 : Int) := of_decide_eq_true dt_; have q719 : t716 < (l1.length : Int) := of_decide_eq_true dt_; obtain ⟨ad719, e719, hx719_0⟩ := Kd.at_int HR1.out t716 p719 q719; cases e719; replace hx719_0 := keep_cell HK.out hx719_0 (by first | (rw [add_block]; exact hf1 _ rfl (by omega)) | exact hf1 _ rfl (by omega) | exact hf1 ad719 rfl (by omega)); replace p719 := eq_true p719; replace q719 := eq_true q719))
      go_ret
      exact ⟨qd7_, qd3_, qd4_, qd1_⟩
    · rw [if_neg c5] at H
      exact absurd H (by simp)
  · rw [if_neg c4] at H
    exact absurd H (by simp)
/-! ### spec_RowPut: function 98 -/
def spec_RowPut.j0 : Nat → ByteArray → ByteArray → Int → Int → Int → Int → List (S_Item) → Int → Int → List (S_Item) → Option (Int × Int × (List (S_Item)) × Int × Bool)
  | 0, _, _, _, _, _, _, _, _, _, _ => none
  | k + 1, x1, x2, x3, x4, x1016000, x1016001, x1016002, x1023000, x1023001, x1023002 => if x1023002.length < 2513169434916 then ((some (x1023002 ++ [(⟨x1016001, x1, x2, x3, x4⟩ : S_Item)] : List (S_Item))).bind fun y1024 => ((spec_RowOk.f k x1023000 (wrap64 (x1016001 + 1)) y1024).bind fun t1027 => (if t1027 = true then (some (x1023000, wrap64 (x1016001 + 1), y1024, x1016001, true)) else ((spec_l3Copy.f x1016000 x1016001 x1016002).bind fun bt1028 => (some (bt1028.1, bt1028.2.1, bt1028.2.2, 0, false)))))) else (none)
def spec_RowPut.f (k : Nat) (a0_0 : Int) (a0_1 : Int) (l0_2 : List (S_Item)) (a1 : ByteArray) (a2 : ByteArray) (a3 : Int) (a4 : Int) : Option (Int × Int × (List (S_Item)) × Int × Bool) := (spec_l3Copy.f a0_0 a0_1 l0_2).bind fun bt1017 => ((spec_RowOk.f k a0_0 a0_1 l0_2).bind fun t1023 => (if t1023 = true then (spec_RowPut.j0 k a1 a2 a3 a4 a0_0 a0_1 l0_2 bt1017.1 bt1017.2.1 bt1017.2.2) else (some (bt1017.1, bt1017.2.1, bt1017.2.2, 0, false))))
theorem spec_RowPut.mono_l : ∀ k, (∀ y0 y1 y2 y3 y4 y5 y6 y7 y8 y9, LeO (spec_RowPut.j0 k y0 y1 y2 y3 y4 y5 y6 y7 y8 y9) (spec_RowPut.j0 (k + 1) y0 y1 y2 y3 y4 y5 y6 y7 y8 y9))
  | 0 => fun _ _ _ _ _ _ _ _ _ _ r h => by simp [spec_RowPut.j0] at h
  | k + 1 => by
    have ih0 := spec_RowPut.mono_l k
    · intro y0 y1 y2 y3 y4 y5 y6 y7 y8 y9
      unfold spec_RowPut.j0
      exact qdh1_
theorem spec_RowPut.mono : ∀ a0 a1 a2 a3 a4 a5 a6 k, LeO (spec_RowPut.f k a0 a1 a2 a3 a4 a5 a6) (spec_RowPut.f (k + 1) a0 a1 a2 a3 a4 a5 a6) := by
  intro a0 a1 a2 a3 a4 a5 a6 k
  have ih0 := spec_RowPut.mono_l k
  unfold spec_RowPut.f
  exact qdh1_
set_option maxHeartbeats 8000000 in
set_option maxRecDepth 100000 in
theorem spec_RowPut.calls (k : Nat) (a0_0 : Int) (a0_1 : Int) (A0_2 : Option Addr) (c0_2 : Nat) (l0_2 : List (S_Item)) (a1 : ByteArray) (a2 : ByteArray) (a3 : Int) (a4 : Int) (r1 : Int) (r2 : Int) (r3 : List (S_Item)) (r4 : Int) (r5 : Bool) (w : World) (hr0_2 : Kd.C k_Item w A0_2 l0_2.length l0_2) (hc0_2 : l0_2.length ≤ c0_2) (h : spec_RowPut.f k a0_0 a0_1 l0_2 a1 a2 a3 a4 = some (r1, r2, r3, r4, r5)) :
    Calls Try.prog 98 #[.agg #[.int .i64 a0_0, .int .i64 a0_1, .slice A0_2 l0_2.length c0_2], .string a1, .string a2, .int .i64 a3, .int .i64 a4] w fun e w' => ∃ v2_ : Value, e = .returned (.tuple #[.agg #[.int .i64 r1, .int .i64 r2, v2_], .int .i64 r4, .bool r5]) ∧ Kd.R k_Item 33 w' w.heap.size (fun _ => True) v2_ r3 ∧ Below w.heap.size w w' := by
  have hu26 := Try.underlying26
  have hu33 := Try.underlying33
  have HR0_2 := Aside0.mk hr0_2
  have HC0_2 := Aside0.mk hc0_2
  clear hr0_2 hc0_2
  have HB := Aside0.mk (Below.refl w.heap.size w)
  have H : ((spec_l3Copy.f a0_0 a0_1 l0_2).bind fun bt1017 => ((spec_RowOk.f k a0_0 a0_1 l0_2).bind fun t1023 => (if t1023 = true then (spec_RowPut.j0 k a1 a2 a3 a4 a0_0 a0_1 l0_2 bt1017.1 bt1017.2.1 bt1017.2.2) else (some (bt1017.1, bt1017.2.1, bt1017.2.2, 0, false))))) = some (r1, r2, r3, r4, r5) := h
  clear h
  replace H := Option.bind_eq_some_iff.mp H
  obtain ⟨⟨t1017, t1018, t1019⟩, A60, H⟩ := H
  replace H : ((spec_RowOk.f k a0_0 a0_1 l0_2).bind fun t1023 => (if t1023 = true then (spec_RowPut.j0 k a1 a2 a3 a4 a0_0 a0_1 l0_2 t1017 t1018 t1019) else (some (t1017, t1018, t1019, 0, false)))) = some (r1, r2, r3, r4, r5) := H
  have A6 := Aside0.mk A60
  clear A60
  replace H := Option.bind_eq_some_iff.mp H
  obtain ⟨t1023, A70, H⟩ := H
  replace H : (if t1023 = true then (spec_RowPut.j0 k a1 a2 a3 a4 a0_0 a0_1 l0_2 t1017 t1018 t1019) else (some (t1017, t1018, t1019, 0, false))) = some (r1, r2, r3, r4, r5) := H
  have A7 := Aside0.mk A70
  clear A70
  have HC8 := Aside0.mk H
  clear H
  go_enter Try.func98, Try.ntmps98
  go_upto_if 18 with (first | ((with_reducible refine gate_dst (N := 5) rfl ?_); refine box_event ?hg (N := 5) ?hd (cs := #[.int .i64 a0_0, .int .i64 a0_1, .slice A0_2 l0_2.length c0_2]) (t := 26) ?hr ?_; (case hd => rfl); (case hg => rfl); (case hr => first | (go_simp; done) | (go_simp; rfl)); intro gb1015 hg w9 hbox hb; have BK1015 := Aside0.mk (hbox); have GW1015 := Aside0.mk ((by rw [hg]; exact (below_size (qd6_)) : w.heap.size ≤ gb1015)); have GE1015 := Aside0.mk ((by rw [hg]; exact (below_size (qd6_)) : w.heap.size ≤ gb1015)); replace HB := Aside0.mk (below_step (qd6_) hb); clear hb hbox hg) | ((with_reducible refine gate_dst (N := 10) rfl ?_); refine box_event ?hg (N := 10) ?hd (cs := #[.int .i64 0, .int .i64 0, .slice none 0 0]) (t := 26) ?hr ?_; (case hd => rfl); (case hg => rfl); (case hr => first | (go_simp; done) | (go_simp; rfl)); intro gb1016 hg w10 hbox hb; have BK1016 := Aside0.mk (hbox); have GW1016 := Aside0.mk ((by rw [hg]; exact (below_size (qd14_)) : w.heap.size ≤ gb1016)); have GE1016 := Aside0.mk ((by rw [hg]; exact (below_size (qd14_)) : w.heap.size ≤ gb1016)); have NB1015_1016 := Aside0.mk ((by rw [hg]; exact Nat.ne_of_lt (blk_lt (g := gb1015) (o := .cells #[.int .i64 a0_0, .int .i64 a0_1, .slice A0_2 l0_2.length c0_2] 26 (0, 0)) (bq_ BK1015.out)) : gb1015 ≠ gb1016)); have NB1016_1015 := Aside0.mk ((by rw [hg]; exact Nat.ne_of_gt (blk_lt (g := gb1015) (o := .cells #[.int .i64 a0_0, .int .i64 a0_1, .slice A0_2 l0_2.length c0_2] 26 (0, 0)) (bq_ BK1015.out)) : gb1016 ≠ gb1015)); replace BK1015 := Aside0.mk (blk_below (g := gb1015) (o := .cells #[.int .i64 a0_0, .int .i64 a0_1, .slice A0_2 l0_2.length c0_2] 26 (0, 0)) (bq_ BK1015.out) hb); replace HB := Aside0.mk (below_step (qd14_) hb); clear hb hbox hg; have hnb11 := NB1015_1016.out; have hnc11 := NB1016_1015.out; have hcz12_0 : w10.cell? ⟨gb1015, 0, none⟩ = some (.int .i64 a0_0) := bc_ BK1015 0; have hcz12_1 : w10.cell? ⟨gb1015, 1, none⟩ = some (.int .i64 a0_1) := bc_ BK1015 1; have hcz12_2 : w10.cell? ⟨gb1015, 2, none⟩ = some (.slice A0_2 l0_2.length c0_2) := bc_ BK1015 2; have hfz12_0 := blk_frozen BK1015.out 0; have hfz12_1 := blk_frozen BK1015.out 1; have hfz12_2 := blk_frozen BK1015.out 2) | ((with_reducible refine gate_callee (f := 56) rfl ?_); refine goesL_ (some 15) rfl rfl Try.func56 (by kernel_rfl) rfl #[.agg #[.int .i64 a0_0, .int .i64 a0_1, .slice A0_2 l0_2.length c0_2]] rfl (qd2_) ?_; (with_reducible refine (spec_l3Copy.calls a0_0 a0_1 _ _ l0_2 t1017 t1018 t1019 _ ?side1 ?side2 A6.out).mono ?_); (case side1 => repeat (first | exact (Kd.C_below HR0_2.out HB.out) | (with_reducible refine Kd.C_alloc ?_ _) | (with_reducible refine Kd.C_drewN ?_ _) | (with_reducible refine Kd.C_drew ?_))); (case side2 => exact HC0_2.out); rintro e w13 ⟨v1020, rfl, ho0, hb⟩; refine ⟨_, rfl, ?_⟩; have HO1021 := Aside0.mk (Kd.R_lower ho0 (below_size (qd8_))); replace BK1015 := Aside0.mk (blk_below (g := gb1015) (o := .cells #[.int .i64 a0_0, .int .i64 a0_1, .slice A0_2 l0_2.length c0_2] 26 (0, 0)) (bq_ BK1015.out) hb); replace BK1016 := Aside0.mk (blk_below (g := gb1016) (o := .cells #[.int .i64 0, .int .i64 0, .slice none 0 0] 26 (0, 0)) (bq_ BK1016.out) hb); replace HB := Aside0.mk (below_step (qd8_) hb); (try clear hb); (try clear hb2); (try clear hk); (try clear hi); (try clear ho0)) | ((with_reducible refine gate_dst (N := 13) rfl ?_); refine box_event ?hg (N := 13) ?hd (cs := #[.int .i64 0, .int .i64 0, .slice none 0 0]) (t := 26) ?hr ?_; (case hd => rfl); (case hg => rfl); (case hr => first | (go_simp; done) | (go_simp; rfl)); intro gb1022 hg w14 hbox hb; have BK1022 := Aside0.mk (hbox); have GW1022 := Aside0.mk ((by rw [hg]; exact (below_size (qd8_)) : w.heap.size ≤ gb1022)); have GE1022 := Aside0.mk ((by rw [hg]; exact (below_size (qd8_)) : w.heap.size ≤ gb1022)); have NB1015_1022 := Aside0.mk ((by rw [hg]; exact Nat.ne_of_lt (blk_lt (g := gb1015) (o := .cells #[.int .i64 a0_0, .int .i64 a0_1, .slice A0_2 l0_2.length c0_2] 26 (0, 0)) (bq_ BK1015.out)) : gb1015 ≠ gb1022)); have NB1022_1015 := Aside0.mk ((by rw [hg]; exact Nat.ne_of_gt (blk_lt (g := gb1015) (o := .cells #[.int .i64 a0_0, .int .i64 a0_1, .slice A0_2 l0_2.length c0_2] 26 (0, 0)) (bq_ BK1015.out)) : gb1022 ≠ gb1015)); have NB1016_1022 := Aside0.mk ((by rw [hg]; exact Nat.ne_of_lt (blk_lt (g := gb1016) (o := .cells #[.int .i64 0, .int .i64 0, .slice none 0 0] 26 (0, 0)) (bq_ BK1016.out)) : gb1016 ≠ gb1022)); have NB1022_1016 := Aside0.mk ((by rw [hg]; exact Nat.ne_of_gt (blk_lt (g := gb1016) (o := .cells #[.int .i64 0, .int .i64 0, .slice none 0 0] 26 (0, 0)) (bq_ BK1016.out)) : gb1022 ≠ gb1016)); replace HO1021 := Aside0.mk (Kd.R_below (by (with_reducible repeat (first | apply Kd.R_alloc | apply Kd.R_drewN | apply Kd.R_drew)); exact HO1021.out) hb); replace BK1015 := Aside0.mk (blk_below (g := gb1015) (o := .cells #[.int .i64 a0_0, .int .i64 a0_1, .slice A0_2 l0_2.length c0_2] 26 (0, 0)) (bq_ BK1015.out) hb); replace BK1016 := Aside0.mk (blk_below (g := gb1016) (o := .cells #[.int .i64 0, .int .i64 0, .slice none 0 0] 26 (0, 0)) (bq_ BK1016.out) hb); replace HB := Aside0.mk (below_step (qd8_) hb); clear hb hbox hg; have hnb15 := NB1022_1015.out; have hnc15 := NB1015_1022.out; have hnb16 := NB1022_1016.out; have hnc16 := NB1016_1022.out; have hcz17_0 : w14.cell? ⟨gb1022, 0, none⟩ = some (.int .i64 0) := bc_ BK1022 0; have hcz17_1 : w14.cell? ⟨gb1022, 1, none⟩ = some (.int .i64 0) := bc_ BK1022 1; have hcz17_2 : w14.cell? ⟨gb1022, 2, none⟩ = some (.slice none 0 0) := bc_ BK1022 2; have hfz17_0 := blk_frozen BK1022.out 0; have hfz17_1 := blk_frozen BK1022.out 1; have hfz17_2 := blk_frozen BK1022.out 2; obtain ⟨Ao18, co18, eo18⟩ := Kd.R_slice HO1021.out; subst eo18; have hcz19_0 : w14.cell? ⟨gb1015, 0, none⟩ = some (.int .i64 a0_0) := bc_ BK1015 0; have hcz19_1 : w14.cell? ⟨gb1015, 1, none⟩ = some (.int .i64 a0_1) := bc_ BK1015 1; have hcz19_2 : w14.cell? ⟨gb1015, 2, none⟩ = some (.slice A0_2 l0_2.length c0_2) := bc_ BK1015 2; have hfz19_0 := blk_frozen BK1015.out 0; have hfz19_1 := blk_frozen BK1015.out 1; have hfz19_2 := blk_frozen BK1015.out 2) | ((with_reducible refine gate_callee (f := 57) rfl ?_); refine goesL_ (some 17) rfl rfl Try.func57 (by kernel_rfl) rfl #[.agg #[.int .i64 a0_0, .int .i64 a0_1, .slice A0_2 l0_2.length c0_2]] rfl (qd2_) ?_; (with_reducible refine (spec_RowOk.calls k a0_0 a0_1 _ _ l0_2 t1023 _ ?side1 ?side2 A7.out).mono ?_); (case side1 => exact Kd.C_below HR0_2.out (qd0_)); (case side2 => exact HC0_2.out); rintro e w20 ⟨rfl, hb⟩; refine ⟨_, rfl, ?_⟩; replace HO1021 := Aside0.mk (Kd.R_below (by (with_reducible repeat (first | apply Kd.R_alloc | apply Kd.R_drewN | apply Kd.R_drew)); exact (Kd.R_mono (Kd.R_far (p := ⟨gb1022, 2, none⟩) (Kd.R_far (p := ⟨gb1022, 1, none⟩) (Kd.R_far (p := ⟨gb1022, 0, none⟩) (Kd.R_types HO1021.out BK1022.out (by decide)) (fun _ hk => hk.2) (.int .i64 t1017)) (fun _ hk => hk.2) (.int .i64 t1018)) (fun _ hk => hk.2) (.slice Ao18 t1019.length co18)) (fun _ h_ => h_.1))) hb); replace BK1015 := Aside0.mk (blk_below (g := gb1015) (o := .cells #[.int .i64 a0_0, .int .i64 a0_1, .slice A0_2 l0_2.length c0_2] 26 (0, 0)) (bf_ NB1015_1022.out BK1015.out) hb); replace BK1016 := Aside0.mk (blk_below (g := gb1016) (o := .cells #[.int .i64 0, .int .i64 0, .slice none 0 0] 26 (0, 0)) (bf_ NB1016_1022.out BK1016.out) hb); replace BK1022 := Aside0.mk (blk_below (g := gb1022) (o := .cells #[.int .i64 t1017, .int .i64 t1018, .slice Ao18 t1019.length co18] 26 (0, 0)) (bp_ BK1022.out) hb); replace HB := Aside0.mk (below_step (qd0_) hb); (try clear hb); (try clear hb2); (try clear hk); (try clear hi)))
  (try simp only [Act.put, List.setIfInBounds_toArray, List.set_cons_zero, List.set_cons_succ])
  go_cut [] (fun wc => ∃ (kq : Nat) (x1017000_7 : Int) (x1017001_7 : Int), Aside0 (spec_RowPut.j0 kq a1 a2 a3 a4 a0_0 a0_1 l0_2 t1017 t1018 t1019 = some (r1, r2, r3, r4, r5)) ∧ Aside0 (kq ≤ k) ∧ Aside0 (Kd.R k_Item 33 wc w.heap.size (fun _ => True) (.slice Ao18 t1019.length co18) t1019) ∧ Aside0 (wc.heap[gb1015]? = some (.cells #[.int .i64 a0_0, .int .i64 a0_1, (.slice A0_2 l0_2.length c0_2)] 26 (0, 0))) ∧ Aside0 (wc.heap[gb1016]? = some (.cells #[.int .i64 x1017000_7, .int .i64 x1017001_7, (.slice none 0 0)] 26 (0, 0))) ∧ Aside0 (wc.heap[gb1022]? = some (.cells #[.int .i64 t1017, .int .i64 t1018, (.slice Ao18 t1019.length co18)] 26 (0, 0))) ∧ Aside0 (Below w.heap.size w wc))
  case first =>
    have H := HC8.out
    clear HC8
    by_cases c21 : t1023 = true
    · subst c21
      have H1 : (spec_RowPut.j0 k a1 a2 a3 a4 a0_0 a0_1 l0_2 t1017 t1018 t1019) = some (r1, r2, r3, r4, r5) := by rw [if_pos rfl] at H; exact H
      clear H
      have H := H1
      clear H1
      have H' := Aside0.mk H
      clear H
      go_wp2
      go_meet
      case rel => exact ⟨_, (0), (0), H', ⟨by first | omega | exact Nat.le_refl _⟩, ⟨by (with_reducible repeat (first | apply Kd.R_alloc | apply Kd.R_drewN | apply Kd.R_drew)); exact HO1021.out⟩, ⟨bq_ BK1015.out⟩, ⟨bq_ BK1016.out⟩, ⟨bq_ BK1022.out⟩, ⟨qd0_⟩⟩
    · replace c21 := Bool.eq_false_iff.mpr c21
      subst c21
      have H1 : (some (t1017, t1018, t1019, 0, false)) = some (r1, r2, r3, r4, r5) := by rw [if_neg (show ¬ (false = true) by decide)] at H; exact H
      clear H
      have H := H1
      clear H1
      simp only [Option.some.injEq, Prod.mk.injEq] at H
      obtain ⟨rfl, rfl, rfl, rfl, rfl⟩ := H
      have hnb22 := NB1022_1015.out
      have hnc22 := NB1015_1022.out
      have hnb23 := NB1022_1016.out
      have hnc23 := NB1016_1022.out
      have hcz24_0 : w20.cell? ⟨gb1022, 0, none⟩ = some (.int .i64 t1017) := bc_ BK1022 0
      have hcz24_1 : w20.cell? ⟨gb1022, 1, none⟩ = some (.int .i64 t1018) := bc_ BK1022 1
      have hcz24_2 : w20.cell? ⟨gb1022, 2, none⟩ = some (.slice Ao18 t1019.length co18) := bc_ BK1022 2
      have hfz24_0 := blk_frozen BK1022.out 0
      have hfz24_1 := blk_frozen BK1022.out 1
      have hfz24_2 := blk_frozen BK1022.out 2
      have hnb25 := NB1016_1015.out
      have hnc25 := NB1015_1016.out
      have hcz26_0 : w20.cell? ⟨gb1016, 0, none⟩ = some (.int .i64 0) := bc_ BK1016 0
      have hcz26_1 : w20.cell? ⟨gb1016, 1, none⟩ = some (.int .i64 0) := bc_ BK1016 1
      have hcz26_2 : w20.cell? ⟨gb1016, 2, none⟩ = some (.slice none 0 0) := bc_ BK1016 2
      have hfz26_0 := blk_frozen BK1016.out 0
      have hfz26_1 := blk_frozen BK1016.out 1
      have hfz26_2 := blk_frozen BK1016.out 2
      go_wp2
      refine bodyPost_ret (results_ctt rfl _ _ gb1016 26 #[.int .i64 t1017, .int .i64 t1018, .slice Ao18 t1019.length co18] (0, 0) _ rfl (bp_ BK1016.out) Try.underlying26 rfl (by kernel_rfl)) rfl ?_
      exact ⟨_, qd7_, by (with_reducible repeat (first | apply Kd.R_alloc | apply Kd.R_drewN | apply Kd.R_drew)); exact Kd.R_mono (Kd.R_far (p := ⟨gb1016, 2, none⟩) (Kd.R_far (p := ⟨gb1016, 1, none⟩) (Kd.R_far (p := ⟨gb1016, 0, none⟩) (Kd.R_types HO1021.out BK1016.out (by decide)) (fun _ hk => hk.2) (.int .i64 t1017)) (fun _ hk => hk.2) (.int .i64 t1018)) (fun _ hk => hk.2) (.slice Ao18 t1019.length co18)) (fun _ hk => trivial), qd0_⟩
  case rest =>
    clear HC8
    try clear c1
    try clear c2
    try clear p2
    try clear c5
    try clear c9
    try clear c11
    try clear c15
    try clear c16
    try clear c21
    try clear c22
    try clear c23
    try clear c25
    try clear hcz12_0
    try clear hcz12_1
    try clear hcz12_2
    try clear hcz17_0
    try clear hcz17_1
    try clear hcz17_2
    try clear hcz19_0
    try clear hcz19_1
    try clear hcz19_2
    try clear hcz24_0
    try clear hcz24_1
    try clear hcz24_2
    try clear hcz26_0
    try clear hcz26_1
    try clear hcz26_2
    try clear hfz12_0
    try clear hfz12_1
    try clear hfz12_2
    try clear hfz17_0
    try clear hfz17_1
    try clear hfz17_2
    try clear hfz19_0
    try clear hfz19_1
    try clear hfz19_2
    try clear hfz24_0
    try clear hfz24_1
    try clear hfz24_2
    try clear hfz26_0
    try clear hfz26_1
    try clear hfz26_2
    obtain ⟨kq, x1017000_7, x1017001_7, HA, HJ7, HO_1023002, BK1015, BK1016, BK1022, HB⟩ := hcut
    cases kq with
    | zero => exact absurd HA.out (by simp [spec_RowPut.j0])
    | succ kj7 =>
      have H := HA.out
      clear HA
      simp only [spec_RowPut.j0] at H
      by_cases c27 : t1019.length < 2513169434916
      · rw [if_pos c27] at H
        have LMc27 := Aside0.mk c27
        clear c27
        obtain ⟨y1024, hy1024⟩ : ∃ y_ : List (S_Item), y_ = (t1019 ++ [(⟨a0_1, a1, a2, a3, a4⟩ : S_Item)]) := ⟨_, rfl⟩
        replace H : ((spec_RowOk.f kj7 t1017 (wrap64 (a0_1 + 1)) y1024).bind fun t1027 => (if t1027 = true then (some (t1017, wrap64 (a0_1 + 1), y1024, a0_1, true)) else ((spec_l3Copy.f a0_0 a0_1 l0_2).bind fun bt1028 => (some (bt1028.1, bt1028.2.1, bt1028.2.2, 0, false))))) = some (r1, r2, r3, r4, r5) := by first | (rw [hy1024]; with_reducible exact H) | (have H2_ := (Option.bind_some _ _).symm.trans H; rw [hy1024]; with_reducible exact H2_) | (have H2_ := (Option.bind_some _ _).symm.trans H; with_reducible exact H2_) | with_reducible exact H | (rw [hy1024]; exact H) | exact H
        have Ny1024 := Aside0.mk hy1024
        clear hy1024
        replace H := Option.bind_eq_some_iff.mp H
        obtain ⟨t1027, A280, H⟩ := H
        replace H : (if t1027 = true then (some (t1017, wrap64 (a0_1 + 1), y1024, a0_1, true)) else ((spec_l3Copy.f a0_0 a0_1 l0_2).bind fun bt1028 => (some (bt1028.1, bt1028.2.1, bt1028.2.2, 0, false)))) = some (r1, r2, r3, r4, r5) := H
        have A28 := Aside0.mk A280
        clear A280
        by_cases c29 : t1027 = true
        · subst c29
          have H1 : (some (t1017, wrap64 (a0_1 + 1), y1024, a0_1, true)) = some (r1, r2, r3, r4, r5) := by rw [if_pos rfl] at H; exact H
          clear H
          have H := H1
          clear H1
          simp only [Option.some.injEq, Prod.mk.injEq] at H
          obtain ⟨rfl, rfl, rfl, rfl, rfl⟩ := H
          have hnb30 := NB1022_1015.out
          have hnc30 := NB1015_1022.out
          have hnb31 := NB1022_1016.out
          have hnc31 := NB1016_1022.out
          have hcz32_0 : wc.cell? ⟨gb1022, 0, none⟩ = some (.int .i64 t1017) := bc_ BK1022 0
          have hcz32_1 : wc.cell? ⟨gb1022, 1, none⟩ = some (.int .i64 t1018) := bc_ BK1022 1
          have hcz32_2 : wc.cell? ⟨gb1022, 2, none⟩ = some (.slice Ao18 t1019.length co18) := bc_ BK1022 2
          have hfz32_0 := blk_frozen BK1022.out 0
          have hfz32_1 := blk_frozen BK1022.out 1
          have hfz32_2 := blk_frozen BK1022.out 2
          have hnb33 := NB1015_1016.out
          have hnc33 := NB1016_1015.out
          have hcz34_0 : wc.cell? ⟨gb1015, 0, none⟩ = some (.int .i64 a0_0) := bc_ BK1015 0
          have hcz34_1 : wc.cell? ⟨gb1015, 1, none⟩ = some (.int .i64 a0_1) := bc_ BK1015 1
          have hcz34_2 : wc.cell? ⟨gb1015, 2, none⟩ = some (.slice A0_2 l0_2.length c0_2) := bc_ BK1015 2
          have hfz34_0 := blk_frozen BK1015.out 0
          have hfz34_1 := blk_frozen BK1015.out 1
          have hfz34_2 := blk_frozen BK1015.out 2
          try go_wp2_with (first | ((with_reducible refine gate_builtin (b := .append) (xs := #[.tmp 21, .tmp 29]) rfl ?_); at_builtin; refine Kd.R_append k_Item (w0 := w) w.heap.size rfl (.tmp 21) (.tmp 29) 24 33 (.agg #[(.int .i64 0), (.string ⟨#[]⟩), (.string ⟨#[]⟩), (.int .i64 0), (.int .i64 0)]) 56 rfl Try.underlying24 info33 rfl (by decide) (by omega) (.slice Ao18 t1019.length co18) t1019 (⟨a0_1, a1, a2, a3, a4⟩ : S_Item) [.int .i64 a0_1, .string a1, .string a2, .int .i64 a3, .int .i64 a4] (fun _ => True) (fun _ => False) rfl rfl ?aP (fun _ hk => hk.elim) ?aF ?aO ?aB ?aS ?aL ?_; (case aP => exact k_Item_mkM _ _ _ (⟨a0_1, a1, a2, a3, a4⟩ : S_Item)); (case aB => exact (qd0_)); (case aF => exact (fun _ _ => trivial)); (case aO => exact (by (with_reducible repeat (first | apply Kd.R_alloc | apply Kd.R_drewN | apply Kd.R_drew)); exact HO_1023002.out)); (case aS => exact (below_size (qd0_))); (case aL => have := LMc27.out; omega); intro v1025 w35 ho hb hg hat; rw [← Ny1024.out] at ho; have HO1026 := Aside0.mk (ho); replace BK1015 := Aside0.mk (blk_grown (g := gb1015) (o := .cells #[.int .i64 a0_0, .int .i64 a0_1, .slice A0_2 l0_2.length c0_2] 26 (0, 0)) (bq_ BK1015.out) hg (Kd.R_ne HO_1023002.out BK1015.out (by decide))); replace BK1016 := Aside0.mk (blk_grown (g := gb1016) (o := .cells #[.int .i64 x1017000_7, .int .i64 x1017001_7, .slice none 0 0] 26 (0, 0)) (bq_ BK1016.out) hg (Kd.R_ne HO_1023002.out BK1016.out (by decide))); replace BK1022 := Aside0.mk (blk_grown (g := gb1022) (o := .cells #[.int .i64 t1017, .int .i64 t1018, .slice Ao18 t1019.length co18] 26 (0, 0)) (bq_ BK1022.out) hg (Kd.R_ne HO_1023002.out BK1022.out (by decide))); replace HB := Aside0.mk (hb); clear HO_1023002; clear ho hb hg hat; obtain ⟨Ao36, co36, eo36⟩ := Kd.R_slice HO1026.out; subst eo36; have hcz37_0 : w35.cell? ⟨gb1022, 0, none⟩ = some (.int .i64 t1017) := bc_ BK1022 0; have hcz37_1 : w35.cell? ⟨gb1022, 1, none⟩ = some (.int .i64 t1018) := bc_ BK1022 1; have hcz37_2 : w35.cell? ⟨gb1022, 2, none⟩ = some (.slice Ao18 t1019.length co18) := bc_ BK1022 2; have hfz37_0 := blk_frozen BK1022.out 0; have hfz37_1 := blk_frozen BK1022.out 1; have hfz37_2 := blk_frozen BK1022.out 2; have hcz38_0 : w35.cell? ⟨gb1015, 0, none⟩ = some (.int .i64 a0_0) := bc_ BK1015 0; have hcz38_1 : w35.cell? ⟨gb1015, 1, none⟩ = some (.int .i64 a0_1) := bc_ BK1015 1; have hcz38_2 : w35.cell? ⟨gb1015, 2, none⟩ = some (.slice A0_2 l0_2.length c0_2) := bc_ BK1015 2; have hfz38_0 := blk_frozen BK1015.out 0; have hfz38_1 := blk_frozen BK1015.out 1; have hfz38_2 := blk_frozen BK1015.out 2) | ((with_reducible refine gate_callee (f := 57) rfl ?_); refine goesL_ (some 37) rfl rfl Try.func57 (by kernel_rfl) rfl #[.agg #[.int .i64 t1017, .int .i64 (wrap64 (a0_1 + 1)), .slice Ao36 y1024.length co36]] rfl (qd2_) ?_; (with_reducible refine (spec_RowOk.calls kj7 t1017 (wrap64 (a0_1 + 1)) _ _ y1024 true _ ?side1 ?side2 A28.out).mono ?_); (case side1 => refine (Kd.R_reads' (e := 33) (base := w.heap.size) (ok := fun k_ => True) (n := y1024.length) (c := co36) ?_).2.2; exact (qd13_)); (case side2 => exact (Kd.R_reads' HO1026.out).2.1); rintro e w39 ⟨rfl, hb⟩; refine ⟨_, rfl, ?_⟩; replace HO1026 := Aside0.mk (Kd.R_below (qd13_) hb); replace BK1015 := Aside0.mk (blk_below (g := gb1015) (o := .cells #[.int .i64 a0_0, .int .i64 a0_1, .slice A0_2 l0_2.length c0_2] 26 (0, 0)) (bf_ NB1015_1022.out BK1015.out) hb); replace BK1016 := Aside0.mk (blk_below (g := gb1016) (o := .cells #[.int .i64 x1017000_7, .int .i64 x1017001_7, .slice none 0 0] 26 (0, 0)) (bf_ NB1016_1022.out BK1016.out) hb); replace BK1022 := Aside0.mk (blk_below (g := gb1022) (o := .cells #[.int .i64 t1017, .int .i64 (wrap64 (a0_1 + 1)), .slice Ao36 y1024.length co36] 26 (0, 0)) (bp_ BK1022.out) hb); replace HB := Aside0.mk (below_step (qd0_) hb); (try clear hb); (try clear hb2); (try clear hk); (try clear hi)))
          replace HO1026 := Aside0.mk (Kd.R_drew HO1026.out)
          replace BK1015 := Aside0.mk (blk_drew BK1015.out)
          replace BK1016 := Aside0.mk (blk_drew BK1016.out)
          replace BK1022 := Aside0.mk (blk_drew BK1022.out)
          replace HB := Aside0.mk (below_drew1 HB.out)
          refine start_ (n := 6) (S := fun w' => w'.cell? ⟨gb1022, 0, none⟩ = some (.int .i64 t1017) ∧ w'.cell? ⟨gb1022, 1, none⟩ = some (.int .i64 (wrap64 (a0_1 + 1))) ∧ w'.cell? ⟨gb1022, 2, none⟩ = some (.slice Ao36 y1024.length co36) ∧ w'.cell? ⟨gb1015, 0, none⟩ = some (.int .i64 a0_0) ∧ w'.cell? ⟨gb1015, 1, none⟩ = some (.int .i64 a0_1) ∧ w'.cell? ⟨gb1015, 2, none⟩ = some (.slice A0_2 l0_2.length c0_2)) (ds := []) #[false, false, false, false, false, false] (by kernel_rfl) rfl rfl ⟨bc_ BK1022 0, bc_ BK1022 1, bc_ BK1022 2, bc_ BK1015 0, bc_ BK1015 1, bc_ BK1015 2⟩ (fun hHeld => ?_)
          generalize w39.drew = w40 at HO1026 BK1015 BK1016 BK1022 HB hHeld ⊢
          refine pure_ (i := 1) (N := some 42) (v := ?_) (a' := ?_) #[false, true, false, false, false, false] rfl rfl (by kernel_rfl) (fun _ _ _ h => h) (Or.inl ⟨by rfl, ?_⟩) ?_ ?_
          rotate_left
          · intro w'
            go_simp
            with_reducible rfl
          rotate_left
          · simp only [Act.put, List.setIfInBounds_toArray, List.set_cons_zero, List.set_cons_succ, i64_w, i32_w]
            rfl
          refine take_ (i := 0) (N := some 41) (v := ?_) (a' := ?_) #[true, true, false, false, false, false] rfl rfl (by kernel_rfl) (fun _ _ _ h => h) (Or.inl ⟨by rfl, ?_⟩) hHeld ?_ ?_
          rotate_left
          · rintro w' ⟨s0, s1, s2, s3, s4, s5⟩
            go_simp
            with_reducible rfl
          rotate_left
          · simp only [Act.put, List.setIfInBounds_toArray, List.set_cons_zero, List.set_cons_succ, i64_w, i32_w]
            rfl
          refine take_ (i := 2) (N := some 43) (v := ?_) (a' := ?_) #[true, true, true, false, false, false] rfl rfl (by kernel_rfl) (fun _ _ _ h => h) (Or.inl ⟨by rfl, ?_⟩) hHeld ?_ ?_
          rotate_left
          · rintro w' ⟨s0, s1, s2, s3, s4, s5⟩
            go_simp
            with_reducible rfl
          rotate_left
          · simp only [Act.put, List.setIfInBounds_toArray, List.set_cons_zero, List.set_cons_succ, i64_w, i32_w]
            rfl
          refine one_ (i := 3) (N := none) #[true, true, true, true, false, false] rfl rfl (by kernel_rfl) (by decide) (fun K hK => ?_)
          have hs41 : w40.cell? ⟨gb1016, 0, none⟩ = some (.int .i64 x1017000_7) := bc_ BK1016 0
          have hfs41 := blk_frozen BK1016.out 0
          have hns41_0 := NB1015_1016.out
          have hns41_2 := NB1022_1016.out
          have hms41_0 := NB1016_1015.out
          have hms41_2 := NB1016_1022.out
          have hs42 : w40.cell? ⟨gb1016, 1, none⟩ = some (.int .i64 x1017001_7) := bc_ BK1016 1
          have hfs42 := blk_frozen BK1016.out 1
          have hns42_0 := NB1015_1016.out
          have hns42_2 := NB1022_1016.out
          have hms42_0 := NB1016_1015.out
          have hms42_2 := NB1016_1022.out
          have hs43 : w40.cell? ⟨gb1016, 2, none⟩ = some (.slice none 0 0) := bc_ BK1016 2
          have hfs43 := blk_frozen BK1016.out 2
          have hns43_0 := NB1015_1016.out
          have hns43_2 := NB1022_1016.out
          have hms43_0 := NB1016_1015.out
          have hms43_2 := NB1016_1022.out
          refine skip_ (w1 := ?_) (by rfl) rfl ?_ ?_
          rotate_left
          · go_simp
            rfl
          refine hK.out _ _ ⟨(cfs_ NB1022_1016.out (hHeld.1)), (cfs_ NB1022_1016.out (hHeld.2.1)), (cfs_ NB1022_1016.out (hHeld.2.2.1)), (cfs_ NB1015_1016.out (hHeld.2.2.2.1)), (cfs_ NB1015_1016.out (hHeld.2.2.2.2.1)), (cfs_ NB1015_1016.out (hHeld.2.2.2.2.2))⟩ (fun hHeld => ?_)
          clear hK K
          refine pure_ (i := 4) (N := some 11) (v := ?_) (a' := ?_) #[true, true, true, true, true, false] rfl rfl (by kernel_rfl) (fun _ _ _ h => h) (Or.inl ⟨by rfl, ?_⟩) ?_ ?_
          rotate_left
          · intro w'
            go_simp
            with_reducible rfl
          rotate_left
          · simp only [Act.put, List.setIfInBounds_toArray, List.set_cons_zero, List.set_cons_succ, i64_w, i32_w]
            rfl
          refine pure_ (i := 5) (N := some 12) (v := ?_) (a' := ?_) #[true, true, true, true, true, true] rfl rfl (by kernel_rfl) (fun _ _ _ h => h) (Or.inl ⟨by rfl, ?_⟩) ?_ ?_
          rotate_left
          · intro w'
            go_simp
            with_reducible rfl
          rotate_left
          · simp only [Act.put, List.setIfInBounds_toArray, List.set_cons_zero, List.set_cons_succ, i64_w, i32_w]
            rfl
          refine done_ (by kernel_rfl) ?_
          try go_wp2
          refine bodyPost_ret (results_ctt rfl _ _ gb1016 26 #[.int .i64 t1017, .int .i64 (wrap64 (a0_1 + 1)), .slice Ao36 y1024.length co36] (0, 0) _ rfl (bp_ BK1016.out) Try.underlying26 rfl (by kernel_rfl)) rfl ?_
          exact ⟨_, qd7_, by (with_reducible repeat (first | apply Kd.R_alloc | apply Kd.R_drewN | apply Kd.R_drew)); exact Kd.R_mono (Kd.R_far (p := ⟨gb1016, 2, none⟩) (Kd.R_far (p := ⟨gb1016, 1, none⟩) (Kd.R_far (p := ⟨gb1016, 0, none⟩) (Kd.R_types HO1026.out BK1016.out (by decide)) (fun _ hk => hk.2) (.int .i64 t1017)) (fun _ hk => hk.2) (.int .i64 (wrap64 (a0_1 + 1)))) (fun _ hk => hk.2) (.slice Ao36 y1024.length co36)) (fun _ hk => trivial), qd0_⟩
        · replace c29 := Bool.eq_false_iff.mpr c29
          subst c29
          have H1 : ((spec_l3Copy.f a0_0 a0_1 l0_2).bind fun bt1028 => (some (bt1028.1, bt1028.2.1, bt1028.2.2, 0, false))) = some (r1, r2, r3, r4, r5) := by rw [if_neg (show ¬ (false = true) by decide)] at H; exact H
          clear H
          have H := H1
          clear H1
          replace H := Option.bind_eq_some_iff.mp H
          obtain ⟨⟨t1028, t1029, t1030⟩, A440, H⟩ := H
          replace H : (some (t1028, t1029, t1030, 0, false)) = some (r1, r2, r3, r4, r5) := H
          have A44 := Aside0.mk A440
          clear A440
          simp only [Option.some.injEq, Prod.mk.injEq] at H
          obtain ⟨rfl, rfl, rfl, rfl, rfl⟩ := H
          have hnb45 := NB1022_1015.out
          have hnc45 := NB1015_1022.out
          have hnb46 := NB1022_1016.out
          have hnc46 := NB1016_1022.out
          have hcz47_0 : wc.cell? ⟨gb1022, 0, none⟩ = some (.int .i64 t1017) := bc_ BK1022 0
          have hcz47_1 : wc.cell? ⟨gb1022, 1, none⟩ = some (.int .i64 t1018) := bc_ BK1022 1
          have hcz47_2 : wc.cell? ⟨gb1022, 2, none⟩ = some (.slice Ao18 t1019.length co18) := bc_ BK1022 2
          have hfz47_0 := blk_frozen BK1022.out 0
          have hfz47_1 := blk_frozen BK1022.out 1
          have hfz47_2 := blk_frozen BK1022.out 2
          have hnb48 := NB1015_1016.out
          have hnc48 := NB1016_1015.out
          have hcz49_0 : wc.cell? ⟨gb1015, 0, none⟩ = some (.int .i64 a0_0) := bc_ BK1015 0
          have hcz49_1 : wc.cell? ⟨gb1015, 1, none⟩ = some (.int .i64 a0_1) := bc_ BK1015 1
          have hcz49_2 : wc.cell? ⟨gb1015, 2, none⟩ = some (.slice A0_2 l0_2.length c0_2) := bc_ BK1015 2
          have hfz49_0 := blk_frozen BK1015.out 0
          have hfz49_1 := blk_frozen BK1015.out 1
          have hfz49_2 := blk_frozen BK1015.out 2
          go_wp2_with (first | ((with_reducible refine gate_builtin (b := .append) (xs := #[.tmp 21, .tmp 29]) rfl ?_); at_builtin; refine Kd.R_append k_Item (w0 := w) w.heap.size rfl (.tmp 21) (.tmp 29) 24 33 (.agg #[(.int .i64 0), (.string ⟨#[]⟩), (.string ⟨#[]⟩), (.int .i64 0), (.int .i64 0)]) 56 rfl Try.underlying24 info33 rfl (by decide) (by omega) (.slice Ao18 t1019.length co18) t1019 (⟨a0_1, a1, a2, a3, a4⟩ : S_Item) [.int .i64 a0_1, .string a1, .string a2, .int .i64 a3, .int .i64 a4] (fun _ => True) (fun _ => False) rfl rfl ?aP (fun _ hk => hk.elim) ?aF ?aO ?aB ?aS ?aL ?_; (case aP => exact k_Item_mkM _ _ _ (⟨a0_1, a1, a2, a3, a4⟩ : S_Item)); (case aB => exact (qd0_)); (case aF => exact (fun _ _ => trivial)); (case aO => exact (by (with_reducible repeat (first | apply Kd.R_alloc | apply Kd.R_drewN | apply Kd.R_drew)); exact HO_1023002.out)); (case aS => exact (below_size (qd0_))); (case aL => have := LMc27.out; omega); intro v1025 w50 ho hb hg hat; rw [← Ny1024.out] at ho; have HO1026 := Aside0.mk (ho); replace BK1015 := Aside0.mk (blk_grown (g := gb1015) (o := .cells #[.int .i64 a0_0, .int .i64 a0_1, .slice A0_2 l0_2.length c0_2] 26 (0, 0)) (bq_ BK1015.out) hg (Kd.R_ne HO_1023002.out BK1015.out (by decide))); replace BK1016 := Aside0.mk (blk_grown (g := gb1016) (o := .cells #[.int .i64 x1017000_7, .int .i64 x1017001_7, .slice none 0 0] 26 (0, 0)) (bq_ BK1016.out) hg (Kd.R_ne HO_1023002.out BK1016.out (by decide))); replace BK1022 := Aside0.mk (blk_grown (g := gb1022) (o := .cells #[.int .i64 t1017, .int .i64 t1018, .slice Ao18 t1019.length co18] 26 (0, 0)) (bq_ BK1022.out) hg (Kd.R_ne HO_1023002.out BK1022.out (by decide))); replace HB := Aside0.mk (hb); clear HO_1023002; clear ho hb hg hat; obtain ⟨Ao51, co51, eo51⟩ := Kd.R_slice HO1026.out; subst eo51; have hcz52_0 : w50.cell? ⟨gb1022, 0, none⟩ = some (.int .i64 t1017) := bc_ BK1022 0; have hcz52_1 : w50.cell? ⟨gb1022, 1, none⟩ = some (.int .i64 t1018) := bc_ BK1022 1; have hcz52_2 : w50.cell? ⟨gb1022, 2, none⟩ = some (.slice Ao18 t1019.length co18) := bc_ BK1022 2; have hfz52_0 := blk_frozen BK1022.out 0; have hfz52_1 := blk_frozen BK1022.out 1; have hfz52_2 := blk_frozen BK1022.out 2; have hcz53_0 : w50.cell? ⟨gb1015, 0, none⟩ = some (.int .i64 a0_0) := bc_ BK1015 0; have hcz53_1 : w50.cell? ⟨gb1015, 1, none⟩ = some (.int .i64 a0_1) := bc_ BK1015 1; have hcz53_2 : w50.cell? ⟨gb1015, 2, none⟩ = some (.slice A0_2 l0_2.length c0_2) := bc_ BK1015 2; have hfz53_0 := blk_frozen BK1015.out 0; have hfz53_1 := blk_frozen BK1015.out 1; have hfz53_2 := blk_frozen BK1015.out 2) | ((with_reducible refine gate_callee (f := 57) rfl ?_); refine goesL_ (some 37) rfl rfl Try.func57 (by kernel_rfl) rfl #[.agg #[.int .i64 t1017, .int .i64 (wrap64 (a0_1 + 1)), .slice Ao51 y1024.length co51]] rfl (qd2_) ?_; (with_reducible refine (spec_RowOk.calls kj7 t1017 (wrap64 (a0_1 + 1)) _ _ y1024 false _ ?side1 ?side2 A28.out).mono ?_); (case side1 => refine (Kd.R_reads' (e := 33) (base := w.heap.size) (ok := fun k_ => True) (n := y1024.length) (c := co51) ?_).2.2; exact (qd12_)); (case side2 => exact (Kd.R_reads' HO1026.out).2.1); rintro e w54 ⟨rfl, hb⟩; refine ⟨_, rfl, ?_⟩; replace HO1026 := Aside0.mk (Kd.R_below (qd12_) hb); replace BK1015 := Aside0.mk (blk_below (g := gb1015) (o := .cells #[.int .i64 a0_0, .int .i64 a0_1, .slice A0_2 l0_2.length c0_2] 26 (0, 0)) (bf_ NB1015_1022.out BK1015.out) hb); replace BK1016 := Aside0.mk (blk_below (g := gb1016) (o := .cells #[.int .i64 x1017000_7, .int .i64 x1017001_7, .slice none 0 0] 26 (0, 0)) (bf_ NB1016_1022.out BK1016.out) hb); replace BK1022 := Aside0.mk (blk_below (g := gb1022) (o := .cells #[.int .i64 t1017, .int .i64 (wrap64 (a0_1 + 1)), .slice Ao51 y1024.length co51] 26 (0, 0)) (bp_ BK1022.out) hb); replace HB := Aside0.mk (below_step (qd0_) hb); (try clear hb); (try clear hb2); (try clear hk); (try clear hi); have hcz55_0 : w54.cell? ⟨gb1015, 0, none⟩ = some (.int .i64 a0_0) := bc_ BK1015 0; have hcz55_1 : w54.cell? ⟨gb1015, 1, none⟩ = some (.int .i64 a0_1) := bc_ BK1015 1; have hcz55_2 : w54.cell? ⟨gb1015, 2, none⟩ = some (.slice A0_2 l0_2.length c0_2) := bc_ BK1015 2; have hfz55_0 := blk_frozen BK1015.out 0; have hfz55_1 := blk_frozen BK1015.out 1; have hfz55_2 := blk_frozen BK1015.out 2) | ((with_reducible refine gate_callee (f := 56) rfl ?_); refine goesL_ (some 40) rfl rfl Try.func56 (by kernel_rfl) rfl #[.agg #[.int .i64 a0_0, .int .i64 a0_1, .slice A0_2 l0_2.length c0_2]] rfl (qd2_) ?_; (with_reducible refine (spec_l3Copy.calls a0_0 a0_1 _ _ l0_2 t1028 t1029 t1030 _ ?side1 ?side2 A44.out).mono ?_); (case side1 => repeat (first | exact (Kd.C_below HR0_2.out HB.out) | (with_reducible refine Kd.C_alloc ?_ _) | (with_reducible refine Kd.C_drewN ?_ _) | (with_reducible refine Kd.C_drew ?_))); (case side2 => exact HC0_2.out); rintro e w56 ⟨v1031, rfl, ho0, hb⟩; refine ⟨_, rfl, ?_⟩; have HO1032 := Aside0.mk (Kd.R_lower (Kd.R_new' ho0 (Kd.R_lt (by (with_reducible repeat (first | apply Kd.R_alloc | apply Kd.R_drewN | apply Kd.R_drew)); exact HO1026.out))) (below_size (qd0_))); replace HO1026 := Aside0.mk (Kd.R_elder' (by (with_reducible repeat (first | apply Kd.R_alloc | apply Kd.R_drewN | apply Kd.R_drew)); exact HO1026.out) (Kd.R_base ho0) hb); replace BK1015 := Aside0.mk (blk_below (g := gb1015) (o := .cells #[.int .i64 a0_0, .int .i64 a0_1, .slice A0_2 l0_2.length c0_2] 26 (0, 0)) (bq_ BK1015.out) hb); replace BK1016 := Aside0.mk (blk_below (g := gb1016) (o := .cells #[.int .i64 x1017000_7, .int .i64 x1017001_7, .slice none 0 0] 26 (0, 0)) (bq_ BK1016.out) hb); replace BK1022 := Aside0.mk (blk_below (g := gb1022) (o := .cells #[.int .i64 t1017, .int .i64 (wrap64 (a0_1 + 1)), .slice Ao51 y1024.length co51] 26 (0, 0)) (bq_ BK1022.out) hb); replace HB := Aside0.mk (below_step (qd0_) hb); (try clear hb); (try clear hb2); (try clear hk); (try clear hi); (try clear ho0); have hcz57_0 : w56.cell? ⟨gb1016, 0, none⟩ = some (.int .i64 x1017000_7) := bc_ BK1016 0; have hcz57_1 : w56.cell? ⟨gb1016, 1, none⟩ = some (.int .i64 x1017001_7) := bc_ BK1016 1; have hcz57_2 : w56.cell? ⟨gb1016, 2, none⟩ = some (.slice none 0 0) := bc_ BK1016 2; have hfz57_0 := blk_frozen BK1016.out 0; have hfz57_1 := blk_frozen BK1016.out 1; have hfz57_2 := blk_frozen BK1016.out 2; obtain ⟨Ao58, co58, eo58⟩ := Kd.R_slice HO1032.out; subst eo58))
          refine bodyPost_ret (results_ctt rfl _ _ gb1016 26 #[.int .i64 t1028, .int .i64 t1029, .slice Ao58 t1030.length co58] (0, 0) _ rfl (bp_ BK1016.out) Try.underlying26 rfl (by kernel_rfl)) rfl ?_
          exact ⟨_, qd7_, by (with_reducible repeat (first | apply Kd.R_alloc | apply Kd.R_drewN | apply Kd.R_drew)); exact Kd.R_mono (Kd.R_far (p := ⟨gb1016, 2, none⟩) (Kd.R_far (p := ⟨gb1016, 1, none⟩) (Kd.R_far (p := ⟨gb1016, 0, none⟩) (Kd.R_types HO1032.out BK1016.out (by decide)) (fun _ hk => hk.2) (.int .i64 t1028)) (fun _ hk => hk.2) (.int .i64 t1029)) (fun _ hk => hk.2) (.slice Ao58 t1030.length co58)) (fun _ hk => trivial), qd0_⟩
      · rw [if_neg c27] at H
        exact absurd H (by simp)
/-! ### spec_l1Pick: function 97 -/
def spec_l1Pick.f (s0_0 : List Int) (s0_1 : Int) (s0_2 : Int) (l1 : List ByteArray) : Option (ByteArray × Int × Int) := (spec_l1Below.f s0_0 s0_1 s0_2 (l1.length : Int)).bind fun bt1033 => (if 0 ≤ bt1033.1 then (if bt1033.1 < (l1.length : Int) then (some (rdOf ByteArray.empty l1 bt1033.1, bt1033.2.1, bt1033.2.2)) else (none)) else (none))
set_option maxHeartbeats 8000000 in
set_option maxRecDepth 100000 in
theorem spec_l1Pick.calls (g : Nat) (s0_0 : List Int) (s0_1 : Int) (s0_2 : Int) (A1 : Option Addr) (c1 : Nat) (l1 : List ByteArray) (r1 : ByteArray) (r2 : Int) (r3 : Int) (w0 w : World) (hI : IsS_l1Cur w0 w g s0_0 s0_1 s0_2) (hB : Below w0.heap.size w0 w) (hr1 : Kd.C Kd.string w A1 l1.length l1) (hc1 : l1.length ≤ c1) (hf1 : ∀ ad, A1 = some ad → 0 < l1.length → ad.block ≠ g) (h : spec_l1Pick.f s0_0 s0_1 s0_2 l1 = some (r1, r2, r3)) :
    Calls Try.prog 97 #[.pointer (some ⟨g, 0, none⟩), .slice A1 l1.length c1] w fun e w' => e = .returned (.string r1) ∧ IsS_l1Cur w0 w' g s0_0 r2 r3 ∧ Below w0.heap.size w0 w' ∧ KeepBut w w' g none := by
  have HR1 := Aside0.mk hr1
  have HC1 := Aside0.mk hc1
  clear hr1 hc1
  have HI0 := Aside0.mk hI
  have HK := Aside0.mk (KeepBut.refl w g none)
  have HL := Aside0.mk hB.size
  clear hI
  have HW0 := Aside0.mk hB.size
  have HB := Aside0.mk hB
  clear hB
  have H : ((spec_l1Below.f s0_0 s0_1 s0_2 (l1.length : Int)).bind fun bt1033 => (if 0 ≤ bt1033.1 then (if bt1033.1 < (l1.length : Int) then (some (rdOf ByteArray.empty l1 bt1033.1, bt1033.2.1, bt1033.2.2)) else (none)) else (none))) = some (r1, r2, r3) := h
  clear h
  replace H := Option.bind_eq_some_iff.mp H
  obtain ⟨⟨t1033, t1034, t1035⟩, A30, H⟩ := H
  replace H : (if 0 ≤ t1033 then (if t1033 < (l1.length : Int) then (some (rdOf ByteArray.empty l1 t1033, t1034, t1035)) else (none)) else (none)) = some (r1, r2, r3) := H
  have A3 := Aside0.mk A30
  clear A30
  by_cases c4 : 0 ≤ t1033
  · rw [if_pos c4] at H
    have c4b0 : decide (0 ≤ t1033) = true := decide_eq_true c4
    clear c4
    by_cases c5 : t1033 < (l1.length : Int)
    · rw [if_pos c5] at H
      have c5b0 : decide (t1033 < (l1.length : Int)) = true := decide_eq_true c5
      clear c5
      simp only [Option.some.injEq, Prod.mk.injEq] at H
      obtain ⟨rfl, rfl, rfl⟩ := H
      go_enter Try.func97, Try.ntmps97
      go_wp2_with (first | ((with_reducible refine gate_callee (f := 76) rfl ?_); refine goesL_ (some 9) rfl rfl Try.func76 (by kernel_rfl) rfl #[.pointer (some ⟨g, 0, none⟩), .int .i64 (l1.length : Int)] rfl (qd2_) ?_; (with_reducible refine (spec_l1Below.calls g s0_0 s0_1 s0_2 (l1.length : Int) t1033 t1034 t1035 w0 _ ?side1 ?side2 A3.out).mono ?_); (case side1 => repeat (first | (with_reducible first | exact HI0.out | apply IsS_l1Cur.alloc | apply IsS_l1Cur.drewN | apply IsS_l1Cur.drew | apply IsS_l1Cur.set_1 | apply IsS_l1Cur.set_2) | exact HI0.out)); (case side2 => repeat (first | (with_reducible first | exact HB.out | apply below_alloc | apply pw_below_drewN | apply below_drew1 | refine below_set ?_ (IsS_l1Cur.ge HI0.out)) | exact HB.out)); rintro e w6 ⟨rfl, hi, hb, hk⟩; refine ⟨_, rfl, ?_⟩; replace HK := Aside0.mk (KeepBut.trans (qd1_) hk (.inl rfl)); replace HB := Aside0.mk (hb); replace HI0 := Aside0.mk (hi); (try clear hb); (try clear hb2); (try clear hk); (try clear hi); have p1036 : 0 ≤ (t1033 : Int) := of_decide_eq_true dt_; have q1036 : t1033 < (l1.length : Int) := of_decide_eq_true dt_; obtain ⟨ad1036, e1036, hx1036_0⟩ := Kd.at_string HR1.out t1033 p1036 q1036; cases e1036; replace hx1036_0 := keep_cell HK.out hx1036_0 (by first | (rw [add_block]; exact hf1 _ rfl (by omega)) | exact hf1 _ rfl (by omega) | exact hf1 ad1036 rfl (by omega)); replace p1036 := eq_true p1036; replace q1036 := eq_true q1036))
      go_ret
      exact ⟨qd7_, qd3_, qd4_, qd1_⟩
    · rw [if_neg c5] at H
      exact absurd H (by simp)
  · rw [if_neg c4] at H
    exact absurd H (by simp)

/-! ### spec_l2DrawText: function 111 -/
def spec_l2DrawText.f (s0_0 : List Int) (s0_1 : Int) (s0_2 : Int) : Option (ByteArray × Int × Int) := (spec_l1Pick.f s0_0 s0_1 s0_2 (([(⟨#[]⟩ : ByteArray), (⟨#[97]⟩ : ByteArray), (⟨#[98]⟩ : ByteArray), (⟨#[107, 32, 49]⟩ : ByteArray), (⟨#[116, 101, 120, 116]⟩ : ByteArray)] : List ByteArray))).bind fun bt1040 => (some (bt1040.1, bt1040.2.1, bt1040.2.2))
set_option maxHeartbeats 8000000 in
set_option maxRecDepth 100000 in
theorem spec_l2DrawText.calls (g : Nat) (s0_0 : List Int) (s0_1 : Int) (s0_2 : Int) (r1 : ByteArray) (r2 : Int) (r3 : Int) (w0 w : World) (hI : IsS_l1Cur w0 w g s0_0 s0_1 s0_2) (hB : Below w0.heap.size w0 w) (h : spec_l2DrawText.f s0_0 s0_1 s0_2 = some (r1, r2, r3)) :
    Calls Try.prog 111 #[.pointer (some ⟨g, 0, none⟩)] w fun e w' => e = .returned (.string r1) ∧ IsS_l1Cur w0 w' g s0_0 r2 r3 ∧ Below w0.heap.size w0 w' ∧ KeepBut w w' g none := by
  have HI0 := Aside0.mk hI
  have HK := Aside0.mk (KeepBut.refl w g none)
  have HL := Aside0.mk hB.size
  clear hI
  have HW0 := Aside0.mk hB.size
  have HB := Aside0.mk hB
  clear hB
  have H : ((spec_l1Pick.f s0_0 s0_1 s0_2 (([(⟨#[]⟩ : ByteArray), (⟨#[97]⟩ : ByteArray), (⟨#[98]⟩ : ByteArray), (⟨#[107, 32, 49]⟩ : ByteArray), (⟨#[116, 101, 120, 116]⟩ : ByteArray)] : List ByteArray))).bind fun bt1040 => (some (bt1040.1, bt1040.2.1, bt1040.2.2))) = some (r1, r2, r3) := h
  clear h
  obtain ⟨y1037, hy1037⟩ : ∃ y_ : List ByteArray, y_ = (([(⟨#[]⟩ : ByteArray), (⟨#[97]⟩ : ByteArray), (⟨#[98]⟩ : ByteArray), (⟨#[107, 32, 49]⟩ : ByteArray), (⟨#[116, 101, 120, 116]⟩ : ByteArray)] : List ByteArray)) := ⟨_, rfl⟩
  replace H : ((spec_l1Pick.f s0_0 s0_1 s0_2 y1037).bind fun bt1040 => (some (bt1040.1, bt1040.2.1, bt1040.2.2))) = some (r1, r2, r3) := by first | (rw [hy1037]; with_reducible exact H) | (have H2_ := (Option.bind_some _ _).symm.trans H; rw [hy1037]; with_reducible exact H2_) | (have H2_ := (Option.bind_some _ _).symm.trans H; with_reducible exact H2_) | with_reducible exact H | (rw [hy1037]; exact H) | exact H
  have Ny1037 := Aside0.mk hy1037
  clear hy1037
  replace H := Option.bind_eq_some_iff.mp H
  obtain ⟨⟨t1040, t1041, t1042⟩, A20, H⟩ := H
  replace H : (some (t1040, t1041, t1042)) = some (r1, r2, r3) := H
  have A2 := Aside0.mk A20
  clear A20
  simp only [Option.some.injEq, Prod.mk.injEq] at H
  obtain ⟨rfl, rfl, rfl⟩ := H
  go_enter Try.func111, Try.ntmps111
  go_wp2_with (first | ((with_reducible refine gate_dst (N := 4) rfl ?_); refine Kd.R_lit Kd.string _ 9 ?hg (N := 4) ?hd (xs := ([(⟨#[]⟩ : ByteArray), (⟨#[97]⟩ : ByteArray), (⟨#[98]⟩ : ByteArray), (⟨#[107, 32, 49]⟩ : ByteArray), (⟨#[116, 101, 120, 116]⟩ : ByteArray)] : List ByteArray)) (inner := [.string (⟨#[]⟩ : ByteArray), .string (⟨#[97]⟩ : ByteArray), .string (⟨#[98]⟩ : ByteArray), .string (⟨#[107, 32, 49]⟩ : ByteArray), .string (⟨#[116, 101, 120, 116]⟩ : ByteArray)]) (ok := fun _ => True) (okp := fun _ => True) ?hr ?hp (fun _ hk => hk) trivial (Below.refl _ _) (Nat.le_refl _) (by simp) ?_; (case hd => rfl); (case hg => rfl); (case hr => first | (go_simp; done) | (go_simp; rfl)); (case hp => exact (Reps.one (show Kd.M Kd.string _ _ _ (⟨#[]⟩ : ByteArray) [.string (⟨#[]⟩ : ByteArray)] from rfl) (Reps.one (show Kd.M Kd.string _ _ _ (⟨#[97]⟩ : ByteArray) [.string (⟨#[97]⟩ : ByteArray)] from rfl) (Reps.one (show Kd.M Kd.string _ _ _ (⟨#[98]⟩ : ByteArray) [.string (⟨#[98]⟩ : ByteArray)] from rfl) (Reps.one (show Kd.M Kd.string _ _ _ (⟨#[107, 32, 49]⟩ : ByteArray) [.string (⟨#[107, 32, 49]⟩ : ByteArray)] from rfl) (Reps.one (show Kd.M Kd.string _ _ _ (⟨#[116, 101, 120, 116]⟩ : ByteArray) [.string (⟨#[116, 101, 120, 116]⟩ : ByteArray)] from rfl) (Reps.none _ _))))))); intro v1038 w3 ho4 hb hg_ hnew_; clear hg_ hnew_; (first | rw [← Ny1037.out] at ho4 | (simp only [Int.reduceToNat] at ho4; rw [← Ny1037.out] at ho4)); have HO1039 := Aside0.mk (Kd.R_lower ho4 (keep_size (w := w) (g := g) (row := none) (qd1_))); replace HK := Aside0.mk (KeepBut.trans (qd1_) (KeepBut.of_below hb g none) (.inl rfl)); replace HB := Aside0.mk (below_step (qd4_) hb); replace HI0 := Aside0.mk (IsS_l1Cur.below (qd3_) hb); clear hb ho4; obtain ⟨Ao5, co5, eo5⟩ := Kd.R_slice HO1039.out; subst eo5) | ((with_reducible refine gate_callee (f := 97) rfl ?_); refine goesL_ (some 5) rfl rfl Try.func97 (by kernel_rfl) rfl #[.pointer (some ⟨g, 0, none⟩), .slice Ao5 y1037.length co5] rfl (qd2_) ?_; (with_reducible refine (spec_l1Pick.calls g s0_0 s0_1 s0_2 _ _ y1037 t1040 t1041 t1042 w0 _ ?side1 ?side2 ?side3 ?side4 ?side5 A2.out).mono ?_); (case side1 => repeat (first | (with_reducible first | exact HI0.out | apply IsS_l1Cur.alloc | apply IsS_l1Cur.drewN | apply IsS_l1Cur.drew | apply IsS_l1Cur.set_1 | apply IsS_l1Cur.set_2) | exact HI0.out)); (case side2 => repeat (first | (with_reducible first | exact HB.out | apply below_alloc | apply pw_below_drewN | apply below_drew1 | refine below_set ?_ (IsS_l1Cur.ge HI0.out)) | exact HB.out)); (case side3 => repeat (first | exact (Kd.R_reads' HO1039.out).2.2 | (with_reducible refine Kd.C_alloc ?_ _) | (with_reducible refine Kd.C_drewN ?_ _) | (with_reducible refine Kd.C_drew ?_))); (case side4 => exact (Kd.R_reads' HO1039.out).2.1); (case side5 => exact far_slice (IsS_l1Cur.own_ne HI0.out HO1039.out (by decide))); rintro e w6 ⟨rfl, hi, hb, hk⟩; refine ⟨_, rfl, ?_⟩; replace HO1039 := Aside0.mk (Kd.R_mono (Kd.R_keep (IsS_l1Cur.apart (show IsS_l1Cur w0 _ g s0_0 s0_1 s0_2 from by repeat (first | (with_reducible first | exact HI0.out | apply IsS_l1Cur.alloc | apply IsS_l1Cur.drewN | apply IsS_l1Cur.drew | apply IsS_l1Cur.set_1 | apply IsS_l1Cur.set_2) | exact HI0.out)) (by (with_reducible repeat (first | apply Kd.R_alloc | apply Kd.R_drewN | apply Kd.R_drew)); exact HO1039.out) (by decide)) hk (fun _ h => h.2)) (fun _ h => h.1)); replace HK := Aside0.mk (KeepBut.trans (qd1_) hk (.inl rfl)); replace HB := Aside0.mk (hb); replace HI0 := Aside0.mk (hi); (try clear hb); (try clear hb2); (try clear hk); (try clear hi)))
  go_ret
  exact ⟨qd7_, qd3_, qd4_, qd1_⟩

/-! ### spec_l3Behind: function 114 -/
def spec_l3Behind.l0 : Nat → Int → Int → Int → Int → List (S_Item) → Option (Bool)
  | 0, _, _, _, _, _ => none
  | k + 1, x1, x5, x1044000, x1044001, x1044002 => if x5 < (x1044002.length : Int) then (if 0 ≤ x5 then (if 0 ≤ x1 then (if x1 < (x1044002.length : Int) then (if ((rd_Item x1044002 x5).f1).toList = ((rd_Item x1044002 x1).f1).toList then (some true) else (spec_l3Behind.l0 k x1 (wrap64 (x5 + 1)) x1044000 x1044001 x1044002)) else (none)) else (none)) else (none)) else (some false)
def spec_l3Behind.f (k : Nat) (a0_0 : Int) (a0_1 : Int) (l0_2 : List (S_Item)) (a1 : Int) : Option (Bool) := spec_l3Behind.l0 k a1 (wrap64 (a1 + 1)) a0_0 a0_1 l0_2
theorem spec_l3Behind.mono_l : ∀ k, (∀ y0 y1 y2 y3 y4, LeO (spec_l3Behind.l0 k y0 y1 y2 y3 y4) (spec_l3Behind.l0 (k + 1) y0 y1 y2 y3 y4))
  | 0 => fun _ _ _ _ _ r h => by simp [spec_l3Behind.l0] at h
  | k + 1 => by
    have ih0 := spec_l3Behind.mono_l k
    · intro y0 y1 y2 y3 y4
      unfold spec_l3Behind.l0
      exact qdh2_
theorem spec_l3Behind.mono : ∀ a0 a1 a2 a3 k, LeO (spec_l3Behind.f k a0 a1 a2 a3) (spec_l3Behind.f (k + 1) a0 a1 a2 a3) := by
  intro a0 a1 a2 a3 k
  have ih0 := spec_l3Behind.mono_l k
  unfold spec_l3Behind.f
  exact qdh2_
set_option maxHeartbeats 8000000 in
set_option maxRecDepth 100000 in
theorem spec_l3Behind.calls (k : Nat) (a0_0 : Int) (a0_1 : Int) (A0_2 : Option Addr) (c0_2 : Nat) (l0_2 : List (S_Item)) (a1 : Int) (r : Bool) (w : World) (hr0_2 : Kd.C k_Item w A0_2 l0_2.length l0_2) (hc0_2 : l0_2.length ≤ c0_2) (h : spec_l3Behind.f k a0_0 a0_1 l0_2 a1 = some r) :
    Calls Try.prog 114 #[.agg #[.int .i64 a0_0, .int .i64 a0_1, .slice A0_2 l0_2.length c0_2], .int .i64 a1] w fun e w' => e = .returned (.bool r) ∧ Below w.heap.size w w' := by
  have hu26 := Try.underlying26
  have HR0_2 := Aside0.mk hr0_2
  have HC0_2 := Aside0.mk hc0_2
  clear hr0_2 hc0_2
  have HB := Aside0.mk (Below.refl w.heap.size w)
  have H : (spec_l3Behind.l0 k a1 (wrap64 (a1 + 1)) a0_0 a0_1 l0_2) = some r := h
  clear h
  have H' := Aside0.mk H
  clear H
  go_enter Try.func114, Try.ntmps114
  go_wp2_with (first | (go_quiet (fail)) | ((with_reducible refine gate_dst (N := 2) rfl ?_); refine box_event ?hg (N := 2) ?hd (cs := #[.int .i64 a0_0, .int .i64 a0_1, .slice A0_2 l0_2.length c0_2]) (t := 26) ?hr ?_; (case hd => rfl); (case hg => rfl); (case hr => first | (go_simp; done) | (go_simp; rfl)); intro gb1043 hg w3 hbox hb; have BK1043 := Aside0.mk (hbox); have GW1043 := Aside0.mk ((by rw [hg]; exact (below_size (qd6_)) : w.heap.size ≤ gb1043)); have GE1043 := Aside0.mk ((by rw [hg]; exact (below_size (qd6_)) : w.heap.size ≤ gb1043)); replace HB := Aside0.mk (below_step (qd6_) hb); clear hb hbox hg))
  go_loopg [5] k (fun kq v5 w' => ∃ (x5_1 : Int), v5 = .int .i64 x5_1 ∧ Aside0 (spec_l3Behind.l0 kq a1 x5_1 a0_0 a0_1 l0_2 = some r) ∧ Aside0 (kq ≤ k) ∧ Aside0 (w'.heap[gb1043]? = some (.cells #[.int .i64 a0_0, .int .i64 a0_1, (.slice A0_2 l0_2.length c0_2)] 26 (0, 0))) ∧ Aside0 (Below w.heap.size w w'))
  case atStart => exact ⟨(wrap64 (a1 + 1)), (qd10_), H', ⟨Nat.le_refl _⟩, ⟨bq_ BK1043.out⟩, ⟨qd11_⟩⟩
  case round =>
    clear H'
    try clear c1
    try clear p2
    obtain ⟨x5_1, rfl, HA, HK1, BK1043, HB⟩ := hrel
    cases gk with
    | zero => exact absurd HA.out (by simp [spec_l3Behind.l0])
    | succ k1 =>
      have H := HA.out
      clear HA
      simp only [spec_l3Behind.l0] at H
      by_cases c4 : x5_1 < (l0_2.length : Int)
      · rw [if_pos c4] at H
        have c4b0 : decide (x5_1 < (l0_2.length : Int)) = true := decide_eq_true c4
        clear c4
        by_cases c5 : 0 ≤ x5_1
        · rw [if_pos c5] at H
          have c5b0 : decide (0 ≤ x5_1) = true := decide_eq_true c5
          clear c5
          by_cases c6 : 0 ≤ a1
          · rw [if_pos c6] at H
            have c6b0 : decide (0 ≤ a1) = true := decide_eq_true c6
            clear c6
            by_cases c7 : a1 < (l0_2.length : Int)
            · rw [if_pos c7] at H
              have c7b0 : decide (a1 < (l0_2.length : Int)) = true := decide_eq_true c7
              clear c7
              by_cases c8 : ((rd_Item l0_2 x5_1).f1).toList = ((rd_Item l0_2 a1).f1).toList
              · rw [if_pos c8] at H
                have c8b0 : (((rd_Item l0_2 x5_1).f1).toList == ((rd_Item l0_2 a1).f1).toList) = true := beq_iff_eq.mpr c8
                have c8b1 : (((rd_Item l0_2 x5_1).f1).toList != ((rd_Item l0_2 a1).f1).toList) = false := bne_eq_false_iff_eq.mpr c8
                clear c8
                obtain rfl := Option.some.inj H
                have hcz9_0 : wr.cell? ⟨gb1043, 0, none⟩ = some (.int .i64 a0_0) := bc_ BK1043 0
                have hcz9_1 : wr.cell? ⟨gb1043, 1, none⟩ = some (.int .i64 a0_1) := bc_ BK1043 1
                have hcz9_2 : wr.cell? ⟨gb1043, 2, none⟩ = some (.slice A0_2 l0_2.length c0_2) := bc_ BK1043 2
                have hfz9_0 := blk_frozen BK1043.out 0
                have hfz9_1 := blk_frozen BK1043.out 1
                have hfz9_2 := blk_frozen BK1043.out 2
                have p1044 : 0 ≤ (x5_1 : Int) := of_decide_eq_true dt_
                have q1044 : x5_1 < (l0_2.length : Int) := of_decide_eq_true dt_
                obtain ⟨ad1044, e1044, hx1044_0, hx1044_1, hx1044_2, hx1044_3, hx1044_4⟩ := at_Item HR0_2.out x5_1 p1044 q1044
                cases e1044
                replace hx1044_0 := hc_ HB hx1044_0
                replace hx1044_1 := hc_ HB hx1044_1
                replace hx1044_2 := hc_ HB hx1044_2
                replace hx1044_3 := hc_ HB hx1044_3
                replace hx1044_4 := hc_ HB hx1044_4
                replace p1044 := eq_true p1044
                replace q1044 := eq_true q1044
                have p1045 : 0 ≤ (a1 : Int) := of_decide_eq_true dt_
                have q1045 : a1 < (l0_2.length : Int) := of_decide_eq_true dt_
                obtain ⟨ad1045, e1045, hx1045_0, hx1045_1, hx1045_2, hx1045_3, hx1045_4⟩ := at_Item HR0_2.out a1 p1045 q1045
                obtain rfl : ad1044 = ad1045 := (by injection e1045)
                replace hx1045_0 := hc_ HB hx1045_0
                replace hx1045_1 := hc_ HB hx1045_1
                replace hx1045_2 := hc_ HB hx1045_2
                replace hx1045_3 := hc_ HB hx1045_3
                replace hx1045_4 := hc_ HB hx1045_4
                replace p1045 := eq_true p1045
                replace q1045 := eq_true q1045
                go_wp2
                repeat (go_quiet (fail); try go_wp2)
                go_ret
                exact ⟨qd7_, qd11_⟩
              · rw [if_neg c8] at H
                have c8b0 : (((rd_Item l0_2 x5_1).f1).toList == ((rd_Item l0_2 a1).f1).toList) = false := beq_eq_false_iff_ne.mpr c8
                have c8b1 : (((rd_Item l0_2 x5_1).f1).toList != ((rd_Item l0_2 a1).f1).toList) = true := bne_iff_ne.mpr c8
                have H' := Aside0.mk H
                clear H
                have hcz10_0 : wr.cell? ⟨gb1043, 0, none⟩ = some (.int .i64 a0_0) := bc_ BK1043 0
                have hcz10_1 : wr.cell? ⟨gb1043, 1, none⟩ = some (.int .i64 a0_1) := bc_ BK1043 1
                have hcz10_2 : wr.cell? ⟨gb1043, 2, none⟩ = some (.slice A0_2 l0_2.length c0_2) := bc_ BK1043 2
                have hfz10_0 := blk_frozen BK1043.out 0
                have hfz10_1 := blk_frozen BK1043.out 1
                have hfz10_2 := blk_frozen BK1043.out 2
                have p1044 : 0 ≤ (x5_1 : Int) := of_decide_eq_true dt_
                have q1044 : x5_1 < (l0_2.length : Int) := of_decide_eq_true dt_
                obtain ⟨ad1044, e1044, hx1044_0, hx1044_1, hx1044_2, hx1044_3, hx1044_4⟩ := at_Item HR0_2.out x5_1 p1044 q1044
                cases e1044
                replace hx1044_0 := hc_ HB hx1044_0
                replace hx1044_1 := hc_ HB hx1044_1
                replace hx1044_2 := hc_ HB hx1044_2
                replace hx1044_3 := hc_ HB hx1044_3
                replace hx1044_4 := hc_ HB hx1044_4
                replace p1044 := eq_true p1044
                replace q1044 := eq_true q1044
                have p1045 : 0 ≤ (a1 : Int) := of_decide_eq_true dt_
                have q1045 : a1 < (l0_2.length : Int) := of_decide_eq_true dt_
                obtain ⟨ad1045, e1045, hx1045_0, hx1045_1, hx1045_2, hx1045_3, hx1045_4⟩ := at_Item HR0_2.out a1 p1045 q1045
                obtain rfl : ad1044 = ad1045 := (by injection e1045)
                replace hx1045_0 := hc_ HB hx1045_0
                replace hx1045_1 := hc_ HB hx1045_1
                replace hx1045_2 := hc_ HB hx1045_2
                replace hx1045_3 := hc_ HB hx1045_3
                replace hx1045_4 := hc_ HB hx1045_4
                replace p1045 := eq_true p1045
                replace q1045 := eq_true q1045
                go_wp2
                repeat (go_quiet (fail); try go_wp2)
                go_roundg k1
                case measure => have := HK1.out; omega
                case rel => exact ⟨(wrap64 (x5_1 + 1)), (qd10_), H', ⟨by have := HK1.out; omega⟩, ⟨bq_ BK1043.out⟩, ⟨qd11_⟩⟩
            · rw [if_neg c7] at H
              exact absurd H (by simp)
          · rw [if_neg c6] at H
            exact absurd H (by simp)
        · rw [if_neg c5] at H
          exact absurd H (by simp)
      · rw [if_neg c4] at H
        have c4b0 : decide (x5_1 < (l0_2.length : Int)) = false := decide_eq_false c4
        clear c4
        obtain rfl := Option.some.inj H
        have hcz11_0 : wr.cell? ⟨gb1043, 0, none⟩ = some (.int .i64 a0_0) := bc_ BK1043 0
        have hcz11_1 : wr.cell? ⟨gb1043, 1, none⟩ = some (.int .i64 a0_1) := bc_ BK1043 1
        have hcz11_2 : wr.cell? ⟨gb1043, 2, none⟩ = some (.slice A0_2 l0_2.length c0_2) := bc_ BK1043 2
        have hfz11_0 := blk_frozen BK1043.out 0
        have hfz11_1 := blk_frozen BK1043.out 1
        have hfz11_2 := blk_frozen BK1043.out 2
        go_wp2
        repeat (go_quiet (fail); try go_wp2)
        go_ret
        exact ⟨qd7_, qd11_⟩
/-! ### spec_RowPack: function 112 -/
abbrev spec_RowPack.m0 : Array Bool := #[f_,f_,f_,f_,f_,f_,f_,f_,f_,f_,f_,f_,f_,f_,f_,f_,f_,f_,f_,f_,f_]
abbrev spec_RowPack.m1 : Array Bool := #[t_,f_,f_,f_,f_,f_,f_,f_,f_,f_,f_,f_,f_,f_,f_,f_,f_,f_,f_,f_,f_]
abbrev spec_RowPack.m2 : Array Bool := #[t_,t_,f_,f_,f_,f_,f_,f_,f_,f_,f_,f_,f_,f_,f_,f_,f_,f_,f_,f_,f_]
abbrev spec_RowPack.m3 : Array Bool := #[t_,t_,t_,f_,f_,f_,f_,f_,f_,f_,f_,f_,f_,f_,f_,f_,f_,f_,f_,f_,f_]
abbrev spec_RowPack.m4 : Array Bool := #[t_,t_,t_,t_,f_,f_,f_,f_,f_,f_,f_,f_,f_,f_,f_,f_,f_,f_,f_,f_,f_]
abbrev spec_RowPack.m5 : Array Bool := #[t_,t_,t_,t_,t_,t_,f_,f_,f_,f_,f_,f_,f_,f_,f_,f_,f_,f_,f_,f_,f_]
abbrev spec_RowPack.m6 : Array Bool := #[t_,t_,t_,t_,t_,t_,t_,f_,f_,f_,f_,f_,f_,f_,f_,f_,f_,f_,f_,f_,f_]
abbrev spec_RowPack.m7 : Array Bool := #[t_,t_,t_,t_,t_,t_,t_,t_,f_,f_,f_,f_,f_,f_,f_,f_,f_,f_,f_,f_,f_]
abbrev spec_RowPack.m8 : Array Bool := #[t_,t_,t_,t_,t_,t_,t_,t_,t_,f_,f_,f_,f_,f_,f_,f_,f_,f_,f_,f_,f_]
abbrev spec_RowPack.m9 : Array Bool := #[t_,t_,t_,t_,t_,t_,t_,t_,t_,t_,f_,f_,f_,f_,f_,f_,f_,f_,f_,f_,f_]
abbrev spec_RowPack.m10 : Array Bool := #[t_,t_,t_,t_,t_,t_,t_,t_,t_,t_,t_,f_,f_,f_,f_,f_,f_,f_,f_,f_,f_]
abbrev spec_RowPack.m11 : Array Bool := #[t_,t_,t_,t_,t_,t_,t_,t_,t_,t_,t_,t_,f_,f_,f_,f_,f_,f_,f_,f_,f_]
abbrev spec_RowPack.m12 : Array Bool := #[t_,t_,t_,t_,t_,t_,t_,t_,t_,t_,t_,t_,t_,f_,f_,f_,f_,f_,f_,f_,f_]
abbrev spec_RowPack.m13 : Array Bool := #[t_,t_,t_,t_,t_,t_,t_,t_,t_,t_,t_,t_,t_,t_,f_,f_,f_,f_,f_,f_,f_]
abbrev spec_RowPack.m14 : Array Bool := #[t_,t_,t_,t_,t_,t_,t_,t_,t_,t_,t_,t_,t_,t_,t_,f_,f_,f_,f_,f_,f_]
abbrev spec_RowPack.m15 : Array Bool := #[t_,t_,t_,t_,t_,t_,t_,t_,t_,t_,t_,t_,t_,t_,t_,t_,f_,f_,f_,f_,f_]
abbrev spec_RowPack.m16 : Array Bool := #[t_,t_,t_,t_,t_,t_,t_,t_,t_,t_,t_,t_,t_,t_,t_,t_,t_,f_,f_,f_,f_]
abbrev spec_RowPack.m17 : Array Bool := #[t_,t_,t_,t_,t_,t_,t_,t_,t_,t_,t_,t_,t_,t_,t_,t_,t_,t_,f_,f_,f_]
abbrev spec_RowPack.m18 : Array Bool := #[t_,t_,t_,t_,t_,t_,t_,t_,t_,t_,t_,t_,t_,t_,t_,t_,t_,t_,t_,f_,f_]
abbrev spec_RowPack.m19 : Array Bool := #[t_,t_,t_,t_,t_,t_,t_,t_,t_,t_,t_,t_,t_,t_,t_,t_,t_,t_,t_,t_,f_]
abbrev spec_RowPack.m20 : Array Bool := #[t_,t_,t_,t_,t_,t_,t_,t_,t_,t_,t_,t_,t_,t_,t_,t_,t_,t_,t_,t_,t_]
abbrev spec_RowPack.m21 : Array Bool := #[t_,t_,t_,t_,f_,t_,f_,f_,f_,f_,f_,f_,f_,f_,f_,f_,f_,f_,f_,f_,f_]
mutual
def spec_RowPack.j0 : Nat → Int → Bool → Int → Int → List (S_Item) → Option (Int × Int × (List (S_Item)))
 | 0, _, _, _, _, _ => none
 | k + 1, x1, x14, x1047000, x1047001, x1047002 => if x14 = true then ((spec_l3Copy.f x1047000 x1047001 x1047002).bind fun bt1049 => (some (bt1049.1, bt1049.2.1, bt1049.2.2))) else (spec_RowPack.j1 k x1 x1047000 x1047001 x1047002)
def spec_RowPack.j1 : Nat → Int → Int → Int → List (S_Item) → Option (Int × Int × (List (S_Item)))
 | 0, _, _, _, _ => none
 | k + 1, x1, x1047000, x1047001, x1047002 => spec_RowPack.l0 k x1 0 x1047000 x1047001 x1047002 x1047000 x1047001 ([] : List (S_Item))
def spec_RowPack.l0 : Nat → Int → Int → Int → Int → List (S_Item) → Int → Int → List (S_Item) → Option (Int × Int × (List (S_Item)))
 | 0, _, _, _, _, _, _, _, _ => none
 | k + 1, x1, x6, x1047000, x1047001, x1047002, x1055000, x1055001, x1055002 => if x6 < (x1047002.length : Int) then (spec_RowPack.j3 k x1 x6 x1047000 x1047001 x1047002 x1055000 x1055001 x1055002) else (some (x1055000, x1055001, x1055002))
def spec_RowPack.j3 : Nat → Int → Int → Int → Int → List (S_Item) → Int → Int → List (S_Item) → Option (Int × Int × (List (S_Item)))
 | 0, _, _, _, _, _, _, _, _ => none
 | k + 1, x1, x6, x1047000, x1047001, x1047002, x1055000, x1055001, x1055002 => if 0 ≤ x6 then (if x6 < (x1047002.length : Int) then (if ((rd_Item x1047002 x6).f1).toList = ([] : List UInt8) then (spec_RowPack.j4 k x1 x6 true x1047000 x1047001 x1047002 x1055000 x1055001 x1055002 ((rd_Item x1047002 x6).f0) ((rd_Item x1047002 x6).f1) ((rd_Item x1047002 x6).f2) ((rd_Item x1047002 x6).f3) ((rd_Item x1047002 x6).f4)) else ((spec_l3Behind.f k x1047000 x1047001 x1047002 x6).bind fun t1057 => (if t1057 = true then (if x1 = 0 then (none) else (spec_RowPack.j4 k x1 x6 ((wrap64 (Int.tdiv ((rd_Item x1047002 x6).f0) x1)) == (wrap64 (Int.tdiv (wrap64 (x1047001 - 1)) x1))) x1047000 x1047001 x1047002 x1055000 x1055001 x1055002 ((rd_Item x1047002 x6).f0) ((rd_Item x1047002 x6).f1) ((rd_Item x1047002 x6).f2) ((rd_Item x1047002 x6).f3) ((rd_Item x1047002 x6).f4))) else (spec_RowPack.j4 k x1 x6 true x1047000 x1047001 x1047002 x1055000 x1055001 x1055002 ((rd_Item x1047002 x6).f0) ((rd_Item x1047002 x6).f1) ((rd_Item x1047002 x6).f2) ((rd_Item x1047002 x6).f3) ((rd_Item x1047002 x6).f4))))) else (none)) else (none)
def spec_RowPack.j4 : Nat → Int → Int → Bool → Int → Int → List (S_Item) → Int → Int → List (S_Item) → Int → ByteArray → ByteArray → Int → Int → Option (Int × Int × (List (S_Item)))
 | 0, _, _, _, _, _, _, _, _, _, _, _, _, _, _ => none
 | k + 1, x1, x6, x54, x1047000, x1047001, x1047002, x1055000, x1055001, x1055002, x1057000, x1057001, x1057002, x1057003, x1057004 => if x54 = true then (if x1055002.length < 2513169434916 then (spec_RowPack.l0 k x1 (wrap64 (x6 + 1)) x1047000 x1047001 x1047002 x1055000 x1055001 (x1055002 ++ [(⟨x1057000, x1057001, x1057002, x1057003, x1057004⟩ : S_Item)])) else (none)) else (spec_RowPack.l0 k x1 (wrap64 (x6 + 1)) x1047000 x1047001 x1047002 x1055000 x1055001 x1055002)
end
def spec_RowPack.f (k : Nat) (a0_0 : Int) (a0_1 : Int) (l0_2 : List (S_Item)) (a1 : Int) : Option (Int × Int × (List (S_Item))) := if a1 < 1 then (spec_RowPack.j0 k a1 true a0_0 a0_1 l0_2) else ((spec_RowOk.f k a0_0 a0_1 l0_2).bind fun t1048 => (spec_RowPack.j0 k a1 (!t1048) a0_0 a0_1 l0_2))
theorem spec_RowPack.mono_l : ∀ k, (∀ y0 y1 y2 y3 y4, LeO (spec_RowPack.j0 k y0 y1 y2 y3 y4) (spec_RowPack.j0 (k + 1) y0 y1 y2 y3 y4)) ∧ (∀ y0 y1 y2 y3, LeO (spec_RowPack.j1 k y0 y1 y2 y3) (spec_RowPack.j1 (k + 1) y0 y1 y2 y3)) ∧ (∀ y0 y1 y2 y3 y4 y5 y6 y7, LeO (spec_RowPack.l0 k y0 y1 y2 y3 y4 y5 y6 y7) (spec_RowPack.l0 (k + 1) y0 y1 y2 y3 y4 y5 y6 y7)) ∧ (∀ y0 y1 y2 y3 y4 y5 y6 y7, LeO (spec_RowPack.j3 k y0 y1 y2 y3 y4 y5 y6 y7) (spec_RowPack.j3 (k + 1) y0 y1 y2 y3 y4 y5 y6 y7)) ∧ (∀ y0 y1 y2 y3 y4 y5 y6 y7 y8 y9 y10 y11 y12 y13, LeO (spec_RowPack.j4 k y0 y1 y2 y3 y4 y5 y6 y7 y8 y9 y10 y11 y12 y13) (spec_RowPack.j4 (k + 1) y0 y1 y2 y3 y4 y5 y6 y7 y8 y9 y10 y11 y12 y13))
 | 0 => ⟨fun _ _ _ _ _ r h => by simp [spec_RowPack.j0] at h, fun _ _ _ _ r h => by simp [spec_RowPack.j1] at h, fun _ _ _ _ _ _ _ _ r h => by simp [spec_RowPack.l0] at h, fun _ _ _ _ _ _ _ _ r h => by simp [spec_RowPack.j3] at h, fun _ _ _ _ _ _ _ _ _ _ _ _ _ _ r h => by simp [spec_RowPack.j4] at h⟩
 | k + 1 => by
  obtain ⟨ih0, ih1, ih2, ih3, ih4⟩ := spec_RowPack.mono_l k
  refine ⟨?_, ?_, ?_, ?_, ?_⟩
  ·
   intro y0 y1 y2 y3 y4
   unfold spec_RowPack.j0
   exact qdh3_
  ·
   intro y0 y1 y2 y3
   unfold spec_RowPack.j1
   exact qdh3_
  ·
   intro y0 y1 y2 y3 y4 y5 y6 y7
   unfold spec_RowPack.l0
   exact qdh3_
  ·
   intro y0 y1 y2 y3 y4 y5 y6 y7
   unfold spec_RowPack.j3
   exact qdh3_
  ·
   intro y0 y1 y2 y3 y4 y5 y6 y7 y8 y9 y10 y11 y12 y13
   unfold spec_RowPack.j4
   exact qdh3_
theorem spec_RowPack.mono : ∀ a0 a1 a2 a3 k, LeO (spec_RowPack.f k a0 a1 a2 a3) (spec_RowPack.f (k + 1) a0 a1 a2 a3) := by
 intro a0 a1 a2 a3 k
 obtain ⟨ih0, ih1, ih2, ih3, ih4⟩ := spec_RowPack.mono_l k
 unfold spec_RowPack.f
 exact qdh3_
def spec_RowPack.T8 : Bool × List (List Nat × List Nat) := (true, [([], []), ([0], [0]), ([1], [1]), ([2], [2]), ([3], [3]), ([3], [3]), ([4, 5, 3, 3], [3, 4, 5]), ([6, 3], [3, 6]), ([3, 7], [3, 7]), ([8, 6], [8]), ([9], [9]), ([10, 9], [9, 10]), ([9], [9]), ([11, 12, 9], [9, 11, 12]), ([9], [9]), ([14, 9], [9, 14]), ([15, 9], [9, 15]), ([9], [9]), ([16, 17, 9], [9, 16, 17]), ([13, 18, 9], [9, 13, 18]), ([9, 19], [9, 19])])
def spec_RowPack.B8 : List Nat := [0, 1, 3, 7, 15, 15, 63, 127, 255, 511, 1023, 2047, 1023, 8191, 1023, 17407, 50175, 1023, 246783, 524287, 1048575]
theorem spec_RowPack.tab8 : rtab .any (opsOf Try.f112 8) = spec_RowPack.T8 := by kernel_rfl
theorem spec_RowPack.bits8 : waitsOk spec_RowPack.T8.2 spec_RowPack.B8 = true := by kernel_rfl
set_option maxHeartbeats 8000000 in
set_option maxRecDepth 100000 in
theorem spec_RowPack.calls (k : Nat) (a0_0 : Int) (a0_1 : Int) (A0_2 : Option Addr) (c0_2 : Nat) (l0_2 : List (S_Item)) (a1 : Int) (r1 : Int) (r2 : Int) (r3 : List (S_Item)) (w : World) (hr0_2 : Kd.C k_Item w A0_2 l0_2.length l0_2) (hc0_2 : l0_2.length ≤ c0_2) (h : spec_RowPack.f k a0_0 a0_1 l0_2 a1 = some (r1, r2, r3)) :
 Calls Try.prog 112 #[.agg #[.int .i64 a0_0, .int .i64 a0_1, .slice A0_2 l0_2.length c0_2], .int .i64 a1] w fun e w' => ∃ v2_ : Value, e = .returned (.agg #[.int .i64 r1, .int .i64 r2, v2_]) ∧ Kd.R k_Item 33 w' w.heap.size (fun _ => True) v2_ r3 ∧ Below w.heap.size w w' := by
 have hu26 := Try.underlying26
 have hu33 := Try.underlying33
 have HR0_2 := Aside0.mk hr0_2
 have HC0_2 := Aside0.mk hc0_2
 clear hr0_2 hc0_2
 have HB := Aside0.mk (Below.refl w.heap.size w)
 have H : (if a1 < 1 then (spec_RowPack.j0 k a1 true a0_0 a0_1 l0_2) else ((spec_RowOk.f k a0_0 a0_1 l0_2).bind fun t1048 => (spec_RowPack.j0 k a1 (!t1048) a0_0 a0_1 l0_2))) = some (r1, r2, r3) := h
 clear h
 have HC3 := Aside0.mk H
 clear H
 go_enter Try.func112, Try.ntmps112
 go_upto_region 1 with (first | ((with_reducible refine gate_dst (N := 2) rfl ?_); refine box_event ?hg (N := 2) ?hd (cs := #[.int .i64 a0_0, .int .i64 a0_1, .slice A0_2 l0_2.length c0_2]) (t := 26) ?hr ?_; (case hd => rfl); (case hg => rfl); (case hr => first | (go_simp; done) | (go_simp; rfl)); intro gb1046 hg w4 hbox hb; have BK1046 := Aside0.mk (hbox); have GW1046 := cz_ HB hg; have GE1046 := cz_ HB hg; replace HB := ch_ HB hb; clear hb hbox hg) | ((with_reducible refine gate_dst (N := 4) rfl ?_); refine box_event ?hg (N := 4) ?hd (cs := #[.int .i64 0, .int .i64 0, .slice none 0 0]) (t := 26) ?hr ?_; (case hd => rfl); (case hg => rfl); (case hr => first | (go_simp; done) | (go_simp; rfl)); intro gb1047 hg w5 hbox hb; have BK1047 := Aside0.mk (hbox); have GW1047 := cz_ HB hg; have GE1047 := cz_ HB hg; have NB1046_1047 := cn_ BK1046 hg; have NB1047_1046 := cm_ BK1046 hg; replace BK1046 := cb_ BK1046 hb; replace HB := ch_ HB hb; clear hb hbox hg))
 (try simp only [Act.put, List.setIfInBounds_toArray, List.set_cons_zero, List.set_cons_succ])
 go_cut [14] (fun v14 wc => ∃ (kq : Nat) (x14_2 : Bool), v14 = .bool x14_2 ∧ Aside0 (spec_RowPack.j0 kq a1 x14_2 a0_0 a0_1 l0_2 = some (r1, r2, r3)) ∧ Aside0 (kq ≤ k) ∧ Aside0 (wc.heap[gb1046]? = some (.cells #[.int .i64 a0_0, .int .i64 a0_1, (.slice A0_2 l0_2.length c0_2)] 26 (0, 0))) ∧ Aside0 (wc.heap[gb1047]? = some (.cells #[.int .i64 0, .int .i64 0, (.slice none 0 0)] 26 (0, 0))) ∧ Aside0 (Below w.heap.size w wc))
 case first =>
  have H := HC3.out
  clear HC3
  by_cases c6 : a1 < 1
  ·
   rw [if_pos c6] at H
   have c6b0 : decide (a1 < 1) = true := decide_eq_true c6
   clear c6
   (first | rw [c6b0] | (simp only [i64_w, i32_w]; rw [c6b0]) | rw [c6b4] | rw [c6b3] | skip)
   have H' := Aside0.mk H
   clear H
   go_wp2
   go_meet
   case rel => exact ⟨_, (true), (qd10_), H', ⟨by first | omega | exact Nat.le_refl _⟩, ⟨bq_ BK1046.out⟩, ⟨bq_ BK1047.out⟩, ⟨hb_ HB.out⟩⟩
  ·
   rw [if_neg c6] at H
   have c6b0 : decide (a1 < 1) = false := decide_eq_false c6
   clear c6
   (first | rw [c6b0] | (simp only [i64_w, i32_w]; rw [c6b0]) | rw [c6b4] | rw [c6b3] | skip)
   replace H := Option.bind_eq_some_iff.mp H
   obtain ⟨t1048, A70, H⟩ := H
   replace H : (spec_RowPack.j0 k a1 (!t1048) a0_0 a0_1 l0_2) = some (r1, r2, r3) := H
   have A7 := Aside0.mk A70
   clear A70
   have H' := Aside0.mk H
   clear H
   have hnb8 := NB1046_1047.out
   have hnc8 := NB1047_1046.out
   have hcz9_0 : w5.cell? ⟨gb1046, 0, none⟩ = some (.int .i64 a0_0) := bc_ BK1046 0
   have hcz9_1 : w5.cell? ⟨gb1046, 1, none⟩ = some (.int .i64 a0_1) := bc_ BK1046 1
   have hcz9_2 : w5.cell? ⟨gb1046, 2, none⟩ = some (.slice A0_2 l0_2.length c0_2) := bc_ BK1046 2
   have hfz9_0 := blk_frozen BK1046.out 0
   have hfz9_1 := blk_frozen BK1046.out 1
   have hfz9_2 := blk_frozen BK1046.out 2
   go_wp2_with (first | (go_at_call 57; (with_reducible refine (spec_RowOk.calls k a0_0 a0_1 _ _ l0_2 t1048 _ ?side1 ?side2 A7.out).mono ?_); (case side1 => repeat (first | exact (Kd.C_below HR0_2.out HB.out) | (with_reducible refine Kd.C_alloc ?_ _) | (with_reducible refine Kd.C_drewN ?_ _) | (with_reducible refine Kd.C_drew ?_))); (case side2 => exact HC0_2.out); rintro e w10 ⟨rfl, hb⟩; replace BK1046 := cb_ BK1046 hb; replace BK1047 := cb_ BK1047 hb; replace HB := ch_ HB hb; (try clear hb); (try clear hb2); (try clear hk); (try clear hi)))
   go_meet
   case rel => exact ⟨_, (!t1048), (qd10_), H', ⟨by first | omega | exact Nat.le_refl _⟩, ⟨bq_ BK1046.out⟩, ⟨bq_ BK1047.out⟩, ⟨hb_ HB.out⟩⟩
 case rest =>
  clear HC3
  obtain ⟨kq, x14_2, rfl, HA, HJ2, BK1046, BK1047, HB⟩ := hcut
  cases kq with
  | zero => exact absurd HA.out (by simp [spec_RowPack.j0])
  | succ kj2 =>
   have H := HA.out
   clear HA
   simp only [spec_RowPack.j0] at H
   have HC11 := Aside0.mk H
   clear H
   go_upto_if 14 with (fail)
   go_cut [] (fun wc => ∃ (kq : Nat) (x1048000_10 : Int) (x1048001_10 : Int), Aside0 (spec_RowPack.j1 kq a1 a0_0 a0_1 l0_2 = some (r1, r2, r3)) ∧ Aside0 (kq ≤ kj2) ∧ Aside0 (wc.heap[gb1046]? = some (.cells #[.int .i64 a0_0, .int .i64 a0_1, (.slice A0_2 l0_2.length c0_2)] 26 (0, 0))) ∧ Aside0 (wc.heap[gb1047]? = some (.cells #[.int .i64 x1048000_10, .int .i64 x1048001_10, (.slice none 0 0)] 26 (0, 0))) ∧ Aside0 (Below w.heap.size w wc))
   case first =>
    have H := HC11.out
    clear HC11
    by_cases c12 : x14_2 = true
    ·
     subst c12
     have H1 : ((spec_l3Copy.f a0_0 a0_1 l0_2).bind fun bt1049 => (some (bt1049.1, bt1049.2.1, bt1049.2.2))) = some (r1, r2, r3) := by rw [if_pos rfl] at H; exact H
     clear H
     have H := H1
     clear H1
     replace H := Option.bind_eq_some_iff.mp H
     obtain ⟨⟨t1049, t1050, t1051⟩, A130, H⟩ := H
     replace H : (some (t1049, t1050, t1051)) = some (r1, r2, r3) := H
     have A13 := Aside0.mk A130
     clear A130
     simp only [Option.some.injEq, Prod.mk.injEq] at H
     obtain ⟨rfl, rfl, rfl⟩ := H
     have hnb14 := NB1046_1047.out
     have hnc14 := NB1047_1046.out
     have hcz15_0 : wc.cell? ⟨gb1046, 0, none⟩ = some (.int .i64 a0_0) := bc_ BK1046 0
     have hcz15_1 : wc.cell? ⟨gb1046, 1, none⟩ = some (.int .i64 a0_1) := bc_ BK1046 1
     have hcz15_2 : wc.cell? ⟨gb1046, 2, none⟩ = some (.slice A0_2 l0_2.length c0_2) := bc_ BK1046 2
     have hfz15_0 := blk_frozen BK1046.out 0
     have hfz15_1 := blk_frozen BK1046.out 1
     have hfz15_2 := blk_frozen BK1046.out 2
     go_wp2_with (first | ((with_reducible refine gate_callee (f := 56) rfl ?_); refine goesL_ (some 16) rfl rfl Try.func56 (by kernel_rfl) rfl #[.agg #[.int .i64 a0_0, .int .i64 a0_1, .slice A0_2 l0_2.length c0_2]] rfl sm_ ?_; (with_reducible refine (spec_l3Copy.calls a0_0 a0_1 _ _ l0_2 t1049 t1050 t1051 _ ?side1 ?side2 A13.out).mono ?_); (case side1 => repeat (first | exact (Kd.C_below HR0_2.out HB.out) | (with_reducible refine Kd.C_alloc ?_ _) | (with_reducible refine Kd.C_drewN ?_ _) | (with_reducible refine Kd.C_drew ?_))); (case side2 => exact HC0_2.out); rintro e w16 ⟨v1052, rfl, ho0, hb⟩; refine ⟨_, rfl, ?_⟩; have HO1053 := Aside0.mk (Kd.R_lower ho0 (below_size (hb_ HB.out))); replace BK1046 := cb_ BK1046 hb; replace BK1047 := cb_ BK1047 hb; replace HB := ch_ HB hb; (try clear hb); (try clear hb2); (try clear hk); (try clear hi); (try clear ho0); have hcz17_0 : w16.cell? ⟨gb1047, 0, none⟩ = some (.int .i64 0) := bc_ BK1047 0; have hcz17_1 : w16.cell? ⟨gb1047, 1, none⟩ = some (.int .i64 0) := bc_ BK1047 1; have hcz17_2 : w16.cell? ⟨gb1047, 2, none⟩ = some (.slice none 0 0) := bc_ BK1047 2; have hfz17_0 := blk_frozen BK1047.out 0; have hfz17_1 := blk_frozen BK1047.out 1; have hfz17_2 := blk_frozen BK1047.out 2; obtain ⟨Ao18, co18, eo18⟩ := Kd.R_slice HO1053.out; subst eo18))
     refine bodyPost_ret (results_cell_row rfl _ _ gb1047 26 #[.int .i64 t1049, .int .i64 t1050, .slice Ao18 t1051.length co18] (0, 0) _ rfl (bp_ BK1047.out) Try.underlying26 rfl (by kernel_rfl)) rfl ?_
     exact ⟨_, er_, by (with_reducible repeat (first | apply Kd.R_alloc | apply Kd.R_drewN | apply Kd.R_drew)); exact Kd.R_mono (Kd.R_far (p := ⟨gb1047, 2, none⟩) (Kd.R_far (p := ⟨gb1047, 1, none⟩) (Kd.R_far (p := ⟨gb1047, 0, none⟩) (Kd.R_types HO1053.out BK1047.out (by decide)) (fun _ hk => hk.2) (.int .i64 t1049)) (fun _ hk => hk.2) (.int .i64 t1050)) (fun _ hk => hk.2) (.slice Ao18 t1051.length co18)) (fun _ hk => trivial), hb_ HB.out⟩
    ·
     replace c12 := Bool.eq_false_iff.mpr c12
     subst c12
     have H1 : (spec_RowPack.j1 kj2 a1 a0_0 a0_1 l0_2) = some (r1, r2, r3) := by rw [if_neg (show ¬ (false = true) by decide)] at H; exact H
     clear H
     have H := H1
     clear H1
     have H' := Aside0.mk H
     clear H
     go_wp2
     go_meet
     case rel => exact ⟨_, (0), (0), H', ⟨by have := HJ2.out; first | omega | exact Nat.le_refl _⟩, ⟨bq_ BK1046.out⟩, ⟨bq_ BK1047.out⟩, ⟨hb_ HB.out⟩⟩
   case rest =>
    clear HC11
    obtain ⟨kq, x1048000_10, x1048001_10, HA, HJ10, BK1046, BK1047, HB⟩ := hcut
    cases kq with
    | zero => exact absurd HA.out (by simp [spec_RowPack.j1])
    | succ kj10 =>
     have H := HA.out
     clear HA
     simp only [spec_RowPack.j1] at H
     have H' := Aside0.mk H
     clear H
     have hnb19 := NB1046_1047.out
     have hnc19 := NB1047_1046.out
     have hcz20_0 : wc.cell? ⟨gb1046, 0, none⟩ = some (.int .i64 a0_0) := bc_ BK1046 0
     have hcz20_1 : wc.cell? ⟨gb1046, 1, none⟩ = some (.int .i64 a0_1) := bc_ BK1046 1
     have hcz20_2 : wc.cell? ⟨gb1046, 2, none⟩ = some (.slice A0_2 l0_2.length c0_2) := bc_ BK1046 2
     have hfz20_0 := blk_frozen BK1046.out 0
     have hfz20_1 := blk_frozen BK1046.out 1
     have hfz20_2 := blk_frozen BK1046.out 2
     go_wp2_with (first | ((with_reducible refine gate_dst (N := 5) rfl ?_); refine box_event ?hg (N := 5) ?hd (cs := #[.int .i64 0, .int .i64 0, .slice none 0 0]) (t := 26) ?hr ?_; (case hd => rfl); (case hg => rfl); (case hr => first | (go_simp; done) | (go_simp; rfl)); intro gb1054 hg w21 hbox hb; have BK1054 := Aside0.mk (hbox); have GW1054 := cz_ HB hg; have GE1054 := cz_ HB hg; have NB1046_1054 := cn_ BK1046 hg; have NB1054_1046 := cm_ BK1046 hg; have NB1047_1054 := cn_ BK1047 hg; have NB1054_1047 := cm_ BK1047 hg; replace BK1046 := cb_ BK1046 hb; replace BK1047 := cb_ BK1047 hb; replace HB := ch_ HB hb; clear hb hbox hg; have hnb22 := NB1054_1046.out; have hnc22 := NB1046_1054.out; have hnb23 := NB1054_1047.out; have hnc23 := NB1047_1054.out; have hcz24_0 : w21.cell? ⟨gb1054, 0, none⟩ = some (.int .i64 0) := bc_ BK1054 0; have hcz24_1 : w21.cell? ⟨gb1054, 1, none⟩ = some (.int .i64 0) := bc_ BK1054 1; have hcz24_2 : w21.cell? ⟨gb1054, 2, none⟩ = some (.slice none 0 0) := bc_ BK1054 2; have hfz24_0 := blk_frozen BK1054.out 0; have hfz24_1 := blk_frozen BK1054.out 1; have hfz24_2 := blk_frozen BK1054.out 2))
     go_loopg [6] kj10 (fun kq v6 w' => ∃ (x6_3 : Int) (x1055002_3 : List (S_Item)) (u1055002 : Value), v6 = .int .i64 x6_3 ∧ Aside0 (spec_RowPack.l0 kq a1 x6_3 a0_0 a0_1 l0_2 a0_0 a0_1 x1055002_3 = some (r1, r2, r3)) ∧ Aside0 (kq ≤ kj10) ∧ Aside0 (Kd.R k_Item 33 w' w.heap.size (fun _ => True) u1055002 x1055002_3) ∧ Aside0 (w'.heap[gb1046]? = some (.cells #[.int .i64 a0_0, .int .i64 a0_1, (.slice A0_2 l0_2.length c0_2)] 26 (0, 0))) ∧ Aside0 (w'.heap[gb1047]? = some (.cells #[.int .i64 x1048000_10, .int .i64 x1048001_10, (.slice none 0 0)] 26 (0, 0))) ∧ Aside0 (w'.heap[gb1054]? = some (.cells #[.int .i64 a0_0, .int .i64 a0_1, u1055002] 26 (0, 0))) ∧ Aside0 (Below w.heap.size w w'))
     case atStart => exact ⟨(0), (([] : List (S_Item))), (.slice none 0 0), (qd10_), H', ⟨Nat.le_refl _⟩, ⟨by first | exact Kd.R_nil _ _ _ _ _ | exact Kd.N_nil _ _ _ _ _ | exact Kd.V_nil _ _ _ _ _ | exact Kd.Q_nil _ _ _ _ _ | exact Kd.S_nil _ _ _ _ _⟩, ⟨bf_ NB1046_1054.out BK1046.out⟩, ⟨bf_ NB1047_1054.out BK1047.out⟩, ⟨bp_ BK1054.out⟩, ⟨hb_ HB.out⟩⟩
     case round =>
      clear H'
      (try clear hcz20_0); (try clear hcz20_1); (try clear hcz20_2); (try clear hcz24_0); (try clear hcz24_1); (try clear hcz24_2); (try clear hfz20_0); (try clear hfz20_1); (try clear hfz20_2); (try clear hfz24_0); (try clear hfz24_1); (try clear hfz24_2)
      obtain ⟨x6_3, x1055002_3, u1055002, rfl, HA, HK3, HO_1055002, BK1046, BK1047, BK1054, HB⟩ := hrel
      cases gk with
      | zero => exact absurd HA.out (by simp [spec_RowPack.l0])
      | succ k3 =>
       have H := HA.out
       clear HA
       simp only [spec_RowPack.l0] at H
       have HC25 := Aside0.mk H
       clear H
       have hnb26 := NB1046_1047.out
       have hnc26 := NB1047_1046.out
       have hnb27 := NB1046_1054.out
       have hnc27 := NB1054_1046.out
       have hcz28_0 : wr.cell? ⟨gb1046, 0, none⟩ = some (.int .i64 a0_0) := bc_ BK1046 0
       have hcz28_1 : wr.cell? ⟨gb1046, 1, none⟩ = some (.int .i64 a0_1) := bc_ BK1046 1
       have hcz28_2 : wr.cell? ⟨gb1046, 2, none⟩ = some (.slice A0_2 l0_2.length c0_2) := bc_ BK1046 2
       have hfz28_0 := blk_frozen BK1046.out 0
       have hfz28_1 := blk_frozen BK1046.out 1
       have hfz28_2 := blk_frozen BK1046.out 2
       go_upto_if 26 with (fail)
       go_cut [] (fun wc => ∃ (kq : Nat), Aside0 (spec_RowPack.j3 kq a1 x6_3 a0_0 a0_1 l0_2 a0_0 a0_1 x1055002_3 = some (r1, r2, r3)) ∧ Aside0 (kq ≤ k3) ∧ Aside0 (Kd.R k_Item 33 wc w.heap.size (fun _ => True) u1055002 x1055002_3) ∧ Aside0 (wc.heap[gb1046]? = some (.cells #[.int .i64 a0_0, .int .i64 a0_1, (.slice A0_2 l0_2.length c0_2)] 26 (0, 0))) ∧ Aside0 (wc.heap[gb1047]? = some (.cells #[.int .i64 x1048000_10, .int .i64 x1048001_10, (.slice none 0 0)] 26 (0, 0))) ∧ Aside0 (wc.heap[gb1054]? = some (.cells #[.int .i64 a0_0, .int .i64 a0_1, u1055002] 26 (0, 0))) ∧ Aside0 (Below w.heap.size w wc))
       case first =>
        have H := HC25.out
        clear HC25
        by_cases c29 : x6_3 < (l0_2.length : Int)
        ·
         rw [if_pos c29] at H
         have c29b0 : decide (x6_3 < (l0_2.length : Int)) = true := decide_eq_true c29
         clear c29
         (first | rw [c29b0] | (simp only [i64_w, i32_w]; rw [c29b0]) | rw [c29b4] | rw [c29b3] | skip)
         have H' := Aside0.mk H
         clear H
         go_wp2
         go_meet
         case rel => exact ⟨_, H', ⟨by have := HJ2.out; have := HJ10.out; have := HK3.out; first | omega | exact Nat.le_refl _⟩, ⟨rq_ HO_1055002.out⟩, ⟨bq_ BK1046.out⟩, ⟨bq_ BK1047.out⟩, ⟨bq_ BK1054.out⟩, ⟨hb_ HB.out⟩⟩
        ·
         rw [if_neg c29] at H
         have c29b0 : decide (x6_3 < (l0_2.length : Int)) = false := decide_eq_false c29
         clear c29
         (first | rw [c29b0] | (simp only [i64_w, i32_w]; rw [c29b0]) | rw [c29b4] | rw [c29b3] | skip)
         simp only [Option.some.injEq, Prod.mk.injEq] at H
         obtain ⟨rfl, rfl, rfl⟩ := H
         have hnb30 := NB1054_1046.out
         have hnc30 := NB1046_1054.out
         have hnb31 := NB1054_1047.out
         have hnc31 := NB1047_1054.out
         have hcz32_0 : wr.cell? ⟨gb1054, 0, none⟩ = some (.int .i64 a0_0) := bc_ BK1054 0
         have hcz32_1 : wr.cell? ⟨gb1054, 1, none⟩ = some (.int .i64 a0_1) := bc_ BK1054 1
         have hcz32_2 : wr.cell? ⟨gb1054, 2, none⟩ = some (u1055002) := bc_ BK1054 2
         have hfz32_0 := blk_frozen BK1054.out 0
         have hfz32_1 := blk_frozen BK1054.out 1
         have hfz32_2 := blk_frozen BK1054.out 2
         have hnb33 := NB1047_1046.out
         have hnc33 := NB1046_1047.out
         have hcz34_0 : wr.cell? ⟨gb1047, 0, none⟩ = some (.int .i64 x1048000_10) := bc_ BK1047 0
         have hcz34_1 : wr.cell? ⟨gb1047, 1, none⟩ = some (.int .i64 x1048001_10) := bc_ BK1047 1
         have hcz34_2 : wr.cell? ⟨gb1047, 2, none⟩ = some (.slice none 0 0) := bc_ BK1047 2
         have hfz34_0 := blk_frozen BK1047.out 0
         have hfz34_1 := blk_frozen BK1047.out 1
         have hfz34_2 := blk_frozen BK1047.out 2
         obtain ⟨Ao35, co35, eo35⟩ := Kd.R_slice HO_1055002.out
         subst eo35
         go_wp2
         refine bodyPost_ret (results_cell_row rfl _ _ gb1047 26 #[.int .i64 a0_0, .int .i64 a0_1, .slice Ao35 x1055002_3.length co35] (0, 0) _ rfl (bp_ BK1047.out) Try.underlying26 rfl (by kernel_rfl)) rfl ?_
         exact ⟨_, er_, by (with_reducible repeat (first | apply Kd.R_alloc | apply Kd.R_drewN | apply Kd.R_drew)); exact Kd.R_mono (Kd.R_far (p := ⟨gb1047, 2, none⟩) (Kd.R_far (p := ⟨gb1047, 1, none⟩) (Kd.R_far (p := ⟨gb1047, 0, none⟩) (Kd.R_types HO_1055002.out BK1047.out (by decide)) (fun _ hk => hk.2) (.int .i64 a0_0)) (fun _ hk => hk.2) (.int .i64 a0_1)) (fun _ hk => hk.2) (.slice Ao35 x1055002_3.length co35)) (fun _ hk => trivial), hb_ HB.out⟩
       case rest =>
        clear HC25
        (try clear hcz28_0); (try clear hcz28_1); (try clear hcz28_2); (try clear hfz28_0); (try clear hfz28_1); (try clear hfz28_2)
        obtain ⟨kq, HA, HJ24, HO_1055002, BK1046, BK1047, BK1054, HB⟩ := hcut
        cases kq with
        | zero => exact absurd HA.out (by simp [spec_RowPack.j3])
        | succ kj24 =>
         have H := HA.out
         clear HA
         simp only [spec_RowPack.j3] at H
         by_cases c36 : 0 ≤ x6_3
         ·
          rw [if_pos c36] at H
          have c36b0 : decide (0 ≤ x6_3) = true := decide_eq_true c36
          clear c36
          by_cases c37 : x6_3 < (l0_2.length : Int)
          ·
           rw [if_pos c37] at H
           have c37b0 : decide (x6_3 < (l0_2.length : Int)) = true := decide_eq_true c37
           clear c37
           have HC38 := Aside0.mk H
           clear H
           have hnb39 := NB1046_1047.out
           have hnc39 := NB1047_1046.out
           have hnb40 := NB1046_1054.out
           have hnc40 := NB1054_1046.out
           have hcz41_0 : wc.cell? ⟨gb1046, 0, none⟩ = some (.int .i64 a0_0) := bc_ BK1046 0
           have hcz41_1 : wc.cell? ⟨gb1046, 1, none⟩ = some (.int .i64 a0_1) := bc_ BK1046 1
           have hcz41_2 : wc.cell? ⟨gb1046, 2, none⟩ = some (.slice A0_2 l0_2.length c0_2) := bc_ BK1046 2
           have hfz41_0 := blk_frozen BK1046.out 0
           have hfz41_1 := blk_frozen BK1046.out 1
           have hfz41_2 := blk_frozen BK1046.out 2
           have p1055 : 0 ≤ (x6_3 : Int) := of_decide_eq_true dt_
           have q1055 : x6_3 < (l0_2.length : Int) := of_decide_eq_true dt_
           obtain ⟨ad1055, e1055, hx1055_0, hx1055_1, hx1055_2, hx1055_3, hx1055_4⟩ := at_Item HR0_2.out x6_3 p1055 q1055
           cases e1055
           replace hx1055_0 := hc_ HB hx1055_0
           replace hx1055_1 := hc_ HB hx1055_1
           replace hx1055_2 := hc_ HB hx1055_2
           replace hx1055_3 := hc_ HB hx1055_3
           replace hx1055_4 := hc_ HB hx1055_4
           replace p1055 := eq_true p1055
           replace q1055 := eq_true q1055
           go_upto_region 8 with (first | ((with_reducible refine gate_dst (N := 7) rfl ?_); refine box_event ?hg (N := 7) ?hd (cs := #[.int .i64 0, .string (⟨#[]⟩ : ByteArray), .string (⟨#[]⟩ : ByteArray), .int .i64 0, .int .i64 0]) (t := 33) ?hr ?_; (case hd => rfl); (case hg => rfl); (case hr => first | (go_simp; done) | (go_simp; rfl)); intro gb1056 hg w42 hbox hb; have BK1056 := Aside0.mk (hbox); have GW1056 := cz_ HB hg; have GE1056 := cz_ HB hg; have NB1046_1056 := cn_ BK1046 hg; have NB1056_1046 := cm_ BK1046 hg; have NB1047_1056 := cn_ BK1047 hg; have NB1056_1047 := cm_ BK1047 hg; have NB1054_1056 := cn_ BK1054 hg; have NB1056_1054 := cm_ BK1054 hg; replace HO_1055002 := Aside0.mk (Kd.R_below (Kd.R_elderB (rq_ HO_1055002.out) gb1056 (Nat.le_of_eq hg.symm)) hb); replace BK1046 := cb_ BK1046 hb; replace BK1047 := cb_ BK1047 hb; replace BK1054 := cb_ BK1054 hb; replace HB := ch_ HB hb; clear hb hbox hg; have hnb43 := NB1056_1046.out; have hnc43 := NB1046_1056.out; have hnb44 := NB1056_1047.out; have hnc44 := NB1047_1056.out; have hnb45 := NB1056_1054.out; have hnc45 := NB1054_1056.out; have hcz46_0 : w42.cell? ⟨gb1056, 0, none⟩ = some (.int .i64 0) := bc_ BK1056 0; have hcz46_1 : w42.cell? ⟨gb1056, 1, none⟩ = some (.string (⟨#[]⟩ : ByteArray)) := bc_ BK1056 1; have hcz46_2 : w42.cell? ⟨gb1056, 2, none⟩ = some (.string (⟨#[]⟩ : ByteArray)) := bc_ BK1056 2; have hcz46_3 : w42.cell? ⟨gb1056, 3, none⟩ = some (.int .i64 0) := bc_ BK1056 3; have hcz46_4 : w42.cell? ⟨gb1056, 4, none⟩ = some (.int .i64 0) := bc_ BK1056 4; have hfz46_0 := blk_frozen BK1056.out 0; have hfz46_1 := blk_frozen BK1056.out 1; have hfz46_2 := blk_frozen BK1056.out 2; have hfz46_3 := blk_frozen BK1056.out 3; have hfz46_4 := blk_frozen BK1056.out 4))
           (try simp only [Act.put, List.setIfInBounds_toArray, List.set_cons_zero, List.set_cons_succ])
           go_cut [54] (fun v54 wc => ∃ (kq : Nat) (x54_37 : Bool), v54 = .bool x54_37 ∧ Aside0 (spec_RowPack.j4 kq a1 x6_3 x54_37 a0_0 a0_1 l0_2 a0_0 a0_1 x1055002_3 ((rd_Item l0_2 x6_3).f0) ((rd_Item l0_2 x6_3).f1) ((rd_Item l0_2 x6_3).f2) ((rd_Item l0_2 x6_3).f3) ((rd_Item l0_2 x6_3).f4) = some (r1, r2, r3)) ∧ Aside0 (kq ≤ kj24) ∧ Aside0 (Kd.R k_Item 33 wc w.heap.size (fun k_ => k_ ≠ gb1056) u1055002 x1055002_3) ∧ Aside0 (wc.heap[gb1046]? = some (.cells #[.int .i64 a0_0, .int .i64 a0_1, (.slice (some ad1055) l0_2.length c0_2)] 26 (0, 0))) ∧ Aside0 (wc.heap[gb1047]? = some (.cells #[.int .i64 x1048000_10, .int .i64 x1048001_10, (.slice none 0 0)] 26 (0, 0))) ∧ Aside0 (wc.heap[gb1054]? = some (.cells #[.int .i64 a0_0, .int .i64 a0_1, u1055002] 26 (0, 0))) ∧ Aside0 (wc.heap[gb1056]? = some (.cells #[.int .i64 ((rd_Item l0_2 x6_3).f0), .string ((rd_Item l0_2 x6_3).f1), .string ((rd_Item l0_2 x6_3).f2), .int .i64 ((rd_Item l0_2 x6_3).f3), .int .i64 ((rd_Item l0_2 x6_3).f4)] 33 (0, 0))) ∧ Aside0 (Below w.heap.size w wc))
           case first =>
            have H := HC38.out
            clear HC38
            by_cases c47 : ((rd_Item l0_2 x6_3).f1).toList = ([] : List UInt8)
            ·
             rw [if_pos c47] at H
             have c47b0 : (((rd_Item l0_2 x6_3).f1).toList == ([] : List UInt8)) = true := beq_iff_eq.mpr c47
             have c47b1 : (((rd_Item l0_2 x6_3).f1).toList != ([] : List UInt8)) = false := bne_eq_false_iff_eq.mpr c47
             clear c47
             (first | rw [c47b0] | (simp only [i64_w, i32_w]; rw [c47b0]) | rw [c47b4] | rw [c47b3] | skip)
             have H' := Aside0.mk H
             clear H
             try go_wp2
             obtain ⟨w48, qe_⟩ : ∃ x_, x_ = (((((w42.setCell ⟨gb1056, 0, none⟩ (.int .i64 ((rd_Item l0_2 x6_3).f0))).setCell ⟨gb1056, 1, none⟩ (.string ((rd_Item l0_2 x6_3).f1))).setCell ⟨gb1056, 2, none⟩ (.string ((rd_Item l0_2 x6_3).f2))).setCell ⟨gb1056, 3, none⟩ (.int .i64 ((rd_Item l0_2 x6_3).f3))).setCell ⟨gb1056, 4, none⟩ (.int .i64 ((rd_Item l0_2 x6_3).f4))) := ⟨_, rfl⟩
             rw [← qe_]
             replace HO_1055002 : Aside0 (Kd.R k_Item 33 w48 w.heap.size (fun k_ => k_ ≠ gb1056) u1055002 x1055002_3) := ⟨qd5_⟩
             replace BK1046 := fl_ qe_ BK1046
             replace BK1047 := fl_ qe_ BK1047
             replace BK1054 := fl_ qe_ BK1054
             replace BK1056 : Aside0 (w48.heap[gb1056]? = some (.cells #[.int .i64 ((rd_Item l0_2 x6_3).f0), .string ((rd_Item l0_2 x6_3).f1), .string ((rd_Item l0_2 x6_3).f2), .int .i64 ((rd_Item l0_2 x6_3).f3), .int .i64 ((rd_Item l0_2 x6_3).f4)] 33 (0, 0))) := ⟨by rw [qe_]; exact bp_ BK1056.out⟩
             replace HB : Aside0 (Below w.heap.size w w48) := ⟨by rw [qe_]; exact hb_ HB.out⟩
             clear qe_
             replace HO_1055002 := Aside0.mk (Kd.R_drew HO_1055002.out)
             replace BK1046 := Aside0.mk (blk_drew BK1046.out)
             replace BK1047 := Aside0.mk (blk_drew BK1047.out)
             replace BK1054 := Aside0.mk (blk_drew BK1054.out)
             replace BK1056 := Aside0.mk (blk_drew BK1056.out)
             replace HB := Aside0.mk (below_drew1 HB.out)
             refine start_ (n := 21) (S := fun w' => w'.cell? ⟨gb1056, 0, none⟩ = some (.int .i64 ((rd_Item l0_2 x6_3).f0)) ∧ w'.cell? ⟨gb1056, 1, none⟩ = some (.string ((rd_Item l0_2 x6_3).f1)) ∧ w'.cell? ⟨gb1056, 2, none⟩ = some (.string ((rd_Item l0_2 x6_3).f2)) ∧ w'.cell? ⟨gb1056, 3, none⟩ = some (.int .i64 ((rd_Item l0_2 x6_3).f3)) ∧ w'.cell? ⟨gb1056, 4, none⟩ = some (.int .i64 ((rd_Item l0_2 x6_3).f4))) (ds := []) spec_RowPack.m0 (by kernel_rfl) rfl rfl ⟨bc_ BK1056 0, bc_ BK1056 1, bc_ BK1056 2, bc_ BK1056 3, bc_ BK1056 4⟩ (fun hHeld => ?_); refine with_tabW spec_RowPack.tab8 spec_RowPack.bits8 (fun HT_ HW_ => ?_)
             generalize w48.drew = w49 at HO_1055002 BK1046 BK1047 BK1054 BK1056 HB hHeld ⊢
             refine pI_ 0 34 HT_ spec_RowPack.m1 rfl rfl ?_
             refine tk_ 1 35 HT_ HW_ spec_RowPack.m2 rfl rfl hHeld ?_
             refine pI_ 2 36 HT_ spec_RowPack.m3 rfl rfl ?_
             refine pI_ 3 37 HT_ spec_RowPack.m4 rfl rfl ?_
             refine pU_ 4 38 HT_ #[true, true, true, true, true, false, false, false, false, false, false, false, false, false, false, false, false, false, false, false, false] rfl rfl ?_
             refine pU_ 5 39 HT_ spec_RowPack.m5 rfl rfl ?_
             refine pU_ 6 40 HT_ spec_RowPack.m6 rfl rfl ?_
             refine pU_ 7 41 HT_ spec_RowPack.m7 rfl rfl ?_
             refine pI_ 8 42 HT_ spec_RowPack.m8 rfl rfl ?_
             refine pI_ 9 43 HT_ spec_RowPack.m9 rfl rfl ?_
             refine pU_ 10 44 HT_ spec_RowPack.m10 rfl rfl ?_
             refine pU_ 11 45 HT_ spec_RowPack.m11 rfl rfl ?_
             refine pU_ 12 46 HT_ spec_RowPack.m12 rfl rfl ?_
             refine pU_ 13 47 HT_ spec_RowPack.m13 rfl rfl ?_
             refine pU_ 14 48 HT_ spec_RowPack.m14 rfl rfl ?_
             refine pU_ 15 49 HT_ spec_RowPack.m15 rfl rfl ?_
             refine pU_ 16 50 HT_ spec_RowPack.m16 rfl rfl ?_
             refine pU_ 17 51 HT_ spec_RowPack.m17 rfl rfl ?_
             refine pU_ 18 52 HT_ spec_RowPack.m18 rfl rfl ?_
             refine pU_ 19 53 HT_ spec_RowPack.m19 rfl rfl ?_
             refine pI_ 20 54 HT_ spec_RowPack.m20 rfl rfl ?_
             refine done_ (done_of HT_.out (by kernel_rfl)) ?_
             try go_wp2
             go_meet
             case rel => exact ⟨_, (true), (qd10_), H', ⟨qd15_⟩, ⟨rq_ HO_1055002.out⟩, ⟨bq_ BK1046.out⟩, ⟨bq_ BK1047.out⟩, ⟨bq_ BK1054.out⟩, ⟨bq_ BK1056.out⟩, ⟨hb_ HB.out⟩⟩
            ·
             rw [if_neg c47] at H
             have c47b0 : (((rd_Item l0_2 x6_3).f1).toList == ([] : List UInt8)) = false := beq_eq_false_iff_ne.mpr c47
             have c47b1 : (((rd_Item l0_2 x6_3).f1).toList != ([] : List UInt8)) = true := bne_iff_ne.mpr c47
             (first | rw [c47b0] | (simp only [i64_w, i32_w]; rw [c47b0]) | rw [c47b4] | rw [c47b3] | skip)
             replace H := Option.bind_eq_some_iff.mp H
             obtain ⟨t1057, A500, H⟩ := H
             replace H : (if t1057 = true then (if a1 = 0 then (none) else (spec_RowPack.j4 kj24 a1 x6_3 ((wrap64 (Int.tdiv ((rd_Item l0_2 x6_3).f0) a1)) == (wrap64 (Int.tdiv (wrap64 (a0_1 - 1)) a1))) a0_0 a0_1 l0_2 a0_0 a0_1 x1055002_3 ((rd_Item l0_2 x6_3).f0) ((rd_Item l0_2 x6_3).f1) ((rd_Item l0_2 x6_3).f2) ((rd_Item l0_2 x6_3).f3) ((rd_Item l0_2 x6_3).f4))) else (spec_RowPack.j4 kj24 a1 x6_3 true a0_0 a0_1 l0_2 a0_0 a0_1 x1055002_3 ((rd_Item l0_2 x6_3).f0) ((rd_Item l0_2 x6_3).f1) ((rd_Item l0_2 x6_3).f2) ((rd_Item l0_2 x6_3).f3) ((rd_Item l0_2 x6_3).f4))) = some (r1, r2, r3) := H
             have A50 := Aside0.mk A500
             clear A500
             by_cases c51 : t1057 = true
             ·
              subst c51
              have H1 : (if a1 = 0 then (none) else (spec_RowPack.j4 kj24 a1 x6_3 ((wrap64 (Int.tdiv ((rd_Item l0_2 x6_3).f0) a1)) == (wrap64 (Int.tdiv (wrap64 (a0_1 - 1)) a1))) a0_0 a0_1 l0_2 a0_0 a0_1 x1055002_3 ((rd_Item l0_2 x6_3).f0) ((rd_Item l0_2 x6_3).f1) ((rd_Item l0_2 x6_3).f2) ((rd_Item l0_2 x6_3).f3) ((rd_Item l0_2 x6_3).f4))) = some (r1, r2, r3) := by rw [if_pos rfl] at H; exact H
              clear H
              have H := H1
              clear H1
              by_cases c52 : a1 = 0
              ·
               rw [if_pos c52] at H
               exact absurd H (by simp)
              ·
               rw [if_neg c52] at H
               have c52b0 : (a1 == 0) = false := beq_eq_false_iff_ne.mpr c52
               have c52b1 : (a1 != 0) = true := bne_iff_ne.mpr c52
               have H' := Aside0.mk H
               clear H
               try go_wp2
               obtain ⟨w53, qe_⟩ : ∃ x_, x_ = (((((w42.setCell ⟨gb1056, 0, none⟩ (.int .i64 ((rd_Item l0_2 x6_3).f0))).setCell ⟨gb1056, 1, none⟩ (.string ((rd_Item l0_2 x6_3).f1))).setCell ⟨gb1056, 2, none⟩ (.string ((rd_Item l0_2 x6_3).f2))).setCell ⟨gb1056, 3, none⟩ (.int .i64 ((rd_Item l0_2 x6_3).f3))).setCell ⟨gb1056, 4, none⟩ (.int .i64 ((rd_Item l0_2 x6_3).f4))) := ⟨_, rfl⟩
               rw [← qe_]
               replace HO_1055002 : Aside0 (Kd.R k_Item 33 w53 w.heap.size (fun k_ => k_ ≠ gb1056) u1055002 x1055002_3) := ⟨qd5_⟩
               replace BK1046 := fl_ qe_ BK1046
               replace BK1047 := fl_ qe_ BK1047
               replace BK1054 := fl_ qe_ BK1054
               replace BK1056 : Aside0 (w53.heap[gb1056]? = some (.cells #[.int .i64 ((rd_Item l0_2 x6_3).f0), .string ((rd_Item l0_2 x6_3).f1), .string ((rd_Item l0_2 x6_3).f2), .int .i64 ((rd_Item l0_2 x6_3).f3), .int .i64 ((rd_Item l0_2 x6_3).f4)] 33 (0, 0))) := ⟨by rw [qe_]; exact bp_ BK1056.out⟩
               replace HB : Aside0 (Below w.heap.size w w53) := ⟨by rw [qe_]; exact hb_ HB.out⟩
               clear qe_
               replace HO_1055002 := Aside0.mk (Kd.R_drew HO_1055002.out)
               replace BK1046 := Aside0.mk (blk_drew BK1046.out)
               replace BK1047 := Aside0.mk (blk_drew BK1047.out)
               replace BK1054 := Aside0.mk (blk_drew BK1054.out)
               replace BK1056 := Aside0.mk (blk_drew BK1056.out)
               replace HB := Aside0.mk (below_drew1 HB.out)
               refine start_ (n := 21) (S := fun w' => w'.cell? ⟨gb1056, 0, none⟩ = some (.int .i64 ((rd_Item l0_2 x6_3).f0)) ∧ w'.cell? ⟨gb1056, 1, none⟩ = some (.string ((rd_Item l0_2 x6_3).f1)) ∧ w'.cell? ⟨gb1056, 2, none⟩ = some (.string ((rd_Item l0_2 x6_3).f2)) ∧ w'.cell? ⟨gb1056, 3, none⟩ = some (.int .i64 ((rd_Item l0_2 x6_3).f3)) ∧ w'.cell? ⟨gb1056, 4, none⟩ = some (.int .i64 ((rd_Item l0_2 x6_3).f4)) ∧ w'.cell? ⟨gb1046, 0, none⟩ = some (.int .i64 a0_0) ∧ w'.cell? ⟨gb1046, 1, none⟩ = some (.int .i64 a0_1) ∧ w'.cell? ⟨gb1046, 2, none⟩ = some (.slice (some ad1055) l0_2.length c0_2)) (ds := []) spec_RowPack.m0 (by kernel_rfl) rfl rfl ⟨bc_ BK1056 0, bc_ BK1056 1, bc_ BK1056 2, bc_ BK1056 3, bc_ BK1056 4, bc_ BK1046 0, bc_ BK1046 1, bc_ BK1046 2⟩ (fun hHeld => ?_); refine with_tabW spec_RowPack.tab8 spec_RowPack.bits8 (fun HT_ HW_ => ?_)
               generalize w53.drew = w54 at HO_1055002 BK1046 BK1047 BK1054 BK1056 HB hHeld ⊢
               refine pI_ 0 34 HT_ spec_RowPack.m1 rfl rfl ?_
               refine tk_ 1 35 HT_ HW_ spec_RowPack.m2 rfl rfl hHeld ?_
               refine pI_ 2 36 HT_ spec_RowPack.m3 rfl rfl ?_
               refine pI_ 3 37 HT_ spec_RowPack.m4 rfl rfl ?_
               refine pI_ 5 39 HT_ spec_RowPack.m21 rfl rfl ?_
               refine tk_ 4 38 HT_ HW_ spec_RowPack.m5 rfl rfl hHeld ?_
               refine on_ 6 40 HT_ spec_RowPack.m6 rfl rfl (fun K hK => ?_)
               refine goes_ Try.func114 (by kernel_rfl) rfl #[.agg #[.int .i64 a0_0, .int .i64 a0_1, .slice (some ad1055) l0_2.length c0_2], .int .i64 x6_3] (by rfl) rfl rfl sm_ ?_
               with_reducible refine (spec_l3Behind.calls kj24 a0_0 a0_1 _ _ l0_2 x6_3 true _ ?side1 ?side2 A50.out).mono ?_
               (case side1 => repeat (first | exact (Kd.C_below HR0_2.out HB.out) | (with_reducible refine Kd.C_alloc ?_ _) | (with_reducible refine Kd.C_drewN ?_ _) | (with_reducible refine Kd.C_drew ?_)))
               (case side2 => exact HC0_2.out)
               rintro e w55 ⟨rfl, hb⟩
               refine ⟨_, rfl, ?_⟩
               replace HO_1055002 := cr_ HO_1055002 hb
               replace BK1046 := cb_ BK1046 hb
               replace BK1047 := cb_ BK1047 hb
               replace BK1054 := cb_ BK1054 hb
               replace BK1056 := cb_ BK1056 hb
               replace HB := ch_ HB hb
               (try clear hb); (try clear hk)
               refine hK.out _ _ ⟨bc_ BK1056 0, bc_ BK1056 1, bc_ BK1056 2, bc_ BK1056 3, bc_ BK1056 4, bc_ BK1046 0, bc_ BK1046 1, bc_ BK1046 2⟩ (fun hHeld => ?_)
               clear hK K
               refine nm_ ?_
               refine pI_ 7 41 HT_ spec_RowPack.m7 rfl rfl ?_
               refine pI_ 8 42 HT_ spec_RowPack.m8 rfl rfl ?_
               refine pI_ 9 43 HT_ spec_RowPack.m9 rfl rfl ?_
               refine pI_ 10 44 HT_ spec_RowPack.m10 rfl rfl ?_
               refine pI_ 12 46 HT_ #[true, true, true, true, true, true, true, true, true, true, true, false, true, false, false, false, false, false, false, false, false] rfl rfl ?_
               refine pI_ 14 48 HT_ #[true, true, true, true, true, true, true, true, true, true, true, false, true, false, true, false, false, false, false, false, false] rfl rfl ?_
               refine pI_ 17 51 HT_ #[true, true, true, true, true, true, true, true, true, true, true, false, true, false, true, false, false, true, false, false, false] rfl rfl ?_
               refine tk_ 11 45 HT_ HW_ #[true, true, true, true, true, true, true, true, true, true, true, true, true, false, true, false, false, true, false, false, false] rfl rfl hHeld ?_
               refine pI_ 13 47 HT_ #[true, true, true, true, true, true, true, true, true, true, true, true, true, true, true, false, false, true, false, false, false] rfl rfl ?_
               refine tk_ 15 49 HT_ HW_ #[true, true, true, true, true, true, true, true, true, true, true, true, true, true, true, true, false, true, false, false, false] rfl rfl hHeld ?_
               refine pI_ 16 50 HT_ spec_RowPack.m17 rfl rfl ?_
               refine pI_ 18 52 HT_ spec_RowPack.m18 rfl rfl ?_
               refine pI_ 19 53 HT_ spec_RowPack.m19 rfl rfl ?_
               refine pI_ 20 54 HT_ spec_RowPack.m20 rfl rfl ?_
               refine done_ (done_of HT_.out (by kernel_rfl)) ?_
               try go_wp2
               go_meet
               case rel => exact ⟨_, (((wrap64 (Int.tdiv ((rd_Item l0_2 x6_3).f0) a1)) == (wrap64 (Int.tdiv (wrap64 (a0_1 - 1)) a1)))), (qd10_), H', ⟨qd15_⟩, ⟨rq_ HO_1055002.out⟩, ⟨bq_ BK1046.out⟩, ⟨bq_ BK1047.out⟩, ⟨bq_ BK1054.out⟩, ⟨bq_ BK1056.out⟩, ⟨hb_ HB.out⟩⟩
             ·
              replace c51 := Bool.eq_false_iff.mpr c51
              subst c51
              have H1 : (spec_RowPack.j4 kj24 a1 x6_3 true a0_0 a0_1 l0_2 a0_0 a0_1 x1055002_3 ((rd_Item l0_2 x6_3).f0) ((rd_Item l0_2 x6_3).f1) ((rd_Item l0_2 x6_3).f2) ((rd_Item l0_2 x6_3).f3) ((rd_Item l0_2 x6_3).f4)) = some (r1, r2, r3) := by rw [if_neg (show ¬ (false = true) by decide)] at H; exact H
              clear H
              have H := H1
              clear H1
              have H' := Aside0.mk H
              clear H
              try go_wp2
              obtain ⟨w56, qe_⟩ : ∃ x_, x_ = (((((w42.setCell ⟨gb1056, 0, none⟩ (.int .i64 ((rd_Item l0_2 x6_3).f0))).setCell ⟨gb1056, 1, none⟩ (.string ((rd_Item l0_2 x6_3).f1))).setCell ⟨gb1056, 2, none⟩ (.string ((rd_Item l0_2 x6_3).f2))).setCell ⟨gb1056, 3, none⟩ (.int .i64 ((rd_Item l0_2 x6_3).f3))).setCell ⟨gb1056, 4, none⟩ (.int .i64 ((rd_Item l0_2 x6_3).f4))) := ⟨_, rfl⟩
              rw [← qe_]
              replace HO_1055002 : Aside0 (Kd.R k_Item 33 w56 w.heap.size (fun k_ => k_ ≠ gb1056) u1055002 x1055002_3) := ⟨qd5_⟩
              replace BK1046 := fl_ qe_ BK1046
              replace BK1047 := fl_ qe_ BK1047
              replace BK1054 := fl_ qe_ BK1054
              replace BK1056 : Aside0 (w56.heap[gb1056]? = some (.cells #[.int .i64 ((rd_Item l0_2 x6_3).f0), .string ((rd_Item l0_2 x6_3).f1), .string ((rd_Item l0_2 x6_3).f2), .int .i64 ((rd_Item l0_2 x6_3).f3), .int .i64 ((rd_Item l0_2 x6_3).f4)] 33 (0, 0))) := ⟨by rw [qe_]; exact bp_ BK1056.out⟩
              replace HB : Aside0 (Below w.heap.size w w56) := ⟨by rw [qe_]; exact hb_ HB.out⟩
              clear qe_
              replace HO_1055002 := Aside0.mk (Kd.R_drew HO_1055002.out)
              replace BK1046 := Aside0.mk (blk_drew BK1046.out)
              replace BK1047 := Aside0.mk (blk_drew BK1047.out)
              replace BK1054 := Aside0.mk (blk_drew BK1054.out)
              replace BK1056 := Aside0.mk (blk_drew BK1056.out)
              replace HB := Aside0.mk (below_drew1 HB.out)
              refine start_ (n := 21) (S := fun w' => w'.cell? ⟨gb1056, 0, none⟩ = some (.int .i64 ((rd_Item l0_2 x6_3).f0)) ∧ w'.cell? ⟨gb1056, 1, none⟩ = some (.string ((rd_Item l0_2 x6_3).f1)) ∧ w'.cell? ⟨gb1056, 2, none⟩ = some (.string ((rd_Item l0_2 x6_3).f2)) ∧ w'.cell? ⟨gb1056, 3, none⟩ = some (.int .i64 ((rd_Item l0_2 x6_3).f3)) ∧ w'.cell? ⟨gb1056, 4, none⟩ = some (.int .i64 ((rd_Item l0_2 x6_3).f4)) ∧ w'.cell? ⟨gb1046, 0, none⟩ = some (.int .i64 a0_0) ∧ w'.cell? ⟨gb1046, 1, none⟩ = some (.int .i64 a0_1) ∧ w'.cell? ⟨gb1046, 2, none⟩ = some (.slice (some ad1055) l0_2.length c0_2)) (ds := []) spec_RowPack.m0 (by kernel_rfl) rfl rfl ⟨bc_ BK1056 0, bc_ BK1056 1, bc_ BK1056 2, bc_ BK1056 3, bc_ BK1056 4, bc_ BK1046 0, bc_ BK1046 1, bc_ BK1046 2⟩ (fun hHeld => ?_); refine with_tabW spec_RowPack.tab8 spec_RowPack.bits8 (fun HT_ HW_ => ?_)
              generalize w56.drew = w57 at HO_1055002 BK1046 BK1047 BK1054 BK1056 HB hHeld ⊢
              refine pI_ 0 34 HT_ spec_RowPack.m1 rfl rfl ?_
              refine tk_ 1 35 HT_ HW_ spec_RowPack.m2 rfl rfl hHeld ?_
              refine pI_ 2 36 HT_ spec_RowPack.m3 rfl rfl ?_
              refine pI_ 3 37 HT_ spec_RowPack.m4 rfl rfl ?_
              refine pI_ 5 39 HT_ spec_RowPack.m21 rfl rfl ?_
              refine tk_ 4 38 HT_ HW_ spec_RowPack.m5 rfl rfl hHeld ?_
              refine on_ 6 40 HT_ spec_RowPack.m6 rfl rfl (fun K hK => ?_)
              refine goes_ Try.func114 (by kernel_rfl) rfl #[.agg #[.int .i64 a0_0, .int .i64 a0_1, .slice (some ad1055) l0_2.length c0_2], .int .i64 x6_3] (by rfl) rfl rfl sm_ ?_
              with_reducible refine (spec_l3Behind.calls kj24 a0_0 a0_1 _ _ l0_2 x6_3 false _ ?side1 ?side2 A50.out).mono ?_
              (case side1 => repeat (first | exact (Kd.C_below HR0_2.out HB.out) | (with_reducible refine Kd.C_alloc ?_ _) | (with_reducible refine Kd.C_drewN ?_ _) | (with_reducible refine Kd.C_drew ?_)))
              (case side2 => exact HC0_2.out)
              rintro e w58 ⟨rfl, hb⟩
              refine ⟨_, rfl, ?_⟩
              replace HO_1055002 := cr_ HO_1055002 hb
              replace BK1046 := cb_ BK1046 hb
              replace BK1047 := cb_ BK1047 hb
              replace BK1054 := cb_ BK1054 hb
              replace BK1056 := cb_ BK1056 hb
              replace HB := ch_ HB hb
              (try clear hb); (try clear hk)
              refine hK.out _ _ ⟨bc_ BK1056 0, bc_ BK1056 1, bc_ BK1056 2, bc_ BK1056 3, bc_ BK1056 4, bc_ BK1046 0, bc_ BK1046 1, bc_ BK1046 2⟩ (fun hHeld => ?_)
              clear hK K
              refine nm_ ?_
              refine pI_ 7 41 HT_ spec_RowPack.m7 rfl rfl ?_
              refine pI_ 8 42 HT_ spec_RowPack.m8 rfl rfl ?_
              refine pI_ 9 43 HT_ spec_RowPack.m9 rfl rfl ?_
              refine pU_ 10 44 HT_ spec_RowPack.m10 rfl rfl ?_
              refine pU_ 11 45 HT_ spec_RowPack.m11 rfl rfl ?_
              refine pU_ 12 46 HT_ spec_RowPack.m12 rfl rfl ?_
              refine pU_ 13 47 HT_ spec_RowPack.m13 rfl rfl ?_
              refine pU_ 14 48 HT_ spec_RowPack.m14 rfl rfl ?_
              refine pU_ 15 49 HT_ spec_RowPack.m15 rfl rfl ?_
              refine pU_ 16 50 HT_ spec_RowPack.m16 rfl rfl ?_
              refine pU_ 17 51 HT_ spec_RowPack.m17 rfl rfl ?_
              refine pU_ 18 52 HT_ spec_RowPack.m18 rfl rfl ?_
              refine pU_ 19 53 HT_ spec_RowPack.m19 rfl rfl ?_
              refine pI_ 20 54 HT_ spec_RowPack.m20 rfl rfl ?_
              refine done_ (done_of HT_.out (by kernel_rfl)) ?_
              try go_wp2
              go_meet
              case rel => exact ⟨_, (true), (qd10_), H', ⟨qd15_⟩, ⟨rq_ HO_1055002.out⟩, ⟨bq_ BK1046.out⟩, ⟨bq_ BK1047.out⟩, ⟨bq_ BK1054.out⟩, ⟨bq_ BK1056.out⟩, ⟨hb_ HB.out⟩⟩
           case rest =>
            clear HC38
            obtain ⟨kq, x54_37, rfl, HA, HJ37, HO_1055002, BK1046, BK1047, BK1054, BK1056, HB⟩ := hcut
            cases kq with
            | zero => exact absurd HA.out (by simp [spec_RowPack.j4])
            | succ kj37 =>
             have H := HA.out
             clear HA
             simp only [spec_RowPack.j4] at H
             by_cases c59 : x54_37 = true
             ·
              subst c59
              have H1 : (if x1055002_3.length < 2513169434916 then (spec_RowPack.l0 kj37 a1 (wrap64 (x6_3 + 1)) a0_0 a0_1 l0_2 a0_0 a0_1 (x1055002_3 ++ [(⟨((rd_Item l0_2 x6_3).f0), ((rd_Item l0_2 x6_3).f1), ((rd_Item l0_2 x6_3).f2), ((rd_Item l0_2 x6_3).f3), ((rd_Item l0_2 x6_3).f4)⟩ : S_Item)])) else (none)) = some (r1, r2, r3) := by rw [if_pos rfl] at H; exact H
              clear H
              have H := H1
              clear H1
              by_cases c60 : x1055002_3.length < 2513169434916
              ·
               rw [if_pos c60] at H
               have LMc60 := Aside0.mk c60
               clear c60
               obtain ⟨y1058, hy1058⟩ : ∃ y_ : List (S_Item), y_ = (x1055002_3 ++ [(⟨((rd_Item l0_2 x6_3).f0), ((rd_Item l0_2 x6_3).f1), ((rd_Item l0_2 x6_3).f2), ((rd_Item l0_2 x6_3).f3), ((rd_Item l0_2 x6_3).f4)⟩ : S_Item)]) := ⟨_, rfl⟩
               replace H : (spec_RowPack.l0 kj37 a1 (wrap64 (x6_3 + 1)) a0_0 a0_1 l0_2 a0_0 a0_1 y1058) = some (r1, r2, r3) := by first | (rw [hy1058]; with_reducible exact H) | (have H2_ := (Option.bind_some _ _).symm.trans H; rw [hy1058]; with_reducible exact H2_) | (have H2_ := (Option.bind_some _ _).symm.trans H; with_reducible exact H2_) | with_reducible exact H | (rw [hy1058]; exact H) | exact H
               have Ny1058 := Aside0.mk hy1058
               clear hy1058
               have H' := Aside0.mk H
               clear H
               have hnb61 := NB1054_1046.out
               have hnc61 := NB1046_1054.out
               have hnb62 := NB1054_1047.out
               have hnc62 := NB1047_1054.out
               have hnb63 := NB1054_1056.out
               have hnc63 := NB1056_1054.out
               have hcz64_0 : wc.cell? ⟨gb1054, 0, none⟩ = some (.int .i64 a0_0) := bc_ BK1054 0
               have hcz64_1 : wc.cell? ⟨gb1054, 1, none⟩ = some (.int .i64 a0_1) := bc_ BK1054 1
               have hcz64_2 : wc.cell? ⟨gb1054, 2, none⟩ = some (u1055002) := bc_ BK1054 2
               have hfz64_0 := blk_frozen BK1054.out 0
               have hfz64_1 := blk_frozen BK1054.out 1
               have hfz64_2 := blk_frozen BK1054.out 2
               have hnb65 := NB1056_1046.out
               have hnc65 := NB1046_1056.out
               have hnb66 := NB1056_1047.out
               have hnc66 := NB1047_1056.out
               have hcz67_0 : wc.cell? ⟨gb1056, 0, none⟩ = some (.int .i64 ((rd_Item l0_2 x6_3).f0)) := bc_ BK1056 0
               have hcz67_1 : wc.cell? ⟨gb1056, 1, none⟩ = some (.string ((rd_Item l0_2 x6_3).f1)) := bc_ BK1056 1
               have hcz67_2 : wc.cell? ⟨gb1056, 2, none⟩ = some (.string ((rd_Item l0_2 x6_3).f2)) := bc_ BK1056 2
               have hcz67_3 : wc.cell? ⟨gb1056, 3, none⟩ = some (.int .i64 ((rd_Item l0_2 x6_3).f3)) := bc_ BK1056 3
               have hcz67_4 : wc.cell? ⟨gb1056, 4, none⟩ = some (.int .i64 ((rd_Item l0_2 x6_3).f4)) := bc_ BK1056 4
               have hfz67_0 := blk_frozen BK1056.out 0
               have hfz67_1 := blk_frozen BK1056.out 1
               have hfz67_2 := blk_frozen BK1056.out 2
               have hfz67_3 := blk_frozen BK1056.out 3
               have hfz67_4 := blk_frozen BK1056.out 4
               go_wp2_with (first | ((with_reducible refine gate_builtin (b := .append) (xs := #[.tmp 56, .tmp 58]) rfl ?_); at_builtin; refine Kd.R_append k_Item (w0 := w) w.heap.size rfl (.tmp 56) (.tmp 58) 24 33 (.agg #[(.int .i64 0), (.string ⟨#[]⟩), (.string ⟨#[]⟩), (.int .i64 0), (.int .i64 0)]) 56 rfl Try.underlying24 info33 rfl (by decide) (by omega) u1055002 x1055002_3 (⟨((rd_Item l0_2 x6_3).f0), ((rd_Item l0_2 x6_3).f1), ((rd_Item l0_2 x6_3).f2), ((rd_Item l0_2 x6_3).f3), ((rd_Item l0_2 x6_3).f4)⟩ : S_Item) [.int .i64 ((rd_Item l0_2 x6_3).f0), .string ((rd_Item l0_2 x6_3).f1), .string ((rd_Item l0_2 x6_3).f2), .int .i64 ((rd_Item l0_2 x6_3).f3), .int .i64 ((rd_Item l0_2 x6_3).f4)] (fun k_ => k_ ≠ gb1056) (fun _ => False) rfl rfl ?aP (fun _ hk => hk.elim) ?aF ?aO ?aB ?aS ?aL ?_; (case aP => exact k_Item_mkM _ _ _ (⟨((rd_Item l0_2 x6_3).f0), ((rd_Item l0_2 x6_3).f1), ((rd_Item l0_2 x6_3).f2), ((rd_Item l0_2 x6_3).f3), ((rd_Item l0_2 x6_3).f4)⟩ : S_Item)); (case aB => exact (hb_ HB.out)); (case aF => exact (fun k_ hk => Kd.freshB (g := gb1056) (o := .cells #[.int .i64 ((rd_Item l0_2 x6_3).f0), .string ((rd_Item l0_2 x6_3).f1), .string ((rd_Item l0_2 x6_3).f2), .int .i64 ((rd_Item l0_2 x6_3).f3), .int .i64 ((rd_Item l0_2 x6_3).f4)] 33 (0, 0)) (bq_ BK1056.out) k_ hk)); (case aO => exact (rq_ HO_1055002.out)); (case aS => exact (below_size (hb_ HB.out))); (case aL => have := LMc60.out; omega); intro v1059 w68 ho hb hg hat; rw [← Ny1058.out] at ho; have HO1060 := Aside0.mk (ho); replace BK1046 := Aside0.mk (blk_grown (g := gb1046) (o := .cells #[.int .i64 a0_0, .int .i64 a0_1, .slice (some ad1055) l0_2.length c0_2] 26 (0, 0)) (bq_ BK1046.out) hg (Kd.R_ne HO_1055002.out BK1046.out (by decide))); replace BK1047 := Aside0.mk (blk_grown (g := gb1047) (o := .cells #[.int .i64 x1048000_10, .int .i64 x1048001_10, .slice none 0 0] 26 (0, 0)) (bq_ BK1047.out) hg (Kd.R_ne HO_1055002.out BK1047.out (by decide))); replace BK1054 := Aside0.mk (blk_grown (g := gb1054) (o := .cells #[.int .i64 a0_0, .int .i64 a0_1, u1055002] 26 (0, 0)) (bq_ BK1054.out) hg (Kd.R_ne HO_1055002.out BK1054.out (by decide))); replace BK1056 := Aside0.mk (blk_grown (g := gb1056) (o := .cells #[.int .i64 ((rd_Item l0_2 x6_3).f0), .string ((rd_Item l0_2 x6_3).f1), .string ((rd_Item l0_2 x6_3).f2), .int .i64 ((rd_Item l0_2 x6_3).f3), .int .i64 ((rd_Item l0_2 x6_3).f4)] 33 (0, 0)) (bq_ BK1056.out) hg (Kd.R_away HO_1055002.out (fun _ hk => hk))); replace HB := Aside0.mk (hb); clear HO_1055002; clear ho hb hg hat; obtain ⟨Ao69, co69, eo69⟩ := Kd.R_slice HO1060.out; subst eo69; have hcz70_0 : w68.cell? ⟨gb1054, 0, none⟩ = some (.int .i64 a0_0) := bc_ BK1054 0; have hcz70_1 : w68.cell? ⟨gb1054, 1, none⟩ = some (.int .i64 a0_1) := bc_ BK1054 1; have hcz70_2 : w68.cell? ⟨gb1054, 2, none⟩ = some (u1055002) := bc_ BK1054 2; have hfz70_0 := blk_frozen BK1054.out 0; have hfz70_1 := blk_frozen BK1054.out 1; have hfz70_2 := blk_frozen BK1054.out 2))
               go_roundg kj37
               case measure => have := HJ2.out; have := HJ10.out; have := HK3.out; have := HJ24.out; have := HJ37.out; omega
               case rel => exact ⟨(wrap64 (x6_3 + 1)), (y1058), (.slice Ao69 y1058.length co69), (qd10_), H', ⟨by have := HJ2.out; have := HJ10.out; have := HK3.out; have := HJ24.out; have := HJ37.out; omega⟩, ⟨by (with_reducible repeat (first | apply Kd.R_alloc | apply Kd.R_drewN | apply Kd.R_drew)); exact Kd.R_mono (Kd.R_far (p := ⟨gb1054, 2, none⟩) (Kd.R_types HO1060.out BK1054.out (by decide)) (fun _ hk => hk.2) (.slice Ao69 y1058.length co69)) (fun _ hk => trivial)⟩, ⟨bf_ NB1046_1054.out BK1046.out⟩, ⟨bf_ NB1047_1054.out BK1047.out⟩, ⟨bp_ BK1054.out⟩, ⟨hb_ HB.out⟩⟩
              ·
               rw [if_neg c60] at H
               exact absurd H (by simp)
             ·
              replace c59 := Bool.eq_false_iff.mpr c59
              subst c59
              have H1 : (spec_RowPack.l0 kj37 a1 (wrap64 (x6_3 + 1)) a0_0 a0_1 l0_2 a0_0 a0_1 x1055002_3) = some (r1, r2, r3) := by rw [if_neg (show ¬ (false = true) by decide)] at H; exact H
              clear H
              have H := H1
              clear H1
              have H' := Aside0.mk H
              clear H
              go_wp2
              go_roundg kj37
              case measure => have := HJ2.out; have := HJ10.out; have := HK3.out; have := HJ24.out; have := HJ37.out; omega
              case rel => exact ⟨(wrap64 (x6_3 + 1)), (x1055002_3), (u1055002), (qd10_), H', ⟨by have := HJ2.out; have := HJ10.out; have := HK3.out; have := HJ24.out; have := HJ37.out; omega⟩, ⟨by (with_reducible repeat (first | apply Kd.R_alloc | apply Kd.R_drewN | apply Kd.R_drew)); exact Kd.R_mono HO_1055002.out (fun _ hk => trivial)⟩, ⟨bq_ BK1046.out⟩, ⟨bq_ BK1047.out⟩, ⟨bq_ BK1054.out⟩, ⟨hb_ HB.out⟩⟩
          ·
           rw [if_neg c37] at H
           exact absurd H (by simp)
         ·
          rw [if_neg c36] at H
          exact absurd H (by simp)
end Go.Proofs.Ythmjhhkheohgfaa.Q
