/- Made by a program of ours out of the print of the loaded functions: for each of some functions a plain function, and the walk that shows that a call comes to what it says. No condition but those of each theorem. -/
import Derived.Test.YthmjhhkheohgfaaZXMakerOf0
import Derived.Test.YthmjhhkheohgfaaZXMakerOfa
namespace Go.Proofs.Ythmjhhkheohgfaa.Q
open Go.RowKit Go.Proofs.YthmjhhkheohgfaaW.PrintWords Go.Proofs.YthmjhhkheohgfaaW.PrintLast Go.Proofs.YthmjhhkheohgfaaW.PrintMore
attribute [local go_sem] max2_int min2_int max_two min_two max_three min_three max_four min_four   -- for this text's walks alone
set_option linter.unusedVariables false
set_option linter.unusedSimpArgs false
theorem qb0_ {P : Prop} (h : P := by repeat (first | (with_reducible first | exact HB.out | apply below_alloc | apply pw_below_drewN | apply below_drew1) | exact HB.out)) : P := h
theorem qb1_ {P : Prop} (h : P := by repeat (first | (with_reducible first | exact HB.out | apply below_alloc | apply pw_below_drewN | apply below_drew1 | refine below_set ?_ GE379.out) | exact HB.out)) : P := h
theorem qb2_ {P : Prop} (h : P := by repeat (first | (with_reducible first | exact HB.out | apply below_alloc | apply pw_below_drewN | apply below_drew1 | refine below_set ?_ GE379.out | refine below_set ?_ GE381.out) | exact HB.out)) : P := h
theorem qb3_ {P : Prop} (h : P := by first | rfl | (simp [errW_none, errW_some] <;> rfl) | (simp [*, errW_none, errW_some] <;> rfl)) : P := h
theorem qb4_ {P : Prop} (h : P := by (try simp only [List.map_toArray, List.map_cons, List.map_nil]); first | done | rfl | (simp only [List.length_drop, List.length_take]; rfl)) : P := h
theorem qb5_ {P : Prop} (h : P := by rw [hw]; exact (below_set (below_set (below_set (below_set (below_set BA.out (Nat.le_of_eq GA.out.symm)) (Nat.le_of_eq GA.out.symm)) (Nat.le_of_eq GA.out.symm)) (Nat.le_of_eq GA.out.symm)) (Nat.le_of_eq GA.out.symm))) : P := h
theorem qb6_ {P : Prop} (h : P := by repeat (first | (with_reducible first | exact HB.out | apply below_alloc | apply pw_below_drewN | apply below_drew1 | refine below_set ?_ GE374.out | refine below_set ?_ GE375.out) | exact HB.out)) : P := h
theorem qb7_ {P : Prop} (h : P := by repeat (first | (with_reducible first | exact HB.out | apply below_alloc | apply pw_below_drewN | apply below_drew1 | refine below_set ?_ GE374.out) | exact HB.out)) : P := h
theorem qb8_ {P : Prop} (h : P := by rw [hw]; exact (blk_put (blk_put (blk_put (blk_put (blk_put KA.out 0 _ rfl) 1 _ rfl) 2 _ rfl) 3 _ rfl) 4 _ rfl)) : P := h
theorem qb9_ {P : Prop} (h : P := by (with_reducible repeat (first | apply Kd.S_alloc | apply Kd.S_drewN | apply Kd.S_drew)); exact HO_3.out) : P := h
theorem qb10_ {P : Prop} (h : P := by first | rfl | (simp; done) | (simp [*]; done)) : P := h
theorem qb11_ {P : Prop} (h : P := by repeat (first | (with_reducible first | exact HK.out | apply Kept.alloc | apply Kept.drewN | apply Kept.drew | refine Kept.setCell ?_ (.inr GW389.out) _) | exact HK.out)) : P := h
theorem qb12_ {P : Prop} (h : P := by repeat (first | (with_reducible first | exact HB.out | apply below_alloc | apply pw_below_drewN | apply below_drew1 | refine below_set ?_ GE392.out) | exact HB.out)) : P := h
theorem qb13_ {P : Prop} (h : P := by intro q_ hq_; rw [List.mem_singleton.1 hq_]; rfl) : P := h
theorem qb14_ {P : Prop} (h : P := by rw [hw]; exact below_set HB.out GB.out) : P := h
theorem qbh0_ {P : Prop} (h : P := by repeat' first | (with_reducible exact ih0 _ _ _) | (with_reducible exact laws_toMaker.mono _ _ _ _ _ _) | (with_reducible exact LeO.refl _) | (with_reducible exact LeO.none _) | (with_reducible refine LeO.ite ?_ ?_) | (with_reducible refine LeO.bind ?_ (fun _ => ?_)) | exact ih0 _ _ _ | exact laws_toMaker.mono _ _ _ _ _ _ | exact LeO.none _ | refine LeO.ite ?_ ?_ | refine LeO.bind ?_ (fun _ => ?_)) : P := h
theorem qbh1_ {P : Prop} (h : P := by repeat' first | (with_reducible exact ih0 _ _ _ _ _) | (with_reducible exact LeO.refl _) | (with_reducible exact LeO.none _) | (with_reducible refine LeO.ite ?_ ?_) | (with_reducible refine LeO.bind ?_ (fun _ => ?_)) | exact ih0 _ _ _ _ _ | exact LeO.none _ | refine LeO.ite ?_ ?_ | refine LeO.bind ?_ (fun _ => ?_)) : P := h

/-! ### laws_toMakerS: function 17 -/
def laws_toMakerS.l0 : Nat → List (S_LMaker) → List (S_Maker) → Int → Option ((List (S_Maker)))
  | 0, _, _, _ => none
  | k + 1, x0, x3, x4 => if x4 < (x0.length : Int) then (if 0 ≤ x4 then ((laws_toMaker.f k ((rd_LMaker x0 x4).f0) ((rd_LMaker x0 x4).f1) ((rd_LMaker x0 x4).f2) ((rd_LMaker x0 x4).f3) ((rd_LMaker x0 x4).f4)).bind fun bt366 => (if x4 < (x3.length : Int) then (laws_toMakerS.l0 k x0 (x3.set (x4 : Int).toNat (⟨bt366.1, bt366.2.1, bt366.2.2.1, bt366.2.2.2.1, bt366.2.2.2.2⟩ : S_Maker)) (wrap64 (x4 + 1))) else (none))) else (none)) else (some x3)
def laws_toMakerS.f (k : Nat) (l0 : List (S_LMaker)) : Option ((List (S_Maker))) := if 0 ≤ (l0.length : Int) then (if ((l0.length : Int) : Int).toNat ≤ 5026338869833 then (laws_toMakerS.l0 k l0 (List.replicate ((l0.length : Int) : Int).toNat z_Maker) 0) else (none)) else (none)
theorem laws_toMakerS.mono_l : ∀ k, (∀ y0 y1 y2, LeO (laws_toMakerS.l0 k y0 y1 y2) (laws_toMakerS.l0 (k + 1) y0 y1 y2))
  | 0 => fun _ _ _ r h => by simp [laws_toMakerS.l0] at h
  | k + 1 => by
    have ih0 := laws_toMakerS.mono_l k
    · intro y0 y1 y2
      unfold laws_toMakerS.l0
      exact qbh0_
theorem laws_toMakerS.mono : ∀ a0 k, LeO (laws_toMakerS.f k a0) (laws_toMakerS.f (k + 1) a0) := by
  intro a0 k
  have ih0 := laws_toMakerS.mono_l k
  unfold laws_toMakerS.f
  exact qbh0_
set_option maxHeartbeats 8000000 in
set_option maxRecDepth 100000 in
theorem laws_toMakerS.calls (k : Nat) (A0 : Option Addr) (c0 : Nat) (l0 : List (S_LMaker)) (r : List (S_Maker)) (w : World) (hr0 : Kd.C k_LMaker w A0 l0.length l0) (hc0 : l0.length ≤ c0) (h : laws_toMakerS.f k l0 = some r) :
    Calls Try.prog 17 #[.slice A0 l0.length c0] w fun e w' => ∃ v0_ : Value, e = .returned (v0_) ∧ Kd.S k_Maker 38 w' w.heap.size (fun _ => True) v0_ r ∧ Below w.heap.size w w' := by
  have hu49 := Try.underlying49
  have hu38 := Try.underlying38
  have HR0 := Aside0.mk hr0
  have HC0 := Aside0.mk hc0
  clear hr0 hc0
  have HB := Aside0.mk (Below.refl w.heap.size w)
  have H : (if 0 ≤ (l0.length : Int) then (if ((l0.length : Int) : Int).toNat ≤ 5026338869833 then (laws_toMakerS.l0 k l0 (List.replicate ((l0.length : Int) : Int).toNat z_Maker) 0) else (none)) else (none)) = some r := h
  clear h
  by_cases c2 : 0 ≤ (l0.length : Int)
  · rw [if_pos c2] at H
    have c2b0 := eq_true c2
    have c2b1 : decide (0 ≤ (l0.length : Int)) = true := decide_eq_true c2
    clear c2
    by_cases c3 : ((l0.length : Int) : Int).toNat ≤ 5026338869833
    · rw [if_pos c3] at H
      have c3b0 := eq_true c3
      have c3b1 : decide (((l0.length : Int) : Int).toNat ≤ 5026338869833) = true := decide_eq_true c3
      clear c3
      obtain ⟨y362, hy362⟩ : ∃ y_ : List (S_Maker), y_ = (List.replicate ((l0.length : Int) : Int).toNat z_Maker) := ⟨_, rfl⟩
      replace H : (laws_toMakerS.l0 k l0 y362 0) = some r := by first | (rw [hy362]; with_reducible exact H) | (have H2_ := (Option.bind_some _ _).symm.trans H; rw [hy362]; with_reducible exact H2_) | (have H2_ := (Option.bind_some _ _).symm.trans H; with_reducible exact H2_) | with_reducible exact H | (rw [hy362]; exact H) | exact H
      have Ny362 := Aside0.mk hy362
      clear hy362
      have H' := Aside0.mk H
      clear H
      go_enter Try.func17, Try.ntmps17
      go_wp2_with (first | ((with_reducible refine gate_dst (N := 7) rfl ?_); refine Kd.S_make k_Maker _ 38 rfl (N := 7) rfl 40 _ _ rfl (l0.length : Int) rfl rfl Try.underlying40 (.agg #[(.int .i64 0), (.int .i64 0), (.int .i64 0), (.int .i64 0), (.slice none 0 0)]) 56 info38 rfl (by decide) (by omega) z_Maker (ok := fun _ => True) (okp := fun _ => True) (k_Maker_mkM _ _ _ z_Maker (Kd.R_nil _ _ _ _ _)) (fun _ hk => hk) trivial (of_decide_eq_true dt_) (Nat.le_trans (Nat.mul_le_mul_right _ (of_decide_eq_true dt_ : (l0.length : Int).toNat ≤ 5026338869833)) (by omega)) (Below.refl _ _) (Nat.le_refl _) ?_; intro v363 w4 ho5 hb hg_ hnew_; clear hg_ hnew_; (first | rw [← Ny362.out] at ho5 | (simp only [Int.reduceToNat] at ho5; rw [← Ny362.out] at ho5)); have HO364 := Aside0.mk (Kd.S_lower ho5 (below_size (qb0_))); replace HB := Aside0.mk (below_step (qb0_) hb); clear hb ho5))
      go_loopg [4] k (fun kq v4 w' => ∃ (x3_1 : List (S_Maker)) (x4_1 : Int), v4 = .int .i64 x4_1 ∧ Aside0 (laws_toMakerS.l0 kq l0 x3_1 x4_1 = some r) ∧ Aside0 (kq ≤ k) ∧ Aside0 (Kd.S k_Maker 38 w' w.heap.size (fun _ => True) v363 x3_1) ∧ Aside0 (Below w.heap.size w w'))
      case atStart => exact ⟨(y362), (0), (qb10_), H', ⟨Nat.le_refl _⟩, ⟨by (with_reducible repeat (first | apply Kd.S_alloc | apply Kd.S_drewN | apply Kd.S_drew)); exact HO364.out⟩, ⟨qb0_⟩⟩
      case round =>
        clear H'
        try clear c1
        try clear c2
        try clear c2b0
        try clear c2b1
        try clear p2
        try clear c3
        try clear c3b0
        try clear c3b1
        obtain ⟨x3_1, x4_1, rfl, HA, HK1, HO_3, HB⟩ := hrel
        cases gk with
        | zero => exact absurd HA.out (by simp [laws_toMakerS.l0])
        | succ k1 =>
          have H := HA.out
          clear HA
          simp only [laws_toMakerS.l0] at H
          by_cases c6 : x4_1 < (l0.length : Int)
          · rw [if_pos c6] at H
            have c6b0 : decide (x4_1 < (l0.length : Int)) = true := decide_eq_true c6
            clear c6
            by_cases c7 : 0 ≤ x4_1
            · rw [if_pos c7] at H
              have c7b0 : decide (0 ≤ x4_1) = true := decide_eq_true c7
              clear c7
              replace H := Option.bind_eq_some_iff.mp H
              obtain ⟨⟨t366, t367, t368, t369, t370⟩, A80, H⟩ := H
              replace H : (if x4_1 < (x3_1.length : Int) then (laws_toMakerS.l0 k1 l0 (x3_1.set (x4_1 : Int).toNat (⟨t366, t367, t368, t369, t370⟩ : S_Maker)) (wrap64 (x4_1 + 1))) else (none)) = some r := H
              have A8 := Aside0.mk A80
              clear A80
              by_cases c9 : x4_1 < (x3_1.length : Int)
              · rw [if_pos c9] at H
                have c9b0 : decide (x4_1 < (x3_1.length : Int)) = true := decide_eq_true c9
                clear c9
                obtain ⟨y373, hy373⟩ : ∃ y_ : List (S_Maker), y_ = (x3_1.set (x4_1 : Int).toNat (⟨t366, t367, t368, t369, t370⟩ : S_Maker)) := ⟨_, rfl⟩
                replace H : (laws_toMakerS.l0 k1 l0 y373 (wrap64 (x4_1 + 1))) = some r := by first | (rw [hy373]; with_reducible exact H) | (have H2_ := (Option.bind_some _ _).symm.trans H; rw [hy373]; with_reducible exact H2_) | (have H2_ := (Option.bind_some _ _).symm.trans H; with_reducible exact H2_) | with_reducible exact H | (rw [hy373]; exact H) | exact H
                have Ny373 := Aside0.mk hy373
                clear hy373
                have H' := Aside0.mk H
                clear H
                have p365 : 0 ≤ (x4_1 : Int) := of_decide_eq_true dt_
                have q365 : x4_1 < (l0.length : Int) := of_decide_eq_true dt_
                obtain ⟨ad365, A365_4, c365_4, e365, hx365_0, hx365_1, hx365_2, hx365_3, hx365_4, hl365_4, hi365_4⟩ := at_LMaker HR0.out x4_1 p365 q365
                cases e365
                replace hx365_0 := hc_ HB hx365_0
                replace hx365_1 := hc_ HB hx365_1
                replace hx365_2 := hc_ HB hx365_2
                replace hx365_3 := hc_ HB hx365_3
                replace hx365_4 := hc_ HB hx365_4
                have HR365_4 := Aside0.mk hi365_4
                have HC365_4 := Aside0.mk hl365_4
                clear hi365_4 hl365_4
                replace p365 := eq_true p365
                replace q365 := eq_true q365
                go_wp2_with (first | ((with_reducible refine gate_callee (f := 26) rfl ?_); refine goesL_ (some 20) rfl rfl Try.func26 (by kernel_rfl) rfl #[.agg #[.int .i64 ((rd_LMaker l0 x4_1).f0), .int .i64 ((rd_LMaker l0 x4_1).f1), .int .i64 ((rd_LMaker l0 x4_1).f2), .int .i64 ((rd_LMaker l0 x4_1).f3), .slice A365_4 ((rd_LMaker l0 x4_1).f4).length c365_4]] rfl (qb4_) ?_; (with_reducible refine (laws_toMaker.calls k1 ((rd_LMaker l0 x4_1).f0) ((rd_LMaker l0 x4_1).f1) ((rd_LMaker l0 x4_1).f2) ((rd_LMaker l0 x4_1).f3) _ _ ((rd_LMaker l0 x4_1).f4) t366 t367 t368 t369 t370 _ ?side1 ?side2 A8.out).mono ?_); (case side1 => repeat (first | exact (Kd.C_below HR365_4.out HB.out) | (with_reducible refine Kd.C_alloc ?_ _) | (with_reducible refine Kd.C_drewN ?_ _) | (with_reducible refine Kd.C_drew ?_))); (case side2 => exact HC365_4.out); rintro e w11 ⟨v371, rfl, ho0, hb⟩; refine ⟨_, rfl, ?_⟩; have HO372 := Aside0.mk (Kd.R_lower ho0 (below_size (qb0_))); replace HO_3 := Aside0.mk (Kd.S_elder' (qb9_) (Kd.R_base ho0) hb); replace HB := Aside0.mk (below_step (qb0_) hb); (try clear hb); (try clear hb2); (try clear hk); (try clear hi); (try clear ho0); have p10 : 0 ≤ (x4_1 : Int) := of_decide_eq_true dt_; have q10 : (x4_1 : Int) < ((x3_1.length : Int) : Int) := of_decide_eq_true dt_; obtain ⟨go10, co10, eo10, gb10, gl10, cl10, HG10⟩ := Kd.S_form HO_3.out (by omega); (first | cases eo10 | (injection eo10 with ea_ en_ ec_; (first | subst ea_ | (injection ea_ with ea_; subst ea_)); subst ec_; clear en_)); have GB10 := Aside0.mk gb10; have GG10 := Aside0.mk HG10; clear gb10 gl10 HG10; obtain ⟨_, ce10, hcl10, hM10, hcc10, hfr10, _, _⟩ := Kd.S_elem HO_3.out z_Maker (x4_1 : Int) p10 q10; obtain ⟨ve10_4, rfl, ge10_4⟩ := k_Maker_openM hM10; have hx10_0 : w11.cell? ⟨go10, (x4_1 : Int).toNat * 5, none⟩ = some (.int .i64 ((rd_Maker x3_1 x4_1).f0)) := hcc10 0 _ rfl; have hx10_1 : w11.cell? ⟨go10, (x4_1 : Int).toNat * 5 + 1, none⟩ = some (.int .i64 ((rd_Maker x3_1 x4_1).f1)) := hcc10 1 _ rfl; have hx10_2 : w11.cell? ⟨go10, (x4_1 : Int).toNat * 5 + 2, none⟩ = some (.int .i64 ((rd_Maker x3_1 x4_1).f2)) := hcc10 2 _ rfl; have hx10_3 : w11.cell? ⟨go10, (x4_1 : Int).toNat * 5 + 3, none⟩ = some (.int .i64 ((rd_Maker x3_1 x4_1).f3)) := hcc10 3 _ rfl; have hx10_4 : w11.cell? ⟨go10, (x4_1 : Int).toNat * 5 + 4, none⟩ = some (ve10_4) := hcc10 4 _ rfl; have hf10_0 : w11.frozen? ⟨go10, (x4_1 : Int).toNat * 5, none⟩ = false := hfr10 0; have hf10_1 : w11.frozen? ⟨go10, (x4_1 : Int).toNat * 5 + 1, none⟩ = false := hfr10 1; have hf10_2 : w11.frozen? ⟨go10, (x4_1 : Int).toNat * 5 + 2, none⟩ = false := hfr10 2; have hf10_3 : w11.frozen? ⟨go10, (x4_1 : Int).toNat * 5 + 3, none⟩ = false := hfr10 3; have hf10_4 : w11.frozen? ⟨go10, (x4_1 : Int).toNat * 5 + 4, none⟩ = false := hfr10 4; clear hcl10 hcc10 hfr10 hM10; replace p10 := eq_true p10; replace q10 := eq_true q10; obtain ⟨Ao14, co14, eo14⟩ := Kd.R_slice HO372.out; subst eo14; have n_ := Aside0.mk (Kd.S_mono (ok' := (fun k_ => some k_ ≠ (.slice Ao14 t370.length co14 : Value).ownBlock)) HO_3.out (fun k_ hk => hk.2)); clear HO_3; have HO_3 := n_; clear n_; have HX12 := Aside0.mk (show Kd.S k_Maker 38 w11 w.heap.size (fun k_ => ((fun _ => True)) k_ ∧ ¬ ((fun k_ => some k_ = (.slice Ao14 t370.length co14 : Value).ownBlock)) k_) (.slice (some ⟨go10, 0, none⟩) x3_1.length co10) x3_1 from (by (with_reducible repeat (first | apply Kd.S_alloc | apply Kd.S_drewN | apply Kd.S_drew)); exact Kd.S_mono HO_3.out (fun k_ hk => ⟨trivial, fun e_ => hk e_⟩))); obtain ⟨oki12, ce12, hcl12, hM12, hcc12, hfr12, hoki12, hH12⟩ := Kd.S_elem HX12.out z_Maker (x4_1 : Int) (of_decide_eq_true dt_) (by have h_ : (x4_1 : Int) < ((x3_1.length : Int) : Int) := of_decide_eq_true dt_; first | exact h_ | (have e_ := (Kd.S_reads' HO_3.out).1; omega) | simpa using h_); obtain ⟨ve12_4, rfl, ge12_4⟩ := k_Maker_openM hM12; have HP12 := Kd.S_seg hH12 (of_decide_eq_true dt_) (by have h_ : (x4_1 : Int) < ((x3_1.length : Int) : Int) := of_decide_eq_true dt_; first | exact h_ | (have e_ := (Kd.S_reads' HO_3.out).1; omega) | simpa using h_) (seg := [.int .i64 t366, .int .i64 t367, .int .i64 t368, .int .i64 t369, .slice Ao14 t370.length co14]) (j := 0) (show 5 ≤ 5 from by decide) (x' := (⟨t366, t367, t368, t369, t370⟩ : S_Maker)) (k_Maker_mkM _ _ _ (⟨t366, t367, t368, t369, t370⟩ : S_Maker) (Kd.R_mono (Kd.R_tight rfl (Kd.R_mono (ok' := fun k_ => ((fun _ => True)) k_ ∧ k_ ≠ go10) (Kd.R_apart' (HO372.out) (Kd.S_typed HO_3.out) (by decide)) (fun k_ hk => ⟨trivial, fun e_ => (hk.2) (by rw [e_]; rfl)⟩))) (fun _ h_ => Or.inr (h_)))) (fun _ hk => hk) (fun k_ hk_ => ((Kd.R_mono (ok' := fun k_ => ((fun _ => True)) k_ ∧ k_ ≠ go10) (Kd.R_apart' (HO372.out) (Kd.S_typed HO_3.out) (by decide)) (fun k_ hk => ⟨trivial, fun e_ => (hk.2) (by rw [e_]; rfl)⟩))).1 k_ hk_.symm); have hx12_0 := hcc12 0 _ rfl; (try simp only [show (k_Maker).sz = 5 from rfl, Nat.mul_one, Nat.add_zero] at hx12_0); have hf12_0 := hfr12 0; (try simp only [show (k_Maker).sz = 5 from rfl, Nat.mul_one, Nat.add_zero] at hf12_0); have hx12_1 := hcc12 1 _ rfl; (try simp only [show (k_Maker).sz = 5 from rfl, Nat.mul_one, Nat.add_zero] at hx12_1); have hf12_1 := hfr12 1; (try simp only [show (k_Maker).sz = 5 from rfl, Nat.mul_one, Nat.add_zero] at hf12_1); have hx12_2 := hcc12 2 _ rfl; (try simp only [show (k_Maker).sz = 5 from rfl, Nat.mul_one, Nat.add_zero] at hx12_2); have hf12_2 := hfr12 2; (try simp only [show (k_Maker).sz = 5 from rfl, Nat.mul_one, Nat.add_zero] at hf12_2); have hx12_3 := hcc12 3 _ rfl; (try simp only [show (k_Maker).sz = 5 from rfl, Nat.mul_one, Nat.add_zero] at hx12_3); have hf12_3 := hfr12 3; (try simp only [show (k_Maker).sz = 5 from rfl, Nat.mul_one, Nat.add_zero] at hf12_3); have hx12_4 := hcc12 4 _ rfl; (try simp only [show (k_Maker).sz = 5 from rfl, Nat.mul_one, Nat.add_zero] at hx12_4); have hf12_4 := hfr12 4; (try simp only [show (k_Maker).sz = 5 from rfl, Nat.mul_one, Nat.add_zero] at hf12_4); clear hcl12 hcc12 hfr12 hM12 hoki12 hH12) | ((with_reducible refine gate_store (t := 38) (p := 21) rfl ?_); refine store_event (t := 38) (p := 21) (v := ?vo_w13) (w1 := (((((w11.setCell ⟨go10, (x4_1 : Int).toNat * 5, none⟩ (.int .i64 t366)).setCell ⟨go10, (x4_1 : Int).toNat * 5 + 1, none⟩ (.int .i64 t367)).setCell ⟨go10, (x4_1 : Int).toNat * 5 + 2, none⟩ (.int .i64 t368)).setCell ⟨go10, (x4_1 : Int).toNat * 5 + 3, none⟩ (.int .i64 t369)).setCell ⟨go10, (x4_1 : Int).toNat * 5 + 4, none⟩ (.slice Ao14 t370.length co14))) ?hg ?ho ?hn ?hr ?_; (case ho => rfl); (case hg => rfl); (case hn => rfl); (case hr => first | (go_simp; done) | (go_simp; rfl)); intro w13 hw; have hg : w11.grownBy w13 (some go10) := (by rw [hw]; exact HP12.2); have hp_ : Kd.S k_Maker 38 w13 w.heap.size (fun _ => True) (.slice (some ⟨go10, 0, none⟩) x3_1.length co10) y373 := (by rw [hw, Ny373.out]; exact HP12.1); clear HP12; replace HO_3 := Aside0.mk (hp_); replace HB := Aside0.mk ((by rw [hw]; exact below_set (below_set (below_set (below_set (below_set (HB.out) GB10.out) GB10.out) GB10.out) GB10.out) GB10.out : Below w.heap.size w w13)); clear HO372; clear hg hw hp_))
                go_roundg k1
                case measure => have := HK1.out; omega
                case rel => exact ⟨(y373), (wrap64 (x4_1 + 1)), (qb10_), H', ⟨by have := HK1.out; omega⟩, ⟨qb9_⟩, ⟨qb0_⟩⟩
              · rw [if_neg c9] at H
                exact absurd H (by simp)
            · rw [if_neg c7] at H
              exact absurd H (by simp)
          · rw [if_neg c6] at H
            have c6b0 : decide (x4_1 < (l0.length : Int)) = false := decide_eq_false c6
            clear c6
            obtain rfl := Option.some.inj H
            go_wp2
            go_ret
            exact ⟨_, qb3_, qb9_, qb0_⟩
    · rw [if_neg c3] at H
      exact absurd H (by simp)
  · rw [if_neg c2] at H
    exact absurd H (by simp)
/-! ### impl_copyMaker: function 61 -/
def impl_copyMaker.f (a0_0 : Int) (a0_1 : Int) (a0_2 : Int) (a0_3 : Int) (l0_4 : List (S_Mark)) : Option (Int × Int × Int × Int × (List (S_Mark))) := if ([] : List (S_Mark)).length + l0_4.length < 8796093022208 then (some (a0_0, a0_1, a0_2, a0_3, (([] : List (S_Mark)) ++ l0_4))) else (none)
set_option maxHeartbeats 8000000 in
set_option maxRecDepth 100000 in
theorem impl_copyMaker.calls (a0_0 : Int) (a0_1 : Int) (a0_2 : Int) (a0_3 : Int) (A0_4 : Option Addr) (c0_4 : Nat) (l0_4 : List (S_Mark)) (r1 : Int) (r2 : Int) (r3 : Int) (r4 : Int) (r5 : List (S_Mark)) (w : World) (hr0_4 : Kd.C k_Mark w A0_4 l0_4.length l0_4) (hc0_4 : l0_4.length ≤ c0_4) (h : impl_copyMaker.f a0_0 a0_1 a0_2 a0_3 l0_4 = some (r1, r2, r3, r4, r5)) :
    Calls Try.prog 61 #[.agg #[.int .i64 a0_0, .int .i64 a0_1, .int .i64 a0_2, .int .i64 a0_3, .slice A0_4 l0_4.length c0_4]] w fun e w' => ∃ v4_ : Value, e = .returned (.agg #[.int .i64 r1, .int .i64 r2, .int .i64 r3, .int .i64 r4, v4_]) ∧ Kd.R k_Mark 110 w' w.heap.size (fun _ => True) v4_ r5 ∧ Below w.heap.size w w' := by
  have hu38 := Try.underlying38
  have HR0_4 := Aside0.mk hr0_4
  have HC0_4 := Aside0.mk hc0_4
  clear hr0_4 hc0_4
  have HB := Aside0.mk (Below.refl w.heap.size w)
  have H : (if ([] : List (S_Mark)).length + l0_4.length < 8796093022208 then (some (a0_0, a0_1, a0_2, a0_3, (([] : List (S_Mark)) ++ l0_4))) else (none)) = some (r1, r2, r3, r4, r5) := h
  clear h
  by_cases c2 : ([] : List (S_Mark)).length + l0_4.length < 8796093022208
  · rw [if_pos c2] at H
    have LMc2 := Aside0.mk c2
    clear c2
    obtain ⟨y376, hy376⟩ : ∃ y_ : List (S_Mark), y_ = (([] : List (S_Mark)) ++ l0_4) := ⟨_, rfl⟩
    replace H : (some (a0_0, a0_1, a0_2, a0_3, y376)) = some (r1, r2, r3, r4, r5) := by first | (rw [hy376]; with_reducible exact H) | (have H2_ := (Option.bind_some _ _).symm.trans H; rw [hy376]; with_reducible exact H2_) | (have H2_ := (Option.bind_some _ _).symm.trans H; with_reducible exact H2_) | with_reducible exact H | (rw [hy376]; exact H) | exact H
    have Ny376 := Aside0.mk hy376
    clear hy376
    simp only [Option.some.injEq, Prod.mk.injEq] at H
    obtain ⟨rfl, rfl, rfl, rfl, rfl⟩ := H
    go_enter Try.func61, Try.ntmps61
    go_wp2_with (first | ((with_reducible refine gate_dst (N := 1) rfl ?_); refine box_event ?hg (N := 1) ?hd (cs := #[.int .i64 a0_0, .int .i64 a0_1, .int .i64 a0_2, .int .i64 a0_3, .slice A0_4 l0_4.length c0_4]) (t := 38) ?hr ?_; (case hd => rfl); (case hg => rfl); (case hr => first | (go_simp; done) | (go_simp; rfl)); intro gb374 hg w3 hbox hb; have BK374 := Aside0.mk (hbox); have GW374 := Aside0.mk ((by rw [hg]; exact (below_size (qb0_)) : w.heap.size ≤ gb374)); have GE374 := Aside0.mk ((by rw [hg]; exact (below_size (qb0_)) : w.heap.size ≤ gb374)); replace HB := Aside0.mk (below_step (qb0_) hb); clear hb hbox hg) | ((with_reducible refine gate_dst (N := 2) rfl ?_); refine box_event ?hg (N := 2) ?hd (cs := #[.int .i64 0, .int .i64 0, .int .i64 0, .int .i64 0, .slice none 0 0]) (t := 38) ?hr ?_; (case hd => rfl); (case hg => rfl); (case hr => first | (go_simp; done) | (go_simp; rfl)); intro gb375 hg w4 hbox hb; have BK375 := Aside0.mk (hbox); have GW375 := Aside0.mk ((by rw [hg]; exact (below_size (qb7_)) : w.heap.size ≤ gb375)); have GE375 := Aside0.mk ((by rw [hg]; exact (below_size (qb7_)) : w.heap.size ≤ gb375)); have NB374_375 := Aside0.mk ((by rw [hg]; exact Nat.ne_of_lt (blk_lt (g := gb374) (o := .cells #[.int .i64 a0_0, .int .i64 a0_1, .int .i64 a0_2, .int .i64 a0_3, .slice A0_4 l0_4.length c0_4] 38 (0, 0)) (bq_ BK374.out)) : gb374 ≠ gb375)); have NB375_374 := Aside0.mk ((by rw [hg]; exact Nat.ne_of_gt (blk_lt (g := gb374) (o := .cells #[.int .i64 a0_0, .int .i64 a0_1, .int .i64 a0_2, .int .i64 a0_3, .slice A0_4 l0_4.length c0_4] 38 (0, 0)) (bq_ BK374.out)) : gb375 ≠ gb374)); replace BK374 := Aside0.mk (blk_below (g := gb374) (o := .cells #[.int .i64 a0_0, .int .i64 a0_1, .int .i64 a0_2, .int .i64 a0_3, .slice A0_4 l0_4.length c0_4] 38 (0, 0)) (bq_ BK374.out) hb); replace HB := Aside0.mk (below_step (qb7_) hb); clear hb hbox hg; have hnb5 := NB374_375.out; have hnc5 := NB375_374.out; have hcz6_0 : w4.cell? ⟨gb374, 0, none⟩ = some (.int .i64 a0_0) := bc_ BK374 0; have hcz6_1 : w4.cell? ⟨gb374, 1, none⟩ = some (.int .i64 a0_1) := bc_ BK374 1; have hcz6_2 : w4.cell? ⟨gb374, 2, none⟩ = some (.int .i64 a0_2) := bc_ BK374 2; have hcz6_3 : w4.cell? ⟨gb374, 3, none⟩ = some (.int .i64 a0_3) := bc_ BK374 3; have hcz6_4 : w4.cell? ⟨gb374, 4, none⟩ = some (.slice A0_4 l0_4.length c0_4) := bc_ BK374 4; have hfz6_0 := blk_frozen BK374.out 0; have hfz6_1 := blk_frozen BK374.out 1; have hfz6_2 := blk_frozen BK374.out 2; have hfz6_3 := blk_frozen BK374.out 3; have hfz6_4 := blk_frozen BK374.out 4) | ((with_reducible refine gate_builtin (b := .append) (xs := #[.const (.slice none 0 0), .tmp 4]) rfl ?_); at_builtin; refine Kd.R_append_rows k_Mark (w0 := w) w.heap.size rfl (.const (.slice none 0 0)) (.tmp 4) 36 110 (.agg #[(.int .i64 0), (.int .i64 0)]) 16 rfl Try.underlying36 info110 rfl (by decide) (by omega) (.slice none 0 0) ([] : List (S_Mark)) l0_4 _ _ _ (fun _ => True) (fun _ => False) rfl rfl ?aO ?aR (fun _ _ h => h) (fun _ h => h.elim) ?aF ?aB ?aS ?aL ?_; (case aR => repeat (first | exact (Kd.C_below HR0_4.out HB.out) | (with_reducible refine Kd.C_alloc ?_ _) | (with_reducible refine Kd.C_drewN ?_ _) | (with_reducible refine Kd.C_drew ?_))); (case aB => exact (qb6_)); (case aF => exact (fun _ _ => trivial)); (case aO => exact ((Kd.R_nil _ _ _ _ (fun _ => True)))); (case aS => exact (below_size (qb6_))); (case aL => have := LMc2.out; omega); intro v377 w7 ho hb hg hat; rw [← Ny376.out] at ho; have HO378 := Aside0.mk (ho); replace BK374 := Aside0.mk (blk_grown (g := gb374) (o := .cells #[.int .i64 a0_0, .int .i64 a0_1, .int .i64 a0_2, .int .i64 a0_3, .slice A0_4 l0_4.length c0_4] 38 (0, 0)) (bq_ BK374.out) hg (by simp [Value.ownBlock])); replace BK375 := Aside0.mk (blk_grown (g := gb375) (o := .cells #[.int .i64 0, .int .i64 0, .int .i64 0, .int .i64 0, .slice none 0 0] 38 (0, 0)) (bq_ BK375.out) hg (by simp [Value.ownBlock])); replace HB := Aside0.mk (hb); clear ho hb hg hat; obtain ⟨Ao8, co8, eo8⟩ := Kd.R_slice HO378.out; subst eo8; have hcz9_0 : w7.cell? ⟨gb374, 0, none⟩ = some (.int .i64 a0_0) := bc_ BK374 0; have hcz9_1 : w7.cell? ⟨gb374, 1, none⟩ = some (.int .i64 a0_1) := bc_ BK374 1; have hcz9_2 : w7.cell? ⟨gb374, 2, none⟩ = some (.int .i64 a0_2) := bc_ BK374 2; have hcz9_3 : w7.cell? ⟨gb374, 3, none⟩ = some (.int .i64 a0_3) := bc_ BK374 3; have hcz9_4 : w7.cell? ⟨gb374, 4, none⟩ = some (.slice A0_4 l0_4.length c0_4) := bc_ BK374 4; have hfz9_0 := blk_frozen BK374.out 0; have hfz9_1 := blk_frozen BK374.out 1; have hfz9_2 := blk_frozen BK374.out 2; have hfz9_3 := blk_frozen BK374.out 3; have hfz9_4 := blk_frozen BK374.out 4; have hcz10_0 : w7.cell? ⟨gb375, 0, none⟩ = some (.int .i64 0) := bc_ BK375 0; have hcz10_1 : w7.cell? ⟨gb375, 1, none⟩ = some (.int .i64 0) := bc_ BK375 1; have hcz10_2 : w7.cell? ⟨gb375, 2, none⟩ = some (.int .i64 0) := bc_ BK375 2; have hcz10_3 : w7.cell? ⟨gb375, 3, none⟩ = some (.int .i64 0) := bc_ BK375 3; have hcz10_4 : w7.cell? ⟨gb375, 4, none⟩ = some (.slice none 0 0) := bc_ BK375 4; have hfz10_0 := blk_frozen BK375.out 0; have hfz10_1 := blk_frozen BK375.out 1; have hfz10_2 := blk_frozen BK375.out 2; have hfz10_3 := blk_frozen BK375.out 3; have hfz10_4 := blk_frozen BK375.out 4))
    refine bodyPost_ret (results_cell_row rfl _ _ gb375 38 #[.int .i64 a0_0, .int .i64 a0_1, .int .i64 a0_2, .int .i64 a0_3, .slice Ao8 y376.length co8] (0, 0) _ rfl (by_ BK375.out) Try.underlying38 rfl (by kernel_rfl)) rfl ?_
    exact ⟨_, qb3_, by (with_reducible repeat (first | apply Kd.R_alloc | apply Kd.R_drewN | apply Kd.R_drew)); exact Kd.R_mono (Kd.R_far (p := ⟨gb375, 4, none⟩) (Kd.R_far (p := ⟨gb375, 3, none⟩) (Kd.R_far (p := ⟨gb375, 2, none⟩) (Kd.R_far (p := ⟨gb375, 1, none⟩) (Kd.R_far (p := ⟨gb375, 0, none⟩) (Kd.R_far (p := ⟨gb374, 4, none⟩) (Kd.R_types (Kd.R_types HO378.out BK374.out (by decide)) BK375.out (by decide)) (fun _ hk => hk.1.2) (.slice Ao8 y376.length co8)) (fun _ hk => hk.2) (.int .i64 a0_0)) (fun _ hk => hk.2) (.int .i64 a0_1)) (fun _ hk => hk.2) (.int .i64 a0_2)) (fun _ hk => hk.2) (.int .i64 a0_3)) (fun _ hk => hk.2) (.slice Ao8 y376.length co8)) (fun _ hk => trivial), qb6_⟩
  · rw [if_neg c2] at H
    exact absurd H (by simp)

/-! ### impl_MakerOf: function 18 -/
def impl_MakerOf.l0 : Nat → Int → Int → List (S_Maker) → Int → Int → Option (Int × Int × Int × Int × (List (S_Mark)))
  | 0, _, _, _, _, _ => none
  | k + 1, x1, x2, x9, x10, x11 => if x11 < x10 then (if 0 ≤ x11 then (if x11 < (x9.length : Int) then (if ((rd_Maker x9 x11).f0) = x1 then (if ((rd_Maker x9 x11).f1) = x2 then ((impl_copyMaker.f ((rd_Maker x9 x11).f0) ((rd_Maker x9 x11).f1) ((rd_Maker x9 x11).f2) ((rd_Maker x9 x11).f3) ((rd_Maker x9 x11).f4)).bind fun bt382 => (some (bt382.1, bt382.2.1, bt382.2.2.1, bt382.2.2.2.1, bt382.2.2.2.2))) else (impl_MakerOf.l0 k x1 x2 x9 x10 (wrap64 (x11 + 1)))) else (impl_MakerOf.l0 k x1 x2 x9 x10 (wrap64 (x11 + 1)))) else (none)) else (none)) else (some (x1, x2, 0, (-1), ([] : List (S_Mark))))
def impl_MakerOf.f (k : Nat) (l0 : List (S_Maker)) (a1 : Int) (a2 : Int) : Option (Int × Int × Int × Int × (List (S_Mark))) := impl_MakerOf.l0 k a1 a2 l0 (l0.length : Int) 0
theorem impl_MakerOf.mono_l : ∀ k, (∀ y0 y1 y2 y3 y4, LeO (impl_MakerOf.l0 k y0 y1 y2 y3 y4) (impl_MakerOf.l0 (k + 1) y0 y1 y2 y3 y4))
  | 0 => fun _ _ _ _ _ r h => by simp [impl_MakerOf.l0] at h
  | k + 1 => by
    have ih0 := impl_MakerOf.mono_l k
    · intro y0 y1 y2 y3 y4
      unfold impl_MakerOf.l0
      exact qbh1_
theorem impl_MakerOf.mono : ∀ a0 a1 a2 k, LeO (impl_MakerOf.f k a0 a1 a2) (impl_MakerOf.f (k + 1) a0 a1 a2) := by
  intro a0 a1 a2 k
  have ih0 := impl_MakerOf.mono_l k
  unfold impl_MakerOf.f
  exact qbh1_
set_option maxHeartbeats 8000000 in
set_option maxRecDepth 100000 in
theorem impl_MakerOf.calls (k : Nat) (A0 : Option Addr) (c0 : Nat) (l0 : List (S_Maker)) (a1 : Int) (a2 : Int) (r1 : Int) (r2 : Int) (r3 : Int) (r4 : Int) (r5 : List (S_Mark)) (w : World) (hr0 : Kd.C k_Maker w A0 l0.length l0) (hc0 : l0.length ≤ c0) (h : impl_MakerOf.f k l0 a1 a2 = some (r1, r2, r3, r4, r5)) :
    Calls Try.prog 18 #[.slice A0 l0.length c0, .int .i64 a1, .int .i64 a2] w fun e w' => ∃ v4_ : Value, e = .returned (.agg #[.int .i64 r1, .int .i64 r2, .int .i64 r3, .int .i64 r4, v4_]) ∧ Kd.R k_Mark 110 w' w.heap.size (fun _ => True) v4_ r5 ∧ Below w.heap.size w w' := by
  have hu38 := Try.underlying38
  have HR0 := Aside0.mk hr0
  have HC0 := Aside0.mk hc0
  clear hr0 hc0
  have HB := Aside0.mk (Below.refl w.heap.size w)
  have H : (impl_MakerOf.l0 k a1 a2 l0 (l0.length : Int) 0) = some (r1, r2, r3, r4, r5) := h
  clear h
  have H' := Aside0.mk H
  clear H
  go_enter Try.func18, Try.ntmps18
  go_wp2_with (first | ((with_reducible refine gate_dst (N := 6) rfl ?_); refine box_event ?hg (N := 6) ?hd (cs := #[.int .i64 0, .int .i64 0, .int .i64 0, .int .i64 0, .slice none 0 0]) (t := 38) ?hr ?_; (case hd => rfl); (case hg => rfl); (case hr => first | (go_simp; done) | (go_simp; rfl)); intro gb379 hg w4 hbox hb; have BK379 := Aside0.mk (hbox); have GW379 := Aside0.mk ((by rw [hg]; exact (below_size (qb0_)) : w.heap.size ≤ gb379)); have GE379 := Aside0.mk ((by rw [hg]; exact (below_size (qb0_)) : w.heap.size ≤ gb379)); replace HB := Aside0.mk (below_step (qb0_) hb); clear hb hbox hg))
  go_loopg [11] k (fun kq v11 w' => ∃ (x11_1 : Int) (x380000_1 : Int) (x380001_1 : Int) (x380002_1 : Int) (x380003_1 : Int), v11 = .int .i64 x11_1 ∧ Aside0 (impl_MakerOf.l0 kq a1 a2 l0 (l0.length : Int) x11_1 = some (r1, r2, r3, r4, r5)) ∧ Aside0 (kq ≤ k) ∧ Aside0 (w'.heap[gb379]? = some (.cells #[.int .i64 x380000_1, .int .i64 x380001_1, .int .i64 x380002_1, .int .i64 x380003_1, (.slice none 0 0)] 38 (0, 0))) ∧ Aside0 (Below w.heap.size w w'))
  case atStart => exact ⟨(0), (0), (0), (0), (0), (qb10_), H', ⟨Nat.le_refl _⟩, ⟨bq_ BK379.out⟩, ⟨qb1_⟩⟩
  case round =>
    clear H'
    try clear c1
    try clear p2
    obtain ⟨x11_1, x380000_1, x380001_1, x380002_1, x380003_1, rfl, HA, HK1, BK379, HB⟩ := hrel
    cases gk with
    | zero => exact absurd HA.out (by simp [impl_MakerOf.l0])
    | succ k1 =>
      have H := HA.out
      clear HA
      simp only [impl_MakerOf.l0] at H
      by_cases c5 : x11_1 < (l0.length : Int)
      · rw [if_pos c5] at H
        have c5b0 : decide (x11_1 < (l0.length : Int)) = true := decide_eq_true c5
        clear c5
        by_cases c6 : 0 ≤ x11_1
        · rw [if_pos c6] at H
          have c6b0 : decide (0 ≤ x11_1) = true := decide_eq_true c6
          clear c6
          by_cases c7 : x11_1 < (l0.length : Int)
          · rw [if_pos c7] at H
            have c7b0 : decide (x11_1 < (l0.length : Int)) = true := decide_eq_true c7
            clear c7
            by_cases c8 : ((rd_Maker l0 x11_1).f0) = a1
            · rw [if_pos c8] at H
              have c8b0 : (((rd_Maker l0 x11_1).f0) == a1) = true := beq_iff_eq.mpr c8
              have c8b1 : (((rd_Maker l0 x11_1).f0) != a1) = false := bne_eq_false_iff_eq.mpr c8
              clear c8
              by_cases c9 : ((rd_Maker l0 x11_1).f1) = a2
              · rw [if_pos c9] at H
                have c9b0 : (((rd_Maker l0 x11_1).f1) == a2) = true := beq_iff_eq.mpr c9
                have c9b1 : (((rd_Maker l0 x11_1).f1) != a2) = false := bne_eq_false_iff_eq.mpr c9
                clear c9
                replace H := Option.bind_eq_some_iff.mp H
                obtain ⟨⟨t382, t383, t384, t385, t386⟩, A100, H⟩ := H
                replace H : (some (t382, t383, t384, t385, t386)) = some (r1, r2, r3, r4, r5) := H
                have A10 := Aside0.mk A100
                clear A100
                simp only [Option.some.injEq, Prod.mk.injEq] at H
                obtain ⟨rfl, rfl, rfl, rfl, rfl⟩ := H
                have p380 : 0 ≤ (x11_1 : Int) := of_decide_eq_true dt_
                have q380 : x11_1 < (l0.length : Int) := of_decide_eq_true dt_
                obtain ⟨ad380, A380_4, c380_4, e380, hx380_0, hx380_1, hx380_2, hx380_3, hx380_4, hl380_4, hi380_4⟩ := at_Maker HR0.out x11_1 p380 q380
                cases e380
                replace hx380_0 := hc_ HB hx380_0
                replace hx380_1 := hc_ HB hx380_1
                replace hx380_2 := hc_ HB hx380_2
                replace hx380_3 := hc_ HB hx380_3
                replace hx380_4 := hc_ HB hx380_4
                have HR380_4 := Aside0.mk hi380_4
                have HC380_4 := Aside0.mk hl380_4
                clear hi380_4 hl380_4
                replace p380 := eq_true p380
                replace q380 := eq_true q380
                go_wp2_with (first | ((with_reducible refine gate_dst (N := 8) rfl ?_); refine box_event ?hg (N := 8) ?hd (cs := #[.int .i64 0, .int .i64 0, .int .i64 0, .int .i64 0, .slice none 0 0]) (t := 38) ?hr ?_; (case hd => rfl); (case hg => rfl); (case hr => first | (go_simp; done) | (go_simp; rfl)); intro gb381 hg w11 hbox hb; have BK381 := Aside0.mk (hbox); have GW381 := Aside0.mk ((by rw [hg]; exact (below_size (qb1_)) : w.heap.size ≤ gb381)); have GE381 := Aside0.mk ((by rw [hg]; exact (below_size (qb1_)) : w.heap.size ≤ gb381)); have NB379_381 := Aside0.mk ((by rw [hg]; exact Nat.ne_of_lt (blk_lt (g := gb379) (o := .cells #[.int .i64 x380000_1, .int .i64 x380001_1, .int .i64 x380002_1, .int .i64 x380003_1, .slice none 0 0] 38 (0, 0)) (bq_ BK379.out)) : gb379 ≠ gb381)); have NB381_379 := Aside0.mk ((by rw [hg]; exact Nat.ne_of_gt (blk_lt (g := gb379) (o := .cells #[.int .i64 x380000_1, .int .i64 x380001_1, .int .i64 x380002_1, .int .i64 x380003_1, .slice none 0 0] 38 (0, 0)) (bq_ BK379.out)) : gb381 ≠ gb379)); replace BK379 := Aside0.mk (blk_below (g := gb379) (o := .cells #[.int .i64 x380000_1, .int .i64 x380001_1, .int .i64 x380002_1, .int .i64 x380003_1, .slice none 0 0] 38 (0, 0)) (bq_ BK379.out) hb); replace HB := Aside0.mk (below_step (qb1_) hb); clear hb hbox hg; have hnb12 := NB381_379.out; have hnc12 := NB379_381.out; have hcz13_0 : w11.cell? ⟨gb381, 0, none⟩ = some (.int .i64 0) := bc_ BK381 0; have hcz13_1 : w11.cell? ⟨gb381, 1, none⟩ = some (.int .i64 0) := bc_ BK381 1; have hcz13_2 : w11.cell? ⟨gb381, 2, none⟩ = some (.int .i64 0) := bc_ BK381 2; have hcz13_3 : w11.cell? ⟨gb381, 3, none⟩ = some (.int .i64 0) := bc_ BK381 3; have hcz13_4 : w11.cell? ⟨gb381, 4, none⟩ = some (.slice none 0 0) := bc_ BK381 4; have hfz13_0 := blk_frozen BK381.out 0; have hfz13_1 := blk_frozen BK381.out 1; have hfz13_2 := blk_frozen BK381.out 2; have hfz13_3 := blk_frozen BK381.out 3; have hfz13_4 := blk_frozen BK381.out 4) | ((with_reducible refine gate_callee (f := 61) rfl ?_); refine goesL_ (some 26) rfl rfl Try.func61 (by kernel_rfl) rfl #[.agg #[.int .i64 ((rd_Maker l0 x11_1).f0), .int .i64 ((rd_Maker l0 x11_1).f1), .int .i64 ((rd_Maker l0 x11_1).f2), .int .i64 ((rd_Maker l0 x11_1).f3), .slice A380_4 ((rd_Maker l0 x11_1).f4).length c380_4]] rfl (qb4_) ?_; (with_reducible refine (impl_copyMaker.calls ((rd_Maker l0 x11_1).f0) ((rd_Maker l0 x11_1).f1) ((rd_Maker l0 x11_1).f2) ((rd_Maker l0 x11_1).f3) _ _ ((rd_Maker l0 x11_1).f4) t382 t383 t384 t385 t386 _ ?side1 ?side2 A10.out).mono ?_); (case side1 => exact Kd.C_below HR380_4.out (qb2_)); (case side2 => exact HC380_4.out); rintro e w14 ⟨v387, rfl, ho0, hb⟩; refine ⟨_, rfl, ?_⟩; have HO388 := Aside0.mk (Kd.R_lower ho0 (below_size (qb2_))); replace BK379 := Aside0.mk (blk_below (g := gb379) (o := .cells #[.int .i64 x380000_1, .int .i64 x380001_1, .int .i64 x380002_1, .int .i64 x380003_1, .slice none 0 0] 38 (0, 0)) (bf_ NB379_381.out BK379.out) hb); replace BK381 := Aside0.mk (blk_below (g := gb381) (o := .cells #[.int .i64 ((rd_Maker l0 x11_1).f0), .int .i64 ((rd_Maker l0 x11_1).f1), .int .i64 ((rd_Maker l0 x11_1).f2), .int .i64 ((rd_Maker l0 x11_1).f3), .slice A380_4 ((rd_Maker l0 x11_1).f4).length c380_4] 38 (0, 0)) (bp_ BK381.out) hb); replace HB := Aside0.mk (below_step (qb2_) hb); (try clear hb); (try clear hb2); (try clear hk); (try clear hi); (try clear ho0); have hcz15_0 : w14.cell? ⟨gb379, 0, none⟩ = some (.int .i64 x380000_1) := bc_ BK379 0; have hcz15_1 : w14.cell? ⟨gb379, 1, none⟩ = some (.int .i64 x380001_1) := bc_ BK379 1; have hcz15_2 : w14.cell? ⟨gb379, 2, none⟩ = some (.int .i64 x380002_1) := bc_ BK379 2; have hcz15_3 : w14.cell? ⟨gb379, 3, none⟩ = some (.int .i64 x380003_1) := bc_ BK379 3; have hcz15_4 : w14.cell? ⟨gb379, 4, none⟩ = some (.slice none 0 0) := bc_ BK379 4; have hfz15_0 := blk_frozen BK379.out 0; have hfz15_1 := blk_frozen BK379.out 1; have hfz15_2 := blk_frozen BK379.out 2; have hfz15_3 := blk_frozen BK379.out 3; have hfz15_4 := blk_frozen BK379.out 4; obtain ⟨Ao16, co16, eo16⟩ := Kd.R_slice HO388.out; subst eo16))
                refine bodyPost_ret (results_cell_row rfl _ _ gb379 38 #[.int .i64 t382, .int .i64 t383, .int .i64 t384, .int .i64 t385, .slice Ao16 t386.length co16] (0, 0) _ rfl (bp_ BK379.out) Try.underlying38 rfl (by kernel_rfl)) rfl ?_
                exact ⟨_, qb3_, by (with_reducible repeat (first | apply Kd.R_alloc | apply Kd.R_drewN | apply Kd.R_drew)); exact Kd.R_mono (Kd.R_far (p := ⟨gb379, 4, none⟩) (Kd.R_far (p := ⟨gb379, 3, none⟩) (Kd.R_far (p := ⟨gb379, 2, none⟩) (Kd.R_far (p := ⟨gb379, 1, none⟩) (Kd.R_far (p := ⟨gb379, 0, none⟩) (Kd.R_types HO388.out BK379.out (by decide)) (fun _ hk => hk.2) (.int .i64 t382)) (fun _ hk => hk.2) (.int .i64 t383)) (fun _ hk => hk.2) (.int .i64 t384)) (fun _ hk => hk.2) (.int .i64 t385)) (fun _ hk => hk.2) (.slice Ao16 t386.length co16)) (fun _ hk => trivial), qb2_⟩
              · rw [if_neg c9] at H
                have c9b0 : (((rd_Maker l0 x11_1).f1) == a2) = false := beq_eq_false_iff_ne.mpr c9
                have c9b1 : (((rd_Maker l0 x11_1).f1) != a2) = true := bne_iff_ne.mpr c9
                have H' := Aside0.mk H
                clear H
                have p380 : 0 ≤ (x11_1 : Int) := of_decide_eq_true dt_
                have q380 : x11_1 < (l0.length : Int) := of_decide_eq_true dt_
                obtain ⟨ad380, A380_4, c380_4, e380, hx380_0, hx380_1, hx380_2, hx380_3, hx380_4, hl380_4, hi380_4⟩ := at_Maker HR0.out x11_1 p380 q380
                cases e380
                replace hx380_0 := hc_ HB hx380_0
                replace hx380_1 := hc_ HB hx380_1
                replace hx380_2 := hc_ HB hx380_2
                replace hx380_3 := hc_ HB hx380_3
                replace hx380_4 := hc_ HB hx380_4
                have HR380_4 := Aside0.mk hi380_4
                have HC380_4 := Aside0.mk hl380_4
                clear hi380_4 hl380_4
                replace p380 := eq_true p380
                replace q380 := eq_true q380
                go_wp2_with (first | ((with_reducible refine gate_dst (N := 8) rfl ?_); refine box_event ?hg (N := 8) ?hd (cs := #[.int .i64 0, .int .i64 0, .int .i64 0, .int .i64 0, .slice none 0 0]) (t := 38) ?hr ?_; (case hd => rfl); (case hg => rfl); (case hr => first | (go_simp; done) | (go_simp; rfl)); intro gb381 hg w17 hbox hb; have BK381 := Aside0.mk (hbox); have GW381 := Aside0.mk ((by rw [hg]; exact (below_size (qb1_)) : w.heap.size ≤ gb381)); have GE381 := Aside0.mk ((by rw [hg]; exact (below_size (qb1_)) : w.heap.size ≤ gb381)); have NB379_381 := Aside0.mk ((by rw [hg]; exact Nat.ne_of_lt (blk_lt (g := gb379) (o := .cells #[.int .i64 x380000_1, .int .i64 x380001_1, .int .i64 x380002_1, .int .i64 x380003_1, .slice none 0 0] 38 (0, 0)) (bq_ BK379.out)) : gb379 ≠ gb381)); have NB381_379 := Aside0.mk ((by rw [hg]; exact Nat.ne_of_gt (blk_lt (g := gb379) (o := .cells #[.int .i64 x380000_1, .int .i64 x380001_1, .int .i64 x380002_1, .int .i64 x380003_1, .slice none 0 0] 38 (0, 0)) (bq_ BK379.out)) : gb381 ≠ gb379)); replace BK379 := Aside0.mk (blk_below (g := gb379) (o := .cells #[.int .i64 x380000_1, .int .i64 x380001_1, .int .i64 x380002_1, .int .i64 x380003_1, .slice none 0 0] 38 (0, 0)) (bq_ BK379.out) hb); replace HB := Aside0.mk (below_step (qb1_) hb); clear hb hbox hg; have hnb18 := NB381_379.out; have hnc18 := NB379_381.out; have hcz19_0 : w17.cell? ⟨gb381, 0, none⟩ = some (.int .i64 0) := bc_ BK381 0; have hcz19_1 : w17.cell? ⟨gb381, 1, none⟩ = some (.int .i64 0) := bc_ BK381 1; have hcz19_2 : w17.cell? ⟨gb381, 2, none⟩ = some (.int .i64 0) := bc_ BK381 2; have hcz19_3 : w17.cell? ⟨gb381, 3, none⟩ = some (.int .i64 0) := bc_ BK381 3; have hcz19_4 : w17.cell? ⟨gb381, 4, none⟩ = some (.slice none 0 0) := bc_ BK381 4; have hfz19_0 := blk_frozen BK381.out 0; have hfz19_1 := blk_frozen BK381.out 1; have hfz19_2 := blk_frozen BK381.out 2; have hfz19_3 := blk_frozen BK381.out 3; have hfz19_4 := blk_frozen BK381.out 4))
                go_roundg k1
                case measure => have := HK1.out; omega
                case rel => exact ⟨(wrap64 (x11_1 + 1)), (x380000_1), (x380001_1), (x380002_1), (x380003_1), (qb10_), H', ⟨by have := HK1.out; omega⟩, ⟨bf_ NB379_381.out BK379.out⟩, ⟨qb2_⟩⟩
            · rw [if_neg c8] at H
              have c8b0 : (((rd_Maker l0 x11_1).f0) == a1) = false := beq_eq_false_iff_ne.mpr c8
              have c8b1 : (((rd_Maker l0 x11_1).f0) != a1) = true := bne_iff_ne.mpr c8
              have H' := Aside0.mk H
              clear H
              have p380 : 0 ≤ (x11_1 : Int) := of_decide_eq_true dt_
              have q380 : x11_1 < (l0.length : Int) := of_decide_eq_true dt_
              obtain ⟨ad380, A380_4, c380_4, e380, hx380_0, hx380_1, hx380_2, hx380_3, hx380_4, hl380_4, hi380_4⟩ := at_Maker HR0.out x11_1 p380 q380
              cases e380
              replace hx380_0 := hc_ HB hx380_0
              replace hx380_1 := hc_ HB hx380_1
              replace hx380_2 := hc_ HB hx380_2
              replace hx380_3 := hc_ HB hx380_3
              replace hx380_4 := hc_ HB hx380_4
              have HR380_4 := Aside0.mk hi380_4
              have HC380_4 := Aside0.mk hl380_4
              clear hi380_4 hl380_4
              replace p380 := eq_true p380
              replace q380 := eq_true q380
              go_wp2_with (first | ((with_reducible refine gate_dst (N := 8) rfl ?_); refine box_event ?hg (N := 8) ?hd (cs := #[.int .i64 0, .int .i64 0, .int .i64 0, .int .i64 0, .slice none 0 0]) (t := 38) ?hr ?_; (case hd => rfl); (case hg => rfl); (case hr => first | (go_simp; done) | (go_simp; rfl)); intro gb381 hg w20 hbox hb; have BK381 := Aside0.mk (hbox); have GW381 := Aside0.mk ((by rw [hg]; exact (below_size (qb1_)) : w.heap.size ≤ gb381)); have GE381 := Aside0.mk ((by rw [hg]; exact (below_size (qb1_)) : w.heap.size ≤ gb381)); have NB379_381 := Aside0.mk ((by rw [hg]; exact Nat.ne_of_lt (blk_lt (g := gb379) (o := .cells #[.int .i64 x380000_1, .int .i64 x380001_1, .int .i64 x380002_1, .int .i64 x380003_1, .slice none 0 0] 38 (0, 0)) (bq_ BK379.out)) : gb379 ≠ gb381)); have NB381_379 := Aside0.mk ((by rw [hg]; exact Nat.ne_of_gt (blk_lt (g := gb379) (o := .cells #[.int .i64 x380000_1, .int .i64 x380001_1, .int .i64 x380002_1, .int .i64 x380003_1, .slice none 0 0] 38 (0, 0)) (bq_ BK379.out)) : gb381 ≠ gb379)); replace BK379 := Aside0.mk (blk_below (g := gb379) (o := .cells #[.int .i64 x380000_1, .int .i64 x380001_1, .int .i64 x380002_1, .int .i64 x380003_1, .slice none 0 0] 38 (0, 0)) (bq_ BK379.out) hb); replace HB := Aside0.mk (below_step (qb1_) hb); clear hb hbox hg; have hnb21 := NB381_379.out; have hnc21 := NB379_381.out; have hcz22_0 : w20.cell? ⟨gb381, 0, none⟩ = some (.int .i64 0) := bc_ BK381 0; have hcz22_1 : w20.cell? ⟨gb381, 1, none⟩ = some (.int .i64 0) := bc_ BK381 1; have hcz22_2 : w20.cell? ⟨gb381, 2, none⟩ = some (.int .i64 0) := bc_ BK381 2; have hcz22_3 : w20.cell? ⟨gb381, 3, none⟩ = some (.int .i64 0) := bc_ BK381 3; have hcz22_4 : w20.cell? ⟨gb381, 4, none⟩ = some (.slice none 0 0) := bc_ BK381 4; have hfz22_0 := blk_frozen BK381.out 0; have hfz22_1 := blk_frozen BK381.out 1; have hfz22_2 := blk_frozen BK381.out 2; have hfz22_3 := blk_frozen BK381.out 3; have hfz22_4 := blk_frozen BK381.out 4))
              go_roundg k1
              case measure => have := HK1.out; omega
              case rel => exact ⟨(wrap64 (x11_1 + 1)), (x380000_1), (x380001_1), (x380002_1), (x380003_1), (qb10_), H', ⟨by have := HK1.out; omega⟩, ⟨bf_ NB379_381.out BK379.out⟩, ⟨qb2_⟩⟩
          · rw [if_neg c7] at H
            exact absurd H (by simp)
        · rw [if_neg c6] at H
          exact absurd H (by simp)
      · rw [if_neg c5] at H
        have c5b0 : decide (x11_1 < (l0.length : Int)) = false := decide_eq_false c5
        clear c5
        simp only [Option.some.injEq, Prod.mk.injEq] at H
        obtain ⟨rfl, rfl, rfl, rfl, rfl⟩ := H
        have hcz23_0 : wr.cell? ⟨gb379, 0, none⟩ = some (.int .i64 x380000_1) := bc_ BK379 0
        have hcz23_1 : wr.cell? ⟨gb379, 1, none⟩ = some (.int .i64 x380001_1) := bc_ BK379 1
        have hcz23_2 : wr.cell? ⟨gb379, 2, none⟩ = some (.int .i64 x380002_1) := bc_ BK379 2
        have hcz23_3 : wr.cell? ⟨gb379, 3, none⟩ = some (.int .i64 x380003_1) := bc_ BK379 3
        have hcz23_4 : wr.cell? ⟨gb379, 4, none⟩ = some (.slice none 0 0) := bc_ BK379 4
        have hfz23_0 := blk_frozen BK379.out 0
        have hfz23_1 := blk_frozen BK379.out 1
        have hfz23_2 := blk_frozen BK379.out 2
        have hfz23_3 := blk_frozen BK379.out 3
        have hfz23_4 := blk_frozen BK379.out 4
        go_wp2
        refine bodyPost_ret (results_cell_row rfl _ _ gb379 38 #[.int .i64 a1, .int .i64 a2, .int .i64 0, .int .i64 (-1), .slice none 0 0] (0, 0) _ rfl (bp_ BK379.out) Try.underlying38 rfl (by kernel_rfl)) rfl ?_
        exact ⟨_, qb3_, by first | exact Kd.R_nil _ _ _ _ _ | exact Kd.N_nil _ _ _ _ _ | exact Kd.V_nil _ _ _ _ _ | exact Kd.Q_nil _ _ _ _ _ | exact Kd.S_nil _ _ _ _ _, qb1_⟩

/-! ### laws_markMaker: function 22 -/
def laws_markMaker.f (k : Nat) (a0_0 : Int) (a0_1 : Int) (a0_2 : Int) (a0_3 : Int) (l0_4 : List (S_Mark)) (a1 : Int) : Option (Int × (List (S_Mark))) := (laws_markMarkS.f k l0_4 a1).bind fun bt390 => (some (bt390.1, bt390.2))
theorem laws_markMaker.mono : ∀ a0 a1 a2 a3 a4 a5 k, LeO (laws_markMaker.f k a0 a1 a2 a3 a4 a5) (laws_markMaker.f (k + 1) a0 a1 a2 a3 a4 a5) := by
  intro a0 a1 a2 a3 a4 a5 k
  unfold laws_markMaker.f
  repeat' first
      | (with_reducible exact laws_markMarkS.mono _ _ _)
      | (with_reducible exact LeO.refl _)
      | (with_reducible exact LeO.none _)
      | (with_reducible refine LeO.ite ?_ ?_)
      | (with_reducible refine LeO.bind ?_ (fun _ => ?_))
      | exact laws_markMarkS.mono _ _ _
      | exact LeO.none _
      | refine LeO.ite ?_ ?_
      | refine LeO.bind ?_ (fun _ => ?_)
set_option maxHeartbeats 8000000 in
set_option maxRecDepth 100000 in
theorem laws_markMaker.calls (k : Nat) (a0_0 : Int) (a0_1 : Int) (a0_2 : Int) (a0_3 : Int) (P0_4_ : Nat → Prop) (u9000_ : Value) (l0_4 : List (S_Mark)) (a1 : Int) (r1 : Int) (r2 : List (S_Mark)) (w0 w : World) (hB : Below w0.heap.size w0 w) (ho0_4 : Kd.R k_Mark 110 w w0.heap.size P0_4_ u9000_ l0_4) (h : laws_markMaker.f k a0_0 a0_1 a0_2 a0_3 l0_4 a1 = some (r1, r2)) :
    Calls Try.prog 22 #[.agg #[.int .i64 a0_0, .int .i64 a0_1, .int .i64 a0_2, .int .i64 a0_3, u9000_], .int .i64 a1] w fun e w' => e = .returned (.int .i64 r1) ∧ Kd.R k_Mark 110 w' w0.heap.size (fun k_ => (P0_4_ k_ ∨ w.heap.size ≤ k_)) u9000_ r2 ∧ Below w0.heap.size w0 w' ∧ Kept w w' (fun k_ => P0_4_ k_) := by
  have hu38 := Try.underlying38
  have HO0_4 := Aside0.mk (show Kd.R k_Mark 110 w w0.heap.size (fun k_ => (P0_4_ k_ ∨ w.heap.size ≤ k_)) u9000_ l0_4 from Kd.R_mono ho0_4 (fun k_ hk => (.inl hk)))
  have HK := Aside0.mk (Kept.refl w (fun k_ => P0_4_ k_))
  have HW0 := Aside0.mk hB.size
  have HB := Aside0.mk hB
  clear hB
  have H : ((laws_markMarkS.f k l0_4 a1).bind fun bt390 => (some (bt390.1, bt390.2))) = some (r1, r2) := h
  clear h
  replace H := Option.bind_eq_some_iff.mp H
  obtain ⟨⟨t390, t391⟩, A30, H⟩ := H
  replace H : (some (t390, t391)) = some (r1, r2) := H
  have A3 := Aside0.mk A30
  clear A30
  simp only [Option.some.injEq, Prod.mk.injEq] at H
  obtain ⟨rfl, rfl⟩ := H
  obtain ⟨Ao4, co4, eo4⟩ := Kd.R_slice HO0_4.out
  subst eo4
  go_enter Try.func22, Try.ntmps22
  go_wp2_with (first | ((with_reducible refine gate_dst (N := 2) rfl ?_); refine box_event ?hg (N := 2) ?hd (cs := #[.int .i64 a0_0, .int .i64 a0_1, .int .i64 a0_2, .int .i64 a0_3, .slice Ao4 l0_4.length co4]) (t := 38) ?hr ?_; (case hd => rfl); (case hg => rfl); (case hr => first | (go_simp; done) | (go_simp; rfl)); intro gb389 hg w5 hbox hb; have BK389 := Aside0.mk (hbox); have GW389 := Aside0.mk ((by rw [hg]; exact (by first | exact HK.out.1 | exact (show Kept w _ (fun k_ => P0_4_ k_) from by repeat (first | (with_reducible first | exact HK.out | apply Kept.alloc | apply Kept.drewN | apply Kept.drew) | exact HK.out)).1) : w.heap.size ≤ gb389)); have GE389 := Aside0.mk ((by rw [hg]; exact (below_size (qb0_)) : w0.heap.size ≤ gb389)); replace HO0_4 := Aside0.mk (Kd.R_below (by (with_reducible repeat (first | apply Kd.R_alloc | apply Kd.R_drewN | apply Kd.R_drew)); exact HO0_4.out) hb); replace HK := Aside0.mk (Kept.below (S := (fun k_ => P0_4_ k_)) (by repeat (first | (with_reducible first | exact HK.out | apply Kept.alloc | apply Kept.drewN | apply Kept.drew) | exact HK.out)) hb); replace HB := Aside0.mk (below_step (qb0_) hb); clear hb hbox hg; have hcz6_0 : w5.cell? ⟨gb389, 0, none⟩ = some (.int .i64 a0_0) := bc_ BK389 0; have hcz6_1 : w5.cell? ⟨gb389, 1, none⟩ = some (.int .i64 a0_1) := bc_ BK389 1; have hcz6_2 : w5.cell? ⟨gb389, 2, none⟩ = some (.int .i64 a0_2) := bc_ BK389 2; have hcz6_3 : w5.cell? ⟨gb389, 3, none⟩ = some (.int .i64 a0_3) := bc_ BK389 3; have hcz6_4 : w5.cell? ⟨gb389, 4, none⟩ = some (.slice Ao4 l0_4.length co4) := bc_ BK389 4; have hfz6_0 := blk_frozen BK389.out 0; have hfz6_1 := blk_frozen BK389.out 1; have hfz6_2 := blk_frozen BK389.out 2; have hfz6_3 := blk_frozen BK389.out 3; have hfz6_4 := blk_frozen BK389.out 4) | ((with_reducible refine gate_callee (f := 63) rfl ?_); refine goesL_ (some 8) rfl rfl Try.func63 (by kernel_rfl) rfl #[.slice Ao4 l0_4.length co4, .int .i64 a1] rfl (qb4_) ?_; (with_reducible refine (laws_markMarkS.calls k (fun k_ => some k_ = (.slice Ao4 l0_4.length co4 : Value).ownBlock) (.slice Ao4 l0_4.length co4) l0_4 a1 t390 t391 w0 _ ?side1 ?side2 A3.out).mono ?_); (case side1 => repeat (first | (with_reducible first | exact HB.out | apply below_alloc | apply pw_below_drewN | apply below_drew1 | refine below_set ?_ GE389.out) | exact HB.out)); (case side2 => exact Kd.R_tight rfl HO0_4.out); rintro e w7 ⟨rfl, hy0, hb, hkp⟩; refine ⟨_, rfl, ?_⟩; replace BK389 := Aside0.mk (blk_kept (bq_ BK389.out) hkp (fun hs_ => (fun e_ => (Kd.R_ne HO0_4.out BK389.out (by decide)) e_) hs_)); replace HK := Aside0.mk (Kept.then_ (S := (fun k_ => P0_4_ k_)) (qb11_) hkp (fun k_ hs_ => (fun e_ => (HO0_4.out.1 k_ e_.symm)) hs_)); replace HO0_4 := Aside0.mk (Kd.R_reok rfl hy0 (fun k_ e_ => HO0_4.out.1 k_ e_)); replace HB := Aside0.mk (hb); (try clear hb); (try clear hkp); (try clear hy0)))
  go_ret
  exact ⟨qb3_, by (with_reducible repeat (first | apply Kd.R_alloc | apply Kd.R_drewN | apply Kd.R_drew)); exact HO0_4.out, by repeat (first | (with_reducible first | exact HB.out | apply below_alloc | apply pw_below_drewN | apply below_drew1 | refine below_set ?_ GE389.out) | exact HB.out), qb11_⟩
/-! ### laws_heldMaker: function 23 -/
def laws_heldMaker.f (k : Nat) (a0_0 : Int) (a0_1 : Int) (a0_2 : Int) (a0_3 : Int) (l0_4 : List (S_Mark)) (a1 : Int) : Option (Int) := (laws_heldMarkS.f k l0_4 a1).bind fun t393 => (if t393 < 0 then (some (-1)) else (some t393))
theorem laws_heldMaker.mono : ∀ a0 a1 a2 a3 a4 a5 k, LeO (laws_heldMaker.f k a0 a1 a2 a3 a4 a5) (laws_heldMaker.f (k + 1) a0 a1 a2 a3 a4 a5) := by
  intro a0 a1 a2 a3 a4 a5 k
  unfold laws_heldMaker.f
  repeat' first
      | (with_reducible exact laws_heldMarkS.mono _ _ _)
      | (with_reducible exact LeO.refl _)
      | (with_reducible exact LeO.none _)
      | (with_reducible refine LeO.ite ?_ ?_)
      | (with_reducible refine LeO.bind ?_ (fun _ => ?_))
      | exact laws_heldMarkS.mono _ _ _
      | exact LeO.none _
      | refine LeO.ite ?_ ?_
      | refine LeO.bind ?_ (fun _ => ?_)
set_option maxHeartbeats 8000000 in
set_option maxRecDepth 100000 in
theorem laws_heldMaker.calls (k : Nat) (a0_0 : Int) (a0_1 : Int) (a0_2 : Int) (a0_3 : Int) (A0_4 : Option Addr) (c0_4 : Nat) (l0_4 : List (S_Mark)) (a1 : Int) (r : Int) (w : World) (hr0_4 : Kd.C k_Mark w A0_4 l0_4.length l0_4) (hc0_4 : l0_4.length ≤ c0_4) (h : laws_heldMaker.f k a0_0 a0_1 a0_2 a0_3 l0_4 a1 = some r) :
    Calls Try.prog 23 #[.agg #[.int .i64 a0_0, .int .i64 a0_1, .int .i64 a0_2, .int .i64 a0_3, .slice A0_4 l0_4.length c0_4], .int .i64 a1] w fun e w' => e = .returned (.int .i64 r) ∧ Below w.heap.size w w' := by
  have hu38 := Try.underlying38
  have HR0_4 := Aside0.mk hr0_4
  have HC0_4 := Aside0.mk hc0_4
  clear hr0_4 hc0_4
  have HB := Aside0.mk (Below.refl w.heap.size w)
  have H : ((laws_heldMarkS.f k l0_4 a1).bind fun t393 => (if t393 < 0 then (some (-1)) else (some t393))) = some r := h
  clear h
  replace H := Option.bind_eq_some_iff.mp H
  obtain ⟨t393, A30, H⟩ := H
  replace H : (if t393 < 0 then (some (-1)) else (some t393)) = some r := H
  have A3 := Aside0.mk A30
  clear A30
  by_cases c4 : t393 < 0
  · rw [if_pos c4] at H
    have c4b0 : decide (t393 < 0) = true := decide_eq_true c4
    clear c4
    obtain rfl := Option.some.inj H
    go_enter Try.func23, Try.ntmps23
    go_wp2_with (first | ((with_reducible refine gate_dst (N := 2) rfl ?_); refine box_event ?hg (N := 2) ?hd (cs := #[.int .i64 a0_0, .int .i64 a0_1, .int .i64 a0_2, .int .i64 a0_3, .slice A0_4 l0_4.length c0_4]) (t := 38) ?hr ?_; (case hd => rfl); (case hg => rfl); (case hr => first | (go_simp; done) | (go_simp; rfl)); intro gb392 hg w5 hbox hb; have BK392 := Aside0.mk (hbox); have GW392 := Aside0.mk ((by rw [hg]; exact (below_size (qb0_)) : w.heap.size ≤ gb392)); have GE392 := Aside0.mk ((by rw [hg]; exact (below_size (qb0_)) : w.heap.size ≤ gb392)); replace HB := Aside0.mk (below_step (qb0_) hb); clear hb hbox hg; have hcz6_0 : w5.cell? ⟨gb392, 0, none⟩ = some (.int .i64 a0_0) := bc_ BK392 0; have hcz6_1 : w5.cell? ⟨gb392, 1, none⟩ = some (.int .i64 a0_1) := bc_ BK392 1; have hcz6_2 : w5.cell? ⟨gb392, 2, none⟩ = some (.int .i64 a0_2) := bc_ BK392 2; have hcz6_3 : w5.cell? ⟨gb392, 3, none⟩ = some (.int .i64 a0_3) := bc_ BK392 3; have hcz6_4 : w5.cell? ⟨gb392, 4, none⟩ = some (.slice A0_4 l0_4.length c0_4) := bc_ BK392 4; have hfz6_0 := blk_frozen BK392.out 0; have hfz6_1 := blk_frozen BK392.out 1; have hfz6_2 := blk_frozen BK392.out 2; have hfz6_3 := blk_frozen BK392.out 3; have hfz6_4 := blk_frozen BK392.out 4) | ((with_reducible refine gate_callee (f := 64) rfl ?_); refine goesL_ (some 8) rfl rfl Try.func64 (by kernel_rfl) rfl #[.slice A0_4 l0_4.length c0_4, .int .i64 a1] rfl (qb4_) ?_; (with_reducible refine (laws_heldMarkS.calls k _ _ l0_4 a1 t393 _ ?side1 ?side2 A3.out).mono ?_); (case side1 => repeat (first | exact (Kd.C_below HR0_4.out HB.out) | (with_reducible refine Kd.C_alloc ?_ _) | (with_reducible refine Kd.C_drewN ?_ _) | (with_reducible refine Kd.C_drew ?_))); (case side2 => exact HC0_4.out); rintro e w' ⟨rfl, ⟨nd, rfl⟩⟩; refine ⟨_, rfl, ?_⟩))
    go_ret
    exact ⟨qb3_, qb12_⟩
  · rw [if_neg c4] at H
    have c4b0 : decide (t393 < 0) = false := decide_eq_false c4
    clear c4
    obtain rfl := Option.some.inj H
    go_enter Try.func23, Try.ntmps23
    go_wp2_with (first | ((with_reducible refine gate_dst (N := 2) rfl ?_); refine box_event ?hg (N := 2) ?hd (cs := #[.int .i64 a0_0, .int .i64 a0_1, .int .i64 a0_2, .int .i64 a0_3, .slice A0_4 l0_4.length c0_4]) (t := 38) ?hr ?_; (case hd => rfl); (case hg => rfl); (case hr => first | (go_simp; done) | (go_simp; rfl)); intro gb392 hg w7 hbox hb; have BK392 := Aside0.mk (hbox); have GW392 := Aside0.mk ((by rw [hg]; exact (below_size (qb0_)) : w.heap.size ≤ gb392)); have GE392 := Aside0.mk ((by rw [hg]; exact (below_size (qb0_)) : w.heap.size ≤ gb392)); replace HB := Aside0.mk (below_step (qb0_) hb); clear hb hbox hg; have hcz8_0 : w7.cell? ⟨gb392, 0, none⟩ = some (.int .i64 a0_0) := bc_ BK392 0; have hcz8_1 : w7.cell? ⟨gb392, 1, none⟩ = some (.int .i64 a0_1) := bc_ BK392 1; have hcz8_2 : w7.cell? ⟨gb392, 2, none⟩ = some (.int .i64 a0_2) := bc_ BK392 2; have hcz8_3 : w7.cell? ⟨gb392, 3, none⟩ = some (.int .i64 a0_3) := bc_ BK392 3; have hcz8_4 : w7.cell? ⟨gb392, 4, none⟩ = some (.slice A0_4 l0_4.length c0_4) := bc_ BK392 4; have hfz8_0 := blk_frozen BK392.out 0; have hfz8_1 := blk_frozen BK392.out 1; have hfz8_2 := blk_frozen BK392.out 2; have hfz8_3 := blk_frozen BK392.out 3; have hfz8_4 := blk_frozen BK392.out 4) | ((with_reducible refine gate_callee (f := 64) rfl ?_); refine goesL_ (some 8) rfl rfl Try.func64 (by kernel_rfl) rfl #[.slice A0_4 l0_4.length c0_4, .int .i64 a1] rfl (qb4_) ?_; (with_reducible refine (laws_heldMarkS.calls k _ _ l0_4 a1 t393 _ ?side1 ?side2 A3.out).mono ?_); (case side1 => repeat (first | exact (Kd.C_below HR0_4.out HB.out) | (with_reducible refine Kd.C_alloc ?_ _) | (with_reducible refine Kd.C_drewN ?_ _) | (with_reducible refine Kd.C_drew ?_))); (case side2 => exact HC0_4.out); rintro e w' ⟨rfl, ⟨nd, rfl⟩⟩; refine ⟨_, rfl, ?_⟩))
    go_ret
    exact ⟨qb3_, qb12_⟩
/-! ### laws_markMakerS: function 21 -/
def laws_markMakerS.l0 : Nat → List (S_Maker) → Int → Int → Option (Int × (List (S_Maker)))
  | 0, _, _, _ => none
  | k + 1, x0, x1, x5 => if x5 < (x0.length : Int) then (if 0 ≤ x5 then ((laws_markMarkS.f k ((rd_Maker x0 x5).f4) (wrap64 (wrap64 (wrap64 (wrap64 (x1 + 1) + 1) + 1) + 1))).bind fun b0 => laws_markMakerS.l0 k (x0.set (x5 : Int).toNat (⟨x1, (wrap64 (x1 + 1)), (wrap64 (wrap64 (x1 + 1) + 1)), (wrap64 (wrap64 (wrap64 (x1 + 1) + 1) + 1)), b0.2⟩ : S_Maker)) b0.1 (wrap64 (x5 + 1))) else (none)) else (some (x1, x0))
def laws_markMakerS.f (k : Nat) (l0 : List (S_Maker)) (a1 : Int) : Option (Int × (List (S_Maker))) := laws_markMakerS.l0 k l0 a1 0
theorem laws_markMakerS.mono_l : ∀ k, (∀ y0 y1 y2, LeO (laws_markMakerS.l0 k y0 y1 y2) (laws_markMakerS.l0 (k + 1) y0 y1 y2))
  | 0 => fun _ _ _ r h => by simp [laws_markMakerS.l0] at h
  | k + 1 => by
    have ih0 := laws_markMakerS.mono_l k
    intro y0 y1 y2
    unfold laws_markMakerS.l0
    refine LeO.ite (LeO.ite ?_ (LeO.none _)) (LeO.refl _)
    refine LeO.bind (laws_markMarkS.mono _ _ _) (fun _ => ?_)
    exact ih0 _ _ _
theorem laws_markMakerS.mono : ∀ a0 a1 k, LeO (laws_markMakerS.f k a0 a1) (laws_markMakerS.f (k + 1) a0 a1) := fun a0 a1 k => laws_markMakerS.mono_l k _ _ _
set_option maxHeartbeats 16000000 in
set_option maxRecDepth 100000 in
theorem laws_markMakerS.calls0 (k : Nat) (P0_ : Nat → Prop) (u9000_ : Value) (l0 : List (S_Maker)) (a1 : Int) (r1 : Int) (r2 : List (S_Maker)) (w0 w : World) (hB : Below w0.heap.size w0 w) (ho0 : Kd.S k_Maker 38 w w0.heap.size P0_ u9000_ l0) (h : laws_markMakerS.f k l0 a1 = some (r1, r2)) :
    Calls Try.prog 21 #[u9000_, .int .i64 a1] w fun e w' => e = .returned (.int .i64 r1) ∧ Kd.S k_Maker 38 w' w0.heap.size P0_ u9000_ r2 ∧ Below w0.heap.size w0 w' ∧ Kept w w' (fun k_ => P0_ k_) := by
  have hu := Try.underlying38
  have HO := Aside0.mk (show Kd.S k_Maker 38 w w0.heap.size P0_ u9000_ l0 from ho0)
  have HK := Aside0.mk (Kept.refl w (fun k_ => P0_ k_))
  have HB := Aside0.mk hB
  have H' : Aside0 (laws_markMakerS.l0 k l0 a1 0 = some (r1, r2)) := ⟨h⟩
  obtain ⟨A0, c0, e0⟩ := Kd.S_slice ho0
  subst e0
  clear h hB ho0
  go_enter Try.func21, Try.ntmps21
  go_wp2
  go_loopg [1, 5] k (fun kq v1 v5 w' => ∃ (x0 : List (S_Maker)) (x1 x5 : Int), v1 = .int .i64 x1 ∧ v5 = .int .i64 x5 ∧ Aside0 (laws_markMakerS.l0 kq x0 x1 x5 = some (r1, r2)) ∧ Aside0 (kq ≤ k) ∧ Aside0 (Kd.S k_Maker 38 w' w0.heap.size P0_ (.slice A0 l0.length c0) x0) ∧ Aside0 (Kept w w' (fun k_ => P0_ k_)) ∧ Aside0 (Below w0.heap.size w0 w'))
  case atStart => exact ⟨l0, a1, 0, rfl, rfl, H', ⟨Nat.le_refl _⟩, HO, HK, HB⟩
  case round =>
    clear H' HO HK HB
    obtain ⟨x0, x1, x5, rfl, rfl, HA, HK1, HO, HK, HB⟩ := hrel
    cases gk with
    | zero => exact absurd HA.out (by simp [laws_markMakerS.l0])
    | succ k1 =>
      have H := HA.out
      clear HA
      simp only [laws_markMakerS.l0] at H
      have hlen := (Kd.S_reads' HO.out).1
      by_cases c1 : x5 < (x0.length : Int)
      · rw [if_pos c1] at H
        by_cases c2 : 0 ≤ x5
        · rw [if_pos c2] at H
          obtain ⟨⟨s0, m0⟩, Q0, H⟩ := Option.bind_eq_some_iff.mp H
          have Q0 := Aside0.mk Q0
          have H' := Aside0.mk H
          clear H
          have hlt : x5 < (l0.length : Int) := by omega
          have c1d : decide (x5 < (l0.length : Int)) = true := decide_eq_true hlt
          have c2d : decide (0 ≤ x5) = true := decide_eq_true c2
          obtain ⟨g, cap, eg, gb, gl, cl, HG⟩ := Kd.S_form HO.out (by omega)
          injection eg with ea_ en_ ec_
          subst ea_
          subst ec_
          clear en_ hlen
          obtain ⟨oki, ce, hcl, hM, hcc, hfr, hoki, hH⟩ := Kd.S_elem HO.out z_Maker x5 c2 hlt
          change k_Maker.M wr w0.heap.size oki (rd_Maker x0 x5) ce at hM
          obtain ⟨v4, rfl, R4⟩ := k_Maker_openM hM
          obtain ⟨A4, d4, rfl⟩ := Kd.R_slice R4
          have GP : Aside0 (P0_ g ∨ w.heap.size ≤ g) := ⟨.inl ((Kd.S_R HO.out).1 g (by simp [Value.ownBlock]))⟩
          have GB := Aside0.mk gb
          have HI := Aside0.mk hoki
          have hz : ∀ {W : World} {c' : List Value}, Kd.H k_Maker 38 W w0.heap.size P0_ (.slice (some ⟨g, 0, none⟩) l0.length c0) x0 x5 oki c' → (∀ j u, c'[j]? = some u → W.cell? ⟨g, x5.toNat * 5 + j, none⟩ = some u) ∧ ∀ j, W.frozen? ⟨g, x5.toNat * 5 + j, none⟩ = false := fun hH_ => by
            obtain ⟨_, _, _, _, _, hc_, _⟩ := Kd.H_raw hH_ c2 hlt
            obtain ⟨_, _, hR_⟩ := hH_
            obtain ⟨_, _, _, _, hf_⟩ := Kd.R_elem hR_ (z_Maker, 0) x5 c2 hlt
            exact ⟨hc_, hf_⟩
          have HZ := Aside0.mk (@hz)
          have HH := Aside0.mk hH
          have RR4 := Aside0.mk R4
          have hx_0 : wr.cell? ⟨g, x5.toNat * 5, none⟩ = some (.int .i64 (rd_Maker x0 x5).f0) := hcc 0 _ rfl
          have hf_0 : wr.frozen? ⟨g, x5.toNat * 5, none⟩ = false := hfr 0
          clear hcl hM hcc hfr hoki hH gb gl HG hz R4
          go_wp2_with (first | ((with_reducible refine gate_store (t := 3) (p := 16) rfl ?_); refine store_event (t := 3) (p := 16) (v := ?vo_ws0) (w1 := (wr.setCell ⟨g, x5.toNat * 5, none⟩ (.int .i64 x1))) ?hg ?ho ?hn ?hr ?_; (case ho => rfl); (case hg => rfl); (case hn => rfl); (case hr => first | (go_simp; done) | (go_simp; rfl)); intro ws0 hw; have hs_ := Kd.H_seg HH.out c2 hlt (seg := [.int .i64 x1]) (j := 0) (show 1 ≤ 5 from by decide) (qb13_); have hh_ : Kd.H k_Maker 38 ws0 w0.heap.size P0_ (.slice (some ⟨g, 0, none⟩) l0.length c0) x0 x5 oki [.int .i64 x1, .int .i64 (rd_Maker x0 x5).f1, .int .i64 (rd_Maker x0 x5).f2, .int .i64 (rd_Maker x0 x5).f3, .slice A4 (rd_Maker x0 x5).f4.length d4] := (by rw [hw]; exact hs_.1); have hg_ : wr.grownBy ws0 (some g) := (by rw [hw]; exact hs_.2); have r4_ := Aside0.mk (Kd.R_grown RR4.out hg_ (fun k_ hk_ he_ => (HI.out k_ hk_).2 (by injection he_))); have b_ : Aside0 (Below w0.heap.size w0 ws0) := ⟨qb14_⟩; have k_ := Aside0.mk (Kept.of_grown (S := (fun k_ => P0_ k_)) hg_ HK.out (fun k_ e_ => by cases e_; exact GP.out)); clear hs_ hx_0 hf_0 HH HB HK RR4; have HH := Aside0.mk hh_; have HB := b_; have HK := k_; have RR4 := r4_; clear hh_ hg_ b_ k_ hw r4_; have hx_0 : ws0.cell? ⟨g, x5.toNat * 5 + 1, none⟩ = some (.int .i64 (rd_Maker x0 x5).f1) := (HZ.out HH.out).1 1 _ rfl; have hf_0 : ws0.frozen? ⟨g, x5.toNat * 5 + 1, none⟩ = false := (HZ.out HH.out).2 1) | ((with_reducible refine gate_store (t := 3) (p := 23) rfl ?_); refine store_event (t := 3) (p := 23) (v := ?vo_ws1) (w1 := (ws0.setCell ⟨g, x5.toNat * 5 + 1, none⟩ (.int .i64 (wrap64 (x1 + 1))))) ?hg ?ho ?hn ?hr ?_; (case ho => rfl); (case hg => rfl); (case hn => rfl); (case hr => first | (go_simp; done) | (go_simp; rfl)); intro ws1 hw; have hs_ := Kd.H_seg HH.out c2 hlt (seg := [.int .i64 (wrap64 (x1 + 1))]) (j := 1) (show 2 ≤ 5 from by decide) (qb13_); have hh_ : Kd.H k_Maker 38 ws1 w0.heap.size P0_ (.slice (some ⟨g, 0, none⟩) l0.length c0) x0 x5 oki [.int .i64 x1, .int .i64 (wrap64 (x1 + 1)), .int .i64 (rd_Maker x0 x5).f2, .int .i64 (rd_Maker x0 x5).f3, .slice A4 (rd_Maker x0 x5).f4.length d4] := (by rw [hw]; exact hs_.1); have hg_ : ws0.grownBy ws1 (some g) := (by rw [hw]; exact hs_.2); have r4_ := Aside0.mk (Kd.R_grown RR4.out hg_ (fun k_ hk_ he_ => (HI.out k_ hk_).2 (by injection he_))); have b_ : Aside0 (Below w0.heap.size w0 ws1) := ⟨qb14_⟩; have k_ := Aside0.mk (Kept.of_grown (S := (fun k_ => P0_ k_)) hg_ HK.out (fun k_ e_ => by cases e_; exact GP.out)); clear hs_ hx_0 hf_0 HH HB HK RR4; have HH := Aside0.mk hh_; have HB := b_; have HK := k_; have RR4 := r4_; clear hh_ hg_ b_ k_ hw r4_; have hx_0 : ws1.cell? ⟨g, x5.toNat * 5 + 2, none⟩ = some (.int .i64 (rd_Maker x0 x5).f2) := (HZ.out HH.out).1 2 _ rfl; have hf_0 : ws1.frozen? ⟨g, x5.toNat * 5 + 2, none⟩ = false := (HZ.out HH.out).2 2) | ((with_reducible refine gate_store (t := 3) (p := 30) rfl ?_); refine store_event (t := 3) (p := 30) (v := ?vo_ws2) (w1 := (ws1.setCell ⟨g, x5.toNat * 5 + 2, none⟩ (.int .i64 (wrap64 (wrap64 (x1 + 1) + 1))))) ?hg ?ho ?hn ?hr ?_; (case ho => rfl); (case hg => rfl); (case hn => rfl); (case hr => first | (go_simp; done) | (go_simp; rfl)); intro ws2 hw; have hs_ := Kd.H_seg HH.out c2 hlt (seg := [.int .i64 (wrap64 (wrap64 (x1 + 1) + 1))]) (j := 2) (show 3 ≤ 5 from by decide) (qb13_); have hh_ : Kd.H k_Maker 38 ws2 w0.heap.size P0_ (.slice (some ⟨g, 0, none⟩) l0.length c0) x0 x5 oki [.int .i64 x1, .int .i64 (wrap64 (x1 + 1)), .int .i64 (wrap64 (wrap64 (x1 + 1) + 1)), .int .i64 (rd_Maker x0 x5).f3, .slice A4 (rd_Maker x0 x5).f4.length d4] := (by rw [hw]; exact hs_.1); have hg_ : ws1.grownBy ws2 (some g) := (by rw [hw]; exact hs_.2); have r4_ := Aside0.mk (Kd.R_grown RR4.out hg_ (fun k_ hk_ he_ => (HI.out k_ hk_).2 (by injection he_))); have b_ : Aside0 (Below w0.heap.size w0 ws2) := ⟨qb14_⟩; have k_ := Aside0.mk (Kept.of_grown (S := (fun k_ => P0_ k_)) hg_ HK.out (fun k_ e_ => by cases e_; exact GP.out)); clear hs_ hx_0 hf_0 HH HB HK RR4; have HH := Aside0.mk hh_; have HB := b_; have HK := k_; have RR4 := r4_; clear hh_ hg_ b_ k_ hw r4_; have hx_0 : ws2.cell? ⟨g, x5.toNat * 5 + 3, none⟩ = some (.int .i64 (rd_Maker x0 x5).f3) := (HZ.out HH.out).1 3 _ rfl; have hf_0 : ws2.frozen? ⟨g, x5.toNat * 5 + 3, none⟩ = false := (HZ.out HH.out).2 3) | ((with_reducible refine gate_store (t := 3) (p := 37) rfl ?_); refine store_event (t := 3) (p := 37) (v := ?vo_ws3) (w1 := (ws2.setCell ⟨g, x5.toNat * 5 + 3, none⟩ (.int .i64 (wrap64 (wrap64 (wrap64 (x1 + 1) + 1) + 1))))) ?hg ?ho ?hn ?hr ?_; (case ho => rfl); (case hg => rfl); (case hn => rfl); (case hr => first | (go_simp; done) | (go_simp; rfl)); intro ws3 hw; have hs_ := Kd.H_seg HH.out c2 hlt (seg := [.int .i64 (wrap64 (wrap64 (wrap64 (x1 + 1) + 1) + 1))]) (j := 3) (show 4 ≤ 5 from by decide) (qb13_); have hh_ : Kd.H k_Maker 38 ws3 w0.heap.size P0_ (.slice (some ⟨g, 0, none⟩) l0.length c0) x0 x5 oki [.int .i64 x1, .int .i64 (wrap64 (x1 + 1)), .int .i64 (wrap64 (wrap64 (x1 + 1) + 1)), .int .i64 (wrap64 (wrap64 (wrap64 (x1 + 1) + 1) + 1)), .slice A4 (rd_Maker x0 x5).f4.length d4] := (by rw [hw]; exact hs_.1); have hg_ : ws2.grownBy ws3 (some g) := (by rw [hw]; exact hs_.2); have r4_ := Aside0.mk (Kd.R_grown RR4.out hg_ (fun k_ hk_ he_ => (HI.out k_ hk_).2 (by injection he_))); have b_ : Aside0 (Below w0.heap.size w0 ws3) := ⟨qb14_⟩; have k_ := Aside0.mk (Kept.of_grown (S := (fun k_ => P0_ k_)) hg_ HK.out (fun k_ e_ => by cases e_; exact GP.out)); clear hs_ hx_0 hf_0 HH HB HK RR4; have HH := Aside0.mk hh_; have HB := b_; have HK := k_; have RR4 := r4_; clear hh_ hg_ b_ k_ hw r4_; have hx_0 : ws3.cell? ⟨g, x5.toNat * 5 + 4, none⟩ = some (.slice A4 (rd_Maker x0 x5).f4.length d4) := (HZ.out HH.out).1 4 _ rfl; have hf_0 : ws3.frozen? ⟨g, x5.toNat * 5 + 4, none⟩ = false := (HZ.out HH.out).2 4) | (go_at_call 63; (with_reducible refine (laws_markMarkS.calls k1 oki (.slice A4 (rd_Maker x0 x5).f4.length d4) ((rd_Maker x0 x5).f4) (wrap64 (wrap64 (wrap64 (wrap64 (x1 + 1) + 1) + 1) + 1)) s0 m0 w0 _ HB.out RR4.out Q0.out).mono ?_); rintro e wc0 ⟨rfl, hr_, hb_, hk_⟩; have r_ := Aside0.mk (Kd.R_mono (Kd.R_tight rfl hr_) (fun k_ hk_ => RR4.out.1 k_ hk_.symm)); have hh_ := Kd.H_step HH.out (fun k_ _ hn_ hl_ => hk_.2 k_ hl_ (fun hk_h => hn_ (hk_h))); have kk_ := Aside0.mk (Kept.then_ HK.out hk_ (fun k_ hk_h => .inl (HI.out k_ (hk_h)).1)); have bb_ := Aside0.mk hb_; clear hk_ hb_ hr_ HH HK HB RR4 hx_0 hf_0; have HH := Aside0.mk hh_; have HK := kk_; have HB := bb_; have RR4 := r_; clear hh_ kk_ bb_ r_))
          have HM : Aside0 (Kd.S k_Maker 38 wc0 w0.heap.size P0_ (.slice (some ⟨g, 0, none⟩) l0.length c0) (x0.set x5.toNat (⟨x1, wrap64 (x1 + 1), wrap64 (wrap64 (x1 + 1) + 1), wrap64 (wrap64 (wrap64 (x1 + 1) + 1) + 1), m0⟩ : S_Maker))) := by
            obtain ⟨_, _, ev0⟩ := Kd.R_slice RR4.out
            have el0 : m0.length = (rd_Maker x0 x5).f4.length := by injection ev0 with _ h_ _; exact h_.symm
            exact ⟨Kd.H_back HH.out (okp := oki) (k_Maker_mkM _ _ _ (⟨x1, wrap64 (x1 + 1), wrap64 (wrap64 (x1 + 1) + 1), wrap64 (wrap64 (wrap64 (x1 + 1) + 1) + 1), m0⟩ : S_Maker) RR4.out) (fun _ hk_ => hk_)⟩
          clear HH RR4 HI HZ GP GB
          go_roundg k1
          case measure => have := HK1.out; omega
          case rel => exact ⟨_, _, _, by first | rfl | (simp; done), by first | rfl | (simp; done), H', ⟨by have := HK1.out; omega⟩, HM, HK, HB⟩
        · rw [if_neg c2] at H
          exact absurd H (by simp)
      · rw [if_neg c1] at H
        have c1d : decide (x5 < (l0.length : Int)) = false := decide_eq_false (by omega)
        clear hlen
        have E := Aside0.mk (Option.some.inj H)
        clear H c1
        go_wp2
        go_ret
        obtain ⟨rfl, rfl⟩ : x1 = r1 ∧ x0 = r2 := by have h_ := E.out; simpa using h_
        exact ⟨by first | rfl | simp, HO.out, HB.out, HK.out⟩
theorem laws_markMakerS.calls (k : Nat) (P0_ : Nat → Prop) (u9000_ : Value) (l0 : List (S_Maker)) (a1 : Int) (r1 : Int) (r2 : List (S_Maker)) (w0 w : World) (hB : Below w0.heap.size w0 w) (ho0 : Kd.S k_Maker 38 w w0.heap.size P0_ u9000_ l0) (h : laws_markMakerS.f k l0 a1 = some (r1, r2)) :
    Calls Try.prog 21 #[u9000_, .int .i64 a1] w fun e w' => e = .returned (.int .i64 r1) ∧ Kd.S k_Maker 38 w' w0.heap.size (fun k_ => (P0_ k_ ∨ w.heap.size ≤ k_)) u9000_ r2 ∧ Below w0.heap.size w0 w' ∧ Kept w w' (fun k_ => P0_ k_) :=
  (laws_markMakerS.calls0 k P0_ u9000_ l0 a1 r1 r2 w0 w hB ho0 h).mono (fun _ _ hx => ⟨hx.1, Kd.S_mono hx.2.1 (fun _ hk => .inl hk), hx.2.2.1, hx.2.2.2⟩)

/-! ### laws_FnExactMakerOf: function 4 -/
def laws_FnExactMakerOf.f (k : Nat) (l0 : List (S_LMaker)) (a1 : Int) (a2 : Int) : Option Bool :=
  (laws_szMakerS.f k l0 1048576).bind fun t => if t < 0 then some true else
  (laws_toMakerS.f k l0).bind fun x => (spec_MakerOf.f k x a1 a2).bind fun y => (impl_MakerOf.f k x a1 a2).bind fun z =>
  (laws_eqMaker.f k z.1 z.2.1 z.2.2.1 z.2.2.2.1 z.2.2.2.2 y.1 y.2.1 y.2.2.1 y.2.2.2.1 y.2.2.2.2).bind fun e1 => (laws_eqMakerS.f k x x).bind fun e2 =>
  (laws_markMakerS.f k x 1).bind fun k1 => (laws_markMaker.f k z.1 z.2.1 z.2.2.1 z.2.2.2.1 z.2.2.2.2 1).bind fun m1 => (laws_heldMaker.f k z.1 z.2.1 z.2.2.1 z.2.2.2.1 m1.2 1).bind fun q =>
  if (e1 = true ∧ e2 = true) ∧ (¬ k1.1 < 0 ∧ ¬ q < 0) ∧ q = m1.1 then some true else none
theorem laws_FnExactMakerOf.mono : ∀ a0 a1 a2 k, LeO (laws_FnExactMakerOf.f k a0 a1 a2) (laws_FnExactMakerOf.f (k + 1) a0 a1 a2) := by
  intro a0 a1 a2 k
  unfold laws_FnExactMakerOf.f
  refine LeO.bind (laws_szMakerS.mono _ _ _) (fun _ => ?_)
  refine LeO.ite (LeO.refl _) ?_
  refine LeO.bind (laws_toMakerS.mono _ _) (fun _ => ?_)
  refine LeO.bind (spec_MakerOf.mono _ _ _ _) (fun _ => ?_)
  refine LeO.bind (impl_MakerOf.mono _ _ _ _) (fun _ => ?_)
  refine LeO.bind (laws_eqMaker.mono _ _ _ _ _ _ _ _ _ _ _) (fun _ => ?_)
  refine LeO.bind (laws_eqMakerS.mono _ _ _) (fun _ => ?_)
  refine LeO.bind (laws_markMakerS.mono _ _ _) (fun _ => ?_)
  refine LeO.bind (laws_markMaker.mono _ _ _ _ _ _ _) (fun _ => ?_)
  refine LeO.bind (laws_heldMaker.mono _ _ _ _ _ _ _) (fun _ => ?_)
  exact LeO.refl _
set_option maxHeartbeats 32000000 in
set_option maxRecDepth 100000 in
theorem laws_FnExactMakerOf.calls (k : Nat) (A0 : Option Addr) (c0 : Nat) (l0 : List (S_LMaker)) (a1 : Int) (a2 : Int) (r : Bool) (w : World) (hr0 : Kd.C k_LMaker w A0 l0.length l0) (hc0 : l0.length ≤ c0) (h : laws_FnExactMakerOf.f k l0 a1 a2 = some r) :
    Calls Try.prog 4 #[.slice A0 l0.length c0, .int .i64 a1, .int .i64 a2] w fun e w' => e = .returned (.bool r) ∧ Below w.heap.size w w' := by
  have HR0 := Aside0.mk hr0
  have HC0 := Aside0.mk hc0
  clear hr0 hc0
  have B_0 := Aside0.mk (Below.refl w.heap.size w)
  unfold laws_FnExactMakerOf.f at h
  obtain ⟨t, Q1, h1⟩ := Option.bind_eq_some_iff.mp h
  clear h
  have q_ := Aside0.mk Q1
  clear Q1
  have Q1 := q_
  clear q_
  by_cases ct : t < 0
  · rw [if_pos ct] at h1
    obtain rfl := Option.some.inj h1
    have cb : decide (t < 0) = true := decide_eq_true ct
    clear h1 ct
    go_enter Try.func4, Try.ntmps4
    go_wp2_with (first | (go_at_call 15; refine (laws_szMakerS.calls k A0 c0 l0 1048576 t _ (Kd.C_below HR0.out B_0.out) HC0.out Q1.out).mono ?_; rintro e w_1 ⟨rfl, hb⟩; have B_1 := Aside0.mk (below_step B_0.out hb); clear hb  B_0))
    go_ret
    exact ⟨rfl, B_1.out⟩
  · rw [if_neg ct] at h1
    have cb : decide (t < 0) = false := decide_eq_false ct
    clear ct
    obtain ⟨x, Q2, h2⟩ := Option.bind_eq_some_iff.mp h1
    obtain ⟨⟨y0, y1, y2, y3, y4⟩, Q3, h3⟩ := Option.bind_eq_some_iff.mp h2
    obtain ⟨⟨z0, z1, z2, z3, z4⟩, Q4, h4⟩ := Option.bind_eq_some_iff.mp h3
    obtain ⟨e1, Q5, h5⟩ := Option.bind_eq_some_iff.mp h4
    obtain ⟨e2, Q6, h6⟩ := Option.bind_eq_some_iff.mp h5
    obtain ⟨⟨k1, x2⟩, Q7, h7⟩ := Option.bind_eq_some_iff.mp h6
    obtain ⟨⟨k2, z5⟩, Q8, h8⟩ := Option.bind_eq_some_iff.mp h7
    obtain ⟨q, Q9, h9⟩ := Option.bind_eq_some_iff.mp h8
    clear h1 h2 h3 h4 h5 h6 h7 h8
    change (if (e1 = true ∧ e2 = true) ∧ (¬ k1 < 0 ∧ ¬ q < 0) ∧ q = k2 then some true else none) = some r at h9
    by_cases cc : (e1 = true ∧ e2 = true) ∧ (¬ k1 < 0 ∧ ¬ q < 0) ∧ q = k2
    case neg =>
      rw [if_neg cc] at h9
      cases h9
    rw [if_pos cc] at h9
    obtain rfl := Option.some.inj h9
    obtain ⟨⟨rfl, rfl⟩, ⟨n1, nq⟩, rfl⟩ := cc
    have d1 : decide (k1 < 0) = false := decide_eq_false n1
    have dq : decide (q < 0) = false := decide_eq_false nq
    clear h9 n1 nq
    have q_ := Aside0.mk Q2
    clear Q2
    have Q2 := q_
    clear q_
    have q_ := Aside0.mk Q3
    clear Q3
    have Q3 := q_
    clear q_
    have q_ := Aside0.mk Q4
    clear Q4
    have Q4 := q_
    clear q_
    have q_ := Aside0.mk Q5
    clear Q5
    have Q5 := q_
    clear q_
    have q_ := Aside0.mk Q6
    clear Q6
    have Q6 := q_
    clear q_
    have q_ := Aside0.mk Q7
    clear Q7
    have Q7 := q_
    clear q_
    have q_ := Aside0.mk Q8
    clear Q8
    have Q8 := q_
    clear q_
    have q_ := Aside0.mk Q9
    clear Q9
    have Q9 := q_
    clear q_
    go_enter Try.func4, Try.ntmps4
    go_wp2_with (first | (go_at_call 15; refine (laws_szMakerS.calls k A0 c0 l0 1048576 t _ (Kd.C_below HR0.out B_0.out) HC0.out Q1.out).mono ?_; rintro e w_1 ⟨rfl, hb⟩; have B_1 := Aside0.mk (below_step B_0.out hb); clear hb  B_0) | (go_at_call 17; refine (laws_toMakerS.calls k A0 c0 l0 x _ (Kd.C_below HR0.out B_1.out) HC0.out Q2.out).mono ?_; rintro e w_2 ⟨v_ta, rfl, ho_ta, hb⟩; have N_ta := Aside0.mk (Kd.S_lower (Kd.S_mono (Kd.S_bound ho_ta) (fun k_ h_ => (show w_1.heap.size ≤ k_ ∧ k_ < w_2.heap.size from ⟨h_.2.1, h_.2.2.1⟩))) B_1.out.size); have B_2 := Aside0.mk (below_step B_1.out hb); obtain ⟨A_ta, c_ta, rfl⟩ := Kd.S_slice ho_ta; have F_ta_2 := N_ta; have U_ta_2 : Aside0 (w_2.heap.size ≤ w_2.heap.size) := ⟨Nat.le_refl _⟩; clear hb  B_1 N_ta ho_ta) | (go_at_call 16; refine (spec_MakerOf.calls k A_ta c_ta x a1 a2 y0 y1 y2 y3 y4 _ (Kd.S_reads' F_ta_2.out).2.2 (by have q_ := Kd.S_reads' F_ta_2.out; omega) Q3.out).mono ?_; rintro e w_3 ⟨v_w0, rfl, ho_w0, hb⟩; have D_ta_w0 : Aside0 (w_2.heap.size ≤ w_2.heap.size) := ⟨U_ta_2.out⟩; have N_w0 := Aside0.mk (Kd.R_lower (Kd.R_mono (Kd.R_bound ho_w0) (fun k_ h_ => (show w_2.heap.size ≤ k_ ∧ k_ < w_3.heap.size from ⟨h_.2.1, h_.2.2.1⟩))) B_2.out.size); have F_ta_3 := Aside0.mk (Kd.S_below F_ta_2.out hb); have U_ta_3 := Aside0.mk (Nat.le_trans U_ta_2.out (Below.size hb)); have B_3 := Aside0.mk (below_step B_2.out hb); obtain ⟨A_w0, c_w0, rfl⟩ := Kd.R_slice ho_w0; have F_w0_3 := N_w0; have U_w0_3 : Aside0 (w_3.heap.size ≤ w_3.heap.size) := ⟨Nat.le_refl _⟩; clear hb  F_ta_2 U_ta_2 B_2 N_w0 ho_w0) | ((with_reducible refine gate_dst (N := 8) rfl ?_); refine box_event ?hg (N := 8) ?hd (cs := #[.int .i64 0, .int .i64 0, .int .i64 0, .int .i64 0, .slice none 0 0]) (t := 38) ?hr ?_; (case hd => rfl); (case hg => rfl); (case hr => first | (go_simp; done) | (go_simp; rfl)); intro g_w0b hg wa_3 hbox hb; have GA := Aside0.mk hg; have BA := Aside0.mk hb; have KA := Aside0.mk hbox; have hv_0 : wa_3.cell? ⟨g_w0b, 0, none⟩ = some (.int .i64 0) := (blk_cell hbox 0).trans rfl; have hz_0 := blk_frozen hbox 0; have hv_1 : wa_3.cell? ⟨g_w0b, 1, none⟩ = some (.int .i64 0) := (blk_cell hbox 1).trans rfl; have hz_1 := blk_frozen hbox 1; have hv_2 : wa_3.cell? ⟨g_w0b, 2, none⟩ = some (.int .i64 0) := (blk_cell hbox 2).trans rfl; have hz_2 := blk_frozen hbox 2; have hv_3 : wa_3.cell? ⟨g_w0b, 3, none⟩ = some (.int .i64 0) := (blk_cell hbox 3).trans rfl; have hz_3 := blk_frozen hbox 3; have hv_4 : wa_3.cell? ⟨g_w0b, 4, none⟩ = some (.slice none 0 0) := (blk_cell hbox 4).trans rfl; have hz_4 := blk_frozen hbox 4; clear hb hbox hg) | ((with_reducible refine gate_store (t := 38) (p := 8) rfl ?_); refine store_event (t := 38) (p := 8) (v := ?vo_3) (w1 := (((((wa_3.setCell ⟨g_w0b, 0, none⟩ (.int .i64 y0)).setCell ⟨g_w0b, 1, none⟩ (.int .i64 y1)).setCell ⟨g_w0b, 2, none⟩ (.int .i64 y2)).setCell ⟨g_w0b, 3, none⟩ (.int .i64 y3)).setCell ⟨g_w0b, 4, none⟩ (.slice A_w0 y4.length c_w0))) ?hg ?ho ?hn ?hr ?_; (case ho => rfl); (case hg => rfl); (case hn => rfl); (case hr => first | (go_simp; done) | (go_simp; rfl)); intro w_4 hw; have hg := GA.out; have hb : Below w_3.heap.size w_3 w_4 := (qb5_); have hbox : w_4.heap[g_w0b]? = some (.cells #[.int .i64 y0, .int .i64 y1, .int .i64 y2, .int .i64 y3, .slice A_w0 y4.length c_w0] 38 (0, 0)) := (qb8_); have E_ta_w0b : Aside0 (w_2.heap.size ≤ g_w0b) := ⟨by rw [hg]; exact U_ta_3.out⟩; have E_w0_w0b : Aside0 (w_3.heap.size ≤ g_w0b) := ⟨by rw [hg]; exact U_w0_3.out⟩; have F_ta_4 := Aside0.mk (Kd.S_below F_ta_3.out hb); have U_ta_4 := Aside0.mk (Nat.le_trans U_ta_3.out (Below.size hb)); have F_w0_4 := Aside0.mk (Kd.R_below F_w0_3.out hb); have U_w0_4 := Aside0.mk (Nat.le_trans U_w0_3.out (Below.size hb)); have B_4 := Aside0.mk (below_step B_3.out hb); have K_w0b_4 := Aside0.mk hbox; have hc_w0b_0_4 : w_4.cell? ⟨g_w0b, 0, none⟩ = some (.int .i64 y0) := (blk_cell hbox 0).trans rfl; have hc_w0b_1_4 : w_4.cell? ⟨g_w0b, 1, none⟩ = some (.int .i64 y1) := (blk_cell hbox 1).trans rfl; have hc_w0b_2_4 : w_4.cell? ⟨g_w0b, 2, none⟩ = some (.int .i64 y2) := (blk_cell hbox 2).trans rfl; have hc_w0b_3_4 : w_4.cell? ⟨g_w0b, 3, none⟩ = some (.int .i64 y3) := (blk_cell hbox 3).trans rfl; have hc_w0b_4_4 : w_4.cell? ⟨g_w0b, 4, none⟩ = some (.slice A_w0 y4.length c_w0) := (blk_cell hbox 4).trans rfl; clear hw hg hb hbox GA BA KA hv_0 hz_0 hv_1 hz_1 hv_2 hz_2 hv_3 hz_3 hv_4 hz_4 F_ta_3 U_ta_3 F_w0_3 U_w0_3 B_3) | (go_at_call 17; refine (laws_toMakerS.calls k A0 c0 l0 x _ (Kd.C_below HR0.out B_4.out) HC0.out Q2.out).mono ?_; rintro e w_5 ⟨v_x0, rfl, ho_x0, hb⟩; have D_w0_x0 : Aside0 (w_3.heap.size ≤ w_4.heap.size) := ⟨U_w0_4.out⟩; have E_x0_w0b : Aside0 (g_w0b < w_4.heap.size) := ⟨blk_lt K_w0b_4.out⟩; have N_x0 := Aside0.mk (Kd.S_lower (Kd.S_mono (Kd.S_bound ho_x0) (fun k_ h_ => (show w_4.heap.size ≤ k_ ∧ k_ < w_5.heap.size from ⟨h_.2.1, h_.2.2.1⟩))) B_4.out.size); have F_w0_5 := Aside0.mk (Kd.R_below F_w0_4.out hb); have U_w0_5 := Aside0.mk (Nat.le_trans U_w0_4.out (Below.size hb)); have K_w0b_5 := Aside0.mk (blk_below K_w0b_4.out hb); have hc_w0b_0_5 : w_5.cell? ⟨g_w0b, 0, none⟩ = some (.int .i64 y0) := (blk_cell K_w0b_5.out 0).trans rfl; have hc_w0b_1_5 : w_5.cell? ⟨g_w0b, 1, none⟩ = some (.int .i64 y1) := (blk_cell K_w0b_5.out 1).trans rfl; have hc_w0b_2_5 : w_5.cell? ⟨g_w0b, 2, none⟩ = some (.int .i64 y2) := (blk_cell K_w0b_5.out 2).trans rfl; have hc_w0b_3_5 : w_5.cell? ⟨g_w0b, 3, none⟩ = some (.int .i64 y3) := (blk_cell K_w0b_5.out 3).trans rfl; have hc_w0b_4_5 : w_5.cell? ⟨g_w0b, 4, none⟩ = some (.slice A_w0 y4.length c_w0) := (blk_cell K_w0b_5.out 4).trans rfl; have B_5 := Aside0.mk (below_step B_4.out hb); obtain ⟨A_x0, c_x0, rfl⟩ := Kd.S_slice ho_x0; have F_x0_5 := N_x0; have U_x0_5 : Aside0 (w_5.heap.size ≤ w_5.heap.size) := ⟨Nat.le_refl _⟩; clear hb  F_w0_4 U_w0_4 K_w0b_4 hc_w0b_0_4 hc_w0b_1_4 hc_w0b_2_4 hc_w0b_3_4 hc_w0b_4_4 B_4 N_x0 ho_x0) | (go_at_call 18; refine (impl_MakerOf.calls k A_x0 c_x0 x a1 a2 z0 z1 z2 z3 z4 _ (Kd.S_reads' F_x0_5.out).2.2 (by have q_ := Kd.S_reads' F_x0_5.out; omega) Q4.out).mono ?_; rintro e w_6 ⟨v_g0, rfl, ho_g0, hb⟩; have D_w0_g0 : Aside0 (w_3.heap.size ≤ w_5.heap.size) := ⟨U_w0_5.out⟩; have D_x0_g0 : Aside0 (w_5.heap.size ≤ w_5.heap.size) := ⟨U_x0_5.out⟩; have E_g0_w0b : Aside0 (g_w0b < w_5.heap.size) := ⟨blk_lt K_w0b_5.out⟩; have N_g0 := Aside0.mk (Kd.R_lower (Kd.R_mono (Kd.R_bound ho_g0) (fun k_ h_ => (show w_5.heap.size ≤ k_ ∧ k_ < w_6.heap.size from ⟨h_.2.1, h_.2.2.1⟩))) B_5.out.size); have F_w0_6 := Aside0.mk (Kd.R_below F_w0_5.out hb); have U_w0_6 := Aside0.mk (Nat.le_trans U_w0_5.out (Below.size hb)); have F_x0_6 := Aside0.mk (Kd.S_below F_x0_5.out hb); have U_x0_6 := Aside0.mk (Nat.le_trans U_x0_5.out (Below.size hb)); have K_w0b_6 := Aside0.mk (blk_below K_w0b_5.out hb); have hc_w0b_0_6 : w_6.cell? ⟨g_w0b, 0, none⟩ = some (.int .i64 y0) := (blk_cell K_w0b_6.out 0).trans rfl; have hc_w0b_1_6 : w_6.cell? ⟨g_w0b, 1, none⟩ = some (.int .i64 y1) := (blk_cell K_w0b_6.out 1).trans rfl; have hc_w0b_2_6 : w_6.cell? ⟨g_w0b, 2, none⟩ = some (.int .i64 y2) := (blk_cell K_w0b_6.out 2).trans rfl; have hc_w0b_3_6 : w_6.cell? ⟨g_w0b, 3, none⟩ = some (.int .i64 y3) := (blk_cell K_w0b_6.out 3).trans rfl; have hc_w0b_4_6 : w_6.cell? ⟨g_w0b, 4, none⟩ = some (.slice A_w0 y4.length c_w0) := (blk_cell K_w0b_6.out 4).trans rfl; have B_6 := Aside0.mk (below_step B_5.out hb); obtain ⟨A_g0, c_g0, rfl⟩ := Kd.R_slice ho_g0; have F_g0_6 := N_g0; have U_g0_6 : Aside0 (w_6.heap.size ≤ w_6.heap.size) := ⟨Nat.le_refl _⟩; clear hb  F_w0_5 U_w0_5 F_x0_5 U_x0_5 K_w0b_5 hc_w0b_0_5 hc_w0b_1_5 hc_w0b_2_5 hc_w0b_3_5 hc_w0b_4_5 B_5 N_g0 ho_g0) | ((with_reducible refine gate_dst (N := 10) rfl ?_); refine box_event ?hg (N := 10) ?hd (cs := #[.int .i64 0, .int .i64 0, .int .i64 0, .int .i64 0, .slice none 0 0]) (t := 38) ?hr ?_; (case hd => rfl); (case hg => rfl); (case hr => first | (go_simp; done) | (go_simp; rfl)); intro g_g0b hg wa_6 hbox hb; have GA := Aside0.mk hg; have BA := Aside0.mk hb; have KA := Aside0.mk hbox; have hv_0 : wa_6.cell? ⟨g_g0b, 0, none⟩ = some (.int .i64 0) := (blk_cell hbox 0).trans rfl; have hz_0 := blk_frozen hbox 0; have hv_1 : wa_6.cell? ⟨g_g0b, 1, none⟩ = some (.int .i64 0) := (blk_cell hbox 1).trans rfl; have hz_1 := blk_frozen hbox 1; have hv_2 : wa_6.cell? ⟨g_g0b, 2, none⟩ = some (.int .i64 0) := (blk_cell hbox 2).trans rfl; have hz_2 := blk_frozen hbox 2; have hv_3 : wa_6.cell? ⟨g_g0b, 3, none⟩ = some (.int .i64 0) := (blk_cell hbox 3).trans rfl; have hz_3 := blk_frozen hbox 3; have hv_4 : wa_6.cell? ⟨g_g0b, 4, none⟩ = some (.slice none 0 0) := (blk_cell hbox 4).trans rfl; have hz_4 := blk_frozen hbox 4; clear hb hbox hg) | ((with_reducible refine gate_store (t := 38) (p := 10) rfl ?_); refine store_event (t := 38) (p := 10) (v := ?vo_6) (w1 := (((((wa_6.setCell ⟨g_g0b, 0, none⟩ (.int .i64 z0)).setCell ⟨g_g0b, 1, none⟩ (.int .i64 z1)).setCell ⟨g_g0b, 2, none⟩ (.int .i64 z2)).setCell ⟨g_g0b, 3, none⟩ (.int .i64 z3)).setCell ⟨g_g0b, 4, none⟩ (.slice A_g0 z4.length c_g0))) ?hg ?ho ?hn ?hr ?_; (case ho => rfl); (case hg => rfl); (case hn => rfl); (case hr => first | (go_simp; done) | (go_simp; rfl)); intro w_7 hw; have hg := GA.out; have hb : Below w_6.heap.size w_6 w_7 := (qb5_); have hbox : w_7.heap[g_g0b]? = some (.cells #[.int .i64 z0, .int .i64 z1, .int .i64 z2, .int .i64 z3, .slice A_g0 z4.length c_g0] 38 (0, 0)) := (qb8_); have E_w0_g0b : Aside0 (w_3.heap.size ≤ g_g0b) := ⟨by rw [hg]; exact U_w0_6.out⟩; have E_x0_g0b : Aside0 (w_5.heap.size ≤ g_g0b) := ⟨by rw [hg]; exact U_x0_6.out⟩; have E_g0_g0b : Aside0 (w_6.heap.size ≤ g_g0b) := ⟨by rw [hg]; exact U_g0_6.out⟩; have F_w0_7 := Aside0.mk (Kd.R_below F_w0_6.out hb); have U_w0_7 := Aside0.mk (Nat.le_trans U_w0_6.out (Below.size hb)); have F_x0_7 := Aside0.mk (Kd.S_below F_x0_6.out hb); have U_x0_7 := Aside0.mk (Nat.le_trans U_x0_6.out (Below.size hb)); have F_g0_7 := Aside0.mk (Kd.R_below F_g0_6.out hb); have U_g0_7 := Aside0.mk (Nat.le_trans U_g0_6.out (Below.size hb)); have K_w0b_7 := Aside0.mk (blk_below K_w0b_6.out hb); have hc_w0b_0_7 : w_7.cell? ⟨g_w0b, 0, none⟩ = some (.int .i64 y0) := (blk_cell K_w0b_7.out 0).trans rfl; have hc_w0b_1_7 : w_7.cell? ⟨g_w0b, 1, none⟩ = some (.int .i64 y1) := (blk_cell K_w0b_7.out 1).trans rfl; have hc_w0b_2_7 : w_7.cell? ⟨g_w0b, 2, none⟩ = some (.int .i64 y2) := (blk_cell K_w0b_7.out 2).trans rfl; have hc_w0b_3_7 : w_7.cell? ⟨g_w0b, 3, none⟩ = some (.int .i64 y3) := (blk_cell K_w0b_7.out 3).trans rfl; have hc_w0b_4_7 : w_7.cell? ⟨g_w0b, 4, none⟩ = some (.slice A_w0 y4.length c_w0) := (blk_cell K_w0b_7.out 4).trans rfl; have B_7 := Aside0.mk (below_step B_6.out hb); have K_g0b_7 := Aside0.mk hbox; have hc_g0b_0_7 : w_7.cell? ⟨g_g0b, 0, none⟩ = some (.int .i64 z0) := (blk_cell hbox 0).trans rfl; have hc_g0b_1_7 : w_7.cell? ⟨g_g0b, 1, none⟩ = some (.int .i64 z1) := (blk_cell hbox 1).trans rfl; have hc_g0b_2_7 : w_7.cell? ⟨g_g0b, 2, none⟩ = some (.int .i64 z2) := (blk_cell hbox 2).trans rfl; have hc_g0b_3_7 : w_7.cell? ⟨g_g0b, 3, none⟩ = some (.int .i64 z3) := (blk_cell hbox 3).trans rfl; have hc_g0b_4_7 : w_7.cell? ⟨g_g0b, 4, none⟩ = some (.slice A_g0 z4.length c_g0) := (blk_cell hbox 4).trans rfl; clear hw hg hb hbox GA BA KA hv_0 hz_0 hv_1 hz_1 hv_2 hz_2 hv_3 hz_3 hv_4 hz_4 F_w0_6 U_w0_6 F_x0_6 U_x0_6 F_g0_6 U_g0_6 K_w0b_6 hc_w0b_0_6 hc_w0b_1_6 hc_w0b_2_6 hc_w0b_3_6 hc_w0b_4_6 B_6) | (go_at_call 19; refine (laws_eqMaker.calls k z0 z1 z2 z3 A_g0 c_g0 z4 y0 y1 y2 y3 A_w0 c_w0 y4 true _ (Kd.R_reads' F_g0_7.out).2.2 (by have q_ := Kd.R_reads' F_g0_7.out; omega) (Kd.R_reads' F_w0_7.out).2.2 (by have q_ := Kd.R_reads' F_w0_7.out; omega) Q5.out).mono ?_; rintro e w_8 ⟨rfl, hb⟩; have F_w0_8 := Aside0.mk (Kd.R_below F_w0_7.out hb); have U_w0_8 := Aside0.mk (Nat.le_trans U_w0_7.out (Below.size hb)); have F_x0_8 := Aside0.mk (Kd.S_below F_x0_7.out hb); have U_x0_8 := Aside0.mk (Nat.le_trans U_x0_7.out (Below.size hb)); have F_g0_8 := Aside0.mk (Kd.R_below F_g0_7.out hb); have U_g0_8 := Aside0.mk (Nat.le_trans U_g0_7.out (Below.size hb)); have K_w0b_8 := Aside0.mk (blk_below K_w0b_7.out hb); have hc_w0b_0_8 : w_8.cell? ⟨g_w0b, 0, none⟩ = some (.int .i64 y0) := (blk_cell K_w0b_8.out 0).trans rfl; have hc_w0b_1_8 : w_8.cell? ⟨g_w0b, 1, none⟩ = some (.int .i64 y1) := (blk_cell K_w0b_8.out 1).trans rfl; have hc_w0b_2_8 : w_8.cell? ⟨g_w0b, 2, none⟩ = some (.int .i64 y2) := (blk_cell K_w0b_8.out 2).trans rfl; have hc_w0b_3_8 : w_8.cell? ⟨g_w0b, 3, none⟩ = some (.int .i64 y3) := (blk_cell K_w0b_8.out 3).trans rfl; have hc_w0b_4_8 : w_8.cell? ⟨g_w0b, 4, none⟩ = some (.slice A_w0 y4.length c_w0) := (blk_cell K_w0b_8.out 4).trans rfl; have K_g0b_8 := Aside0.mk (blk_below K_g0b_7.out hb); have hc_g0b_0_8 : w_8.cell? ⟨g_g0b, 0, none⟩ = some (.int .i64 z0) := (blk_cell K_g0b_8.out 0).trans rfl; have hc_g0b_1_8 : w_8.cell? ⟨g_g0b, 1, none⟩ = some (.int .i64 z1) := (blk_cell K_g0b_8.out 1).trans rfl; have hc_g0b_2_8 : w_8.cell? ⟨g_g0b, 2, none⟩ = some (.int .i64 z2) := (blk_cell K_g0b_8.out 2).trans rfl; have hc_g0b_3_8 : w_8.cell? ⟨g_g0b, 3, none⟩ = some (.int .i64 z3) := (blk_cell K_g0b_8.out 3).trans rfl; have hc_g0b_4_8 : w_8.cell? ⟨g_g0b, 4, none⟩ = some (.slice A_g0 z4.length c_g0) := (blk_cell K_g0b_8.out 4).trans rfl; have B_8 := Aside0.mk (below_step B_7.out hb); clear hb  F_w0_7 U_w0_7 F_x0_7 U_x0_7 F_g0_7 U_g0_7 K_w0b_7 hc_w0b_0_7 hc_w0b_1_7 hc_w0b_2_7 hc_w0b_3_7 hc_w0b_4_7 K_g0b_7 hc_g0b_0_7 hc_g0b_1_7 hc_g0b_2_7 hc_g0b_3_7 hc_g0b_4_7 B_7) | (go_at_call 17; refine (laws_toMakerS.calls k A0 c0 l0 x _ (Kd.C_below HR0.out B_8.out) HC0.out Q2.out).mono ?_; rintro e w_9 ⟨v_tc, rfl, ho_tc, hb⟩; have D_w0_tc : Aside0 (w_3.heap.size ≤ w_8.heap.size) := ⟨U_w0_8.out⟩; have D_x0_tc : Aside0 (w_5.heap.size ≤ w_8.heap.size) := ⟨U_x0_8.out⟩; have D_g0_tc : Aside0 (w_6.heap.size ≤ w_8.heap.size) := ⟨U_g0_8.out⟩; have E_tc_w0b : Aside0 (g_w0b < w_8.heap.size) := ⟨blk_lt K_w0b_8.out⟩; have E_tc_g0b : Aside0 (g_g0b < w_8.heap.size) := ⟨blk_lt K_g0b_8.out⟩; have N_tc := Aside0.mk (Kd.S_lower (Kd.S_mono (Kd.S_bound ho_tc) (fun k_ h_ => (show w_8.heap.size ≤ k_ ∧ k_ < w_9.heap.size from ⟨h_.2.1, h_.2.2.1⟩))) B_8.out.size); have F_w0_9 := Aside0.mk (Kd.R_below F_w0_8.out hb); have U_w0_9 := Aside0.mk (Nat.le_trans U_w0_8.out (Below.size hb)); have F_x0_9 := Aside0.mk (Kd.S_below F_x0_8.out hb); have U_x0_9 := Aside0.mk (Nat.le_trans U_x0_8.out (Below.size hb)); have F_g0_9 := Aside0.mk (Kd.R_below F_g0_8.out hb); have U_g0_9 := Aside0.mk (Nat.le_trans U_g0_8.out (Below.size hb)); have K_w0b_9 := Aside0.mk (blk_below K_w0b_8.out hb); have hc_w0b_0_9 : w_9.cell? ⟨g_w0b, 0, none⟩ = some (.int .i64 y0) := (blk_cell K_w0b_9.out 0).trans rfl; have hc_w0b_1_9 : w_9.cell? ⟨g_w0b, 1, none⟩ = some (.int .i64 y1) := (blk_cell K_w0b_9.out 1).trans rfl; have hc_w0b_2_9 : w_9.cell? ⟨g_w0b, 2, none⟩ = some (.int .i64 y2) := (blk_cell K_w0b_9.out 2).trans rfl; have hc_w0b_3_9 : w_9.cell? ⟨g_w0b, 3, none⟩ = some (.int .i64 y3) := (blk_cell K_w0b_9.out 3).trans rfl; have hc_w0b_4_9 : w_9.cell? ⟨g_w0b, 4, none⟩ = some (.slice A_w0 y4.length c_w0) := (blk_cell K_w0b_9.out 4).trans rfl; have K_g0b_9 := Aside0.mk (blk_below K_g0b_8.out hb); have hc_g0b_0_9 : w_9.cell? ⟨g_g0b, 0, none⟩ = some (.int .i64 z0) := (blk_cell K_g0b_9.out 0).trans rfl; have hc_g0b_1_9 : w_9.cell? ⟨g_g0b, 1, none⟩ = some (.int .i64 z1) := (blk_cell K_g0b_9.out 1).trans rfl; have hc_g0b_2_9 : w_9.cell? ⟨g_g0b, 2, none⟩ = some (.int .i64 z2) := (blk_cell K_g0b_9.out 2).trans rfl; have hc_g0b_3_9 : w_9.cell? ⟨g_g0b, 3, none⟩ = some (.int .i64 z3) := (blk_cell K_g0b_9.out 3).trans rfl; have hc_g0b_4_9 : w_9.cell? ⟨g_g0b, 4, none⟩ = some (.slice A_g0 z4.length c_g0) := (blk_cell K_g0b_9.out 4).trans rfl; have B_9 := Aside0.mk (below_step B_8.out hb); obtain ⟨A_tc, c_tc, rfl⟩ := Kd.S_slice ho_tc; have F_tc_9 := N_tc; have U_tc_9 : Aside0 (w_9.heap.size ≤ w_9.heap.size) := ⟨Nat.le_refl _⟩; clear hb  F_w0_8 U_w0_8 F_x0_8 U_x0_8 F_g0_8 U_g0_8 K_w0b_8 hc_w0b_0_8 hc_w0b_1_8 hc_w0b_2_8 hc_w0b_3_8 hc_w0b_4_8 K_g0b_8 hc_g0b_0_8 hc_g0b_1_8 hc_g0b_2_8 hc_g0b_3_8 hc_g0b_4_8 B_8 N_tc ho_tc) | (go_at_call 20; refine (laws_eqMakerS.calls k A_x0 c_x0 x A_tc c_tc x true _ (Kd.S_reads' F_x0_9.out).2.2 (by have q_ := Kd.S_reads' F_x0_9.out; omega) (Kd.S_reads' F_tc_9.out).2.2 (by have q_ := Kd.S_reads' F_tc_9.out; omega) Q6.out).mono ?_; rintro e w_10 ⟨rfl, hb⟩; have F_w0_10 := Aside0.mk (Kd.R_below F_w0_9.out hb); have U_w0_10 := Aside0.mk (Nat.le_trans U_w0_9.out (Below.size hb)); have F_x0_10 := Aside0.mk (Kd.S_below F_x0_9.out hb); have U_x0_10 := Aside0.mk (Nat.le_trans U_x0_9.out (Below.size hb)); have F_g0_10 := Aside0.mk (Kd.R_below F_g0_9.out hb); have U_g0_10 := Aside0.mk (Nat.le_trans U_g0_9.out (Below.size hb)); have F_tc_10 := Aside0.mk (Kd.S_below F_tc_9.out hb); have U_tc_10 := Aside0.mk (Nat.le_trans U_tc_9.out (Below.size hb)); have K_w0b_10 := Aside0.mk (blk_below K_w0b_9.out hb); have hc_w0b_0_10 : w_10.cell? ⟨g_w0b, 0, none⟩ = some (.int .i64 y0) := (blk_cell K_w0b_10.out 0).trans rfl; have hc_w0b_1_10 : w_10.cell? ⟨g_w0b, 1, none⟩ = some (.int .i64 y1) := (blk_cell K_w0b_10.out 1).trans rfl; have hc_w0b_2_10 : w_10.cell? ⟨g_w0b, 2, none⟩ = some (.int .i64 y2) := (blk_cell K_w0b_10.out 2).trans rfl; have hc_w0b_3_10 : w_10.cell? ⟨g_w0b, 3, none⟩ = some (.int .i64 y3) := (blk_cell K_w0b_10.out 3).trans rfl; have hc_w0b_4_10 : w_10.cell? ⟨g_w0b, 4, none⟩ = some (.slice A_w0 y4.length c_w0) := (blk_cell K_w0b_10.out 4).trans rfl; have K_g0b_10 := Aside0.mk (blk_below K_g0b_9.out hb); have hc_g0b_0_10 : w_10.cell? ⟨g_g0b, 0, none⟩ = some (.int .i64 z0) := (blk_cell K_g0b_10.out 0).trans rfl; have hc_g0b_1_10 : w_10.cell? ⟨g_g0b, 1, none⟩ = some (.int .i64 z1) := (blk_cell K_g0b_10.out 1).trans rfl; have hc_g0b_2_10 : w_10.cell? ⟨g_g0b, 2, none⟩ = some (.int .i64 z2) := (blk_cell K_g0b_10.out 2).trans rfl; have hc_g0b_3_10 : w_10.cell? ⟨g_g0b, 3, none⟩ = some (.int .i64 z3) := (blk_cell K_g0b_10.out 3).trans rfl; have hc_g0b_4_10 : w_10.cell? ⟨g_g0b, 4, none⟩ = some (.slice A_g0 z4.length c_g0) := (blk_cell K_g0b_10.out 4).trans rfl; have B_10 := Aside0.mk (below_step B_9.out hb); clear hb  F_w0_9 U_w0_9 F_x0_9 U_x0_9 F_g0_9 U_g0_9 F_tc_9 U_tc_9 K_w0b_9 hc_w0b_0_9 hc_w0b_1_9 hc_w0b_2_9 hc_w0b_3_9 hc_w0b_4_9 K_g0b_9 hc_g0b_0_9 hc_g0b_1_9 hc_g0b_2_9 hc_g0b_3_9 hc_g0b_4_9 B_9) | (go_at_call 21; refine (laws_markMakerS.calls0 k (fun k_ => w_4.heap.size ≤ k_ ∧ k_ < w_5.heap.size) (.slice A_x0 x.length c_x0) x 1 k1 x2 w _ B_10.out F_x0_10.out Q7.out).mono ?_; rintro e w_11 ⟨rfl, ho, hb, hk⟩; have F_w0_11 := Aside0.mk (Kd.R_kept F_w0_10.out hk (fun k_ h_ h2_ => by have := D_w0_x0.out; omega)); have U_w0_11 := Aside0.mk (Nat.le_trans U_w0_10.out hk.1); have F_x0_11 := Aside0.mk (ho); have U_x0_11 := Aside0.mk (Nat.le_trans U_x0_10.out hk.1); have F_g0_11 := Aside0.mk (Kd.R_kept F_g0_10.out hk (fun k_ h_ h2_ => by have := D_x0_g0.out; omega)); have U_g0_11 := Aside0.mk (Nat.le_trans U_g0_10.out hk.1); have K_w0b_11 := Aside0.mk (blk_kept K_w0b_10.out hk (fun h_ => by have := E_x0_w0b.out; omega)); have hc_w0b_0_11 : w_11.cell? ⟨g_w0b, 0, none⟩ = some (.int .i64 y0) := (blk_cell K_w0b_11.out 0).trans rfl; have hc_w0b_1_11 : w_11.cell? ⟨g_w0b, 1, none⟩ = some (.int .i64 y1) := (blk_cell K_w0b_11.out 1).trans rfl; have hc_w0b_2_11 : w_11.cell? ⟨g_w0b, 2, none⟩ = some (.int .i64 y2) := (blk_cell K_w0b_11.out 2).trans rfl; have hc_w0b_3_11 : w_11.cell? ⟨g_w0b, 3, none⟩ = some (.int .i64 y3) := (blk_cell K_w0b_11.out 3).trans rfl; have hc_w0b_4_11 : w_11.cell? ⟨g_w0b, 4, none⟩ = some (.slice A_w0 y4.length c_w0) := (blk_cell K_w0b_11.out 4).trans rfl; have K_g0b_11 := Aside0.mk (blk_kept K_g0b_10.out hk (fun h_ => by have := E_x0_g0b.out; omega)); have hc_g0b_0_11 : w_11.cell? ⟨g_g0b, 0, none⟩ = some (.int .i64 z0) := (blk_cell K_g0b_11.out 0).trans rfl; have hc_g0b_1_11 : w_11.cell? ⟨g_g0b, 1, none⟩ = some (.int .i64 z1) := (blk_cell K_g0b_11.out 1).trans rfl; have hc_g0b_2_11 : w_11.cell? ⟨g_g0b, 2, none⟩ = some (.int .i64 z2) := (blk_cell K_g0b_11.out 2).trans rfl; have hc_g0b_3_11 : w_11.cell? ⟨g_g0b, 3, none⟩ = some (.int .i64 z3) := (blk_cell K_g0b_11.out 3).trans rfl; have hc_g0b_4_11 : w_11.cell? ⟨g_g0b, 4, none⟩ = some (.slice A_g0 z4.length c_g0) := (blk_cell K_g0b_11.out 4).trans rfl; have B_11 := Aside0.mk (hb); clear ho hb hk F_w0_10 U_w0_10 F_x0_10 U_x0_10 F_g0_10 U_g0_10 K_w0b_10 hc_w0b_0_10 hc_w0b_1_10 hc_w0b_2_10 hc_w0b_3_10 hc_w0b_4_10 K_g0b_10 hc_g0b_0_10 hc_g0b_1_10 hc_g0b_2_10 hc_g0b_3_10 hc_g0b_4_10 B_10) | (go_at_call 19; refine (laws_eqMaker.calls k z0 z1 z2 z3 A_g0 c_g0 z4 y0 y1 y2 y3 A_w0 c_w0 y4 true _ (Kd.R_reads' F_g0_11.out).2.2 (by have q_ := Kd.R_reads' F_g0_11.out; omega) (Kd.R_reads' F_w0_11.out).2.2 (by have q_ := Kd.R_reads' F_w0_11.out; omega) Q5.out).mono ?_; rintro e w_12 ⟨rfl, hb⟩; have F_w0_12 := Aside0.mk (Kd.R_below F_w0_11.out hb); have U_w0_12 := Aside0.mk (Nat.le_trans U_w0_11.out (Below.size hb)); have F_g0_12 := Aside0.mk (Kd.R_below F_g0_11.out hb); have U_g0_12 := Aside0.mk (Nat.le_trans U_g0_11.out (Below.size hb)); have K_w0b_12 := Aside0.mk (blk_below K_w0b_11.out hb); have hc_w0b_0_12 : w_12.cell? ⟨g_w0b, 0, none⟩ = some (.int .i64 y0) := (blk_cell K_w0b_12.out 0).trans rfl; have hc_w0b_1_12 : w_12.cell? ⟨g_w0b, 1, none⟩ = some (.int .i64 y1) := (blk_cell K_w0b_12.out 1).trans rfl; have hc_w0b_2_12 : w_12.cell? ⟨g_w0b, 2, none⟩ = some (.int .i64 y2) := (blk_cell K_w0b_12.out 2).trans rfl; have hc_w0b_3_12 : w_12.cell? ⟨g_w0b, 3, none⟩ = some (.int .i64 y3) := (blk_cell K_w0b_12.out 3).trans rfl; have hc_w0b_4_12 : w_12.cell? ⟨g_w0b, 4, none⟩ = some (.slice A_w0 y4.length c_w0) := (blk_cell K_w0b_12.out 4).trans rfl; have K_g0b_12 := Aside0.mk (blk_below K_g0b_11.out hb); have hc_g0b_0_12 : w_12.cell? ⟨g_g0b, 0, none⟩ = some (.int .i64 z0) := (blk_cell K_g0b_12.out 0).trans rfl; have hc_g0b_1_12 : w_12.cell? ⟨g_g0b, 1, none⟩ = some (.int .i64 z1) := (blk_cell K_g0b_12.out 1).trans rfl; have hc_g0b_2_12 : w_12.cell? ⟨g_g0b, 2, none⟩ = some (.int .i64 z2) := (blk_cell K_g0b_12.out 2).trans rfl; have hc_g0b_3_12 : w_12.cell? ⟨g_g0b, 3, none⟩ = some (.int .i64 z3) := (blk_cell K_g0b_12.out 3).trans rfl; have hc_g0b_4_12 : w_12.cell? ⟨g_g0b, 4, none⟩ = some (.slice A_g0 z4.length c_g0) := (blk_cell K_g0b_12.out 4).trans rfl; have B_12 := Aside0.mk (below_step B_11.out hb); clear hb  F_w0_11 U_w0_11 F_g0_11 U_g0_11 K_w0b_11 hc_w0b_0_11 hc_w0b_1_11 hc_w0b_2_11 hc_w0b_3_11 hc_w0b_4_11 K_g0b_11 hc_g0b_0_11 hc_g0b_1_11 hc_g0b_2_11 hc_g0b_3_11 hc_g0b_4_11 B_11) | (go_at_call 22; refine (laws_markMaker.calls k z0 z1 z2 z3 (fun k_ => w_5.heap.size ≤ k_ ∧ k_ < w_6.heap.size) (.slice A_g0 z4.length c_g0) z4 1 q z5 w _ B_12.out F_g0_12.out Q8.out).mono ?_; rintro e w_13 ⟨rfl, ho, hb, hk⟩; have F_w0_13 := Aside0.mk (Kd.R_kept F_w0_12.out hk (fun k_ h_ h2_ => by have := D_w0_g0.out; omega)); have U_w0_13 := Aside0.mk (Nat.le_trans U_w0_12.out hk.1); have F_g0_13 := Aside0.mk (Kd.R_mono (Kd.R_tight rfl ho) (fun k_ hk_ => F_g0_12.out.1 k_ hk_.symm)); have U_g0_13 := Aside0.mk (Nat.le_trans U_g0_12.out hk.1); have K_w0b_13 := Aside0.mk (blk_kept K_w0b_12.out hk (fun h_ => by have := E_g0_w0b.out; omega)); have hc_w0b_0_13 : w_13.cell? ⟨g_w0b, 0, none⟩ = some (.int .i64 y0) := (blk_cell K_w0b_13.out 0).trans rfl; have hc_w0b_1_13 : w_13.cell? ⟨g_w0b, 1, none⟩ = some (.int .i64 y1) := (blk_cell K_w0b_13.out 1).trans rfl; have hc_w0b_2_13 : w_13.cell? ⟨g_w0b, 2, none⟩ = some (.int .i64 y2) := (blk_cell K_w0b_13.out 2).trans rfl; have hc_w0b_3_13 : w_13.cell? ⟨g_w0b, 3, none⟩ = some (.int .i64 y3) := (blk_cell K_w0b_13.out 3).trans rfl; have hc_w0b_4_13 : w_13.cell? ⟨g_w0b, 4, none⟩ = some (.slice A_w0 y4.length c_w0) := (blk_cell K_w0b_13.out 4).trans rfl; have K_g0b_13 := Aside0.mk (blk_kept K_g0b_12.out hk (fun h_ => by have := E_g0_g0b.out; omega)); have hc_g0b_0_13 : w_13.cell? ⟨g_g0b, 0, none⟩ = some (.int .i64 z0) := (blk_cell K_g0b_13.out 0).trans rfl; have hc_g0b_1_13 : w_13.cell? ⟨g_g0b, 1, none⟩ = some (.int .i64 z1) := (blk_cell K_g0b_13.out 1).trans rfl; have hc_g0b_2_13 : w_13.cell? ⟨g_g0b, 2, none⟩ = some (.int .i64 z2) := (blk_cell K_g0b_13.out 2).trans rfl; have hc_g0b_3_13 : w_13.cell? ⟨g_g0b, 3, none⟩ = some (.int .i64 z3) := (blk_cell K_g0b_13.out 3).trans rfl; have hc_g0b_4_13 : w_13.cell? ⟨g_g0b, 4, none⟩ = some (.slice A_g0 z4.length c_g0) := (blk_cell K_g0b_13.out 4).trans rfl; have B_13 := Aside0.mk (hb); clear ho hb hk F_w0_12 U_w0_12 F_g0_12 U_g0_12 K_w0b_12 hc_w0b_0_12 hc_w0b_1_12 hc_w0b_2_12 hc_w0b_3_12 hc_w0b_4_12 K_g0b_12 hc_g0b_0_12 hc_g0b_1_12 hc_g0b_2_12 hc_g0b_3_12 hc_g0b_4_12 B_12) | (go_at_call 23; refine (calls_of_args (args' := #[.agg #[.int .i64 z0, .int .i64 z1, .int .i64 z2, .int .i64 z3, .slice A_g0 z5.length c_g0], .int .i64 1]) (by rw [show z4.length = z5.length from (Kd.R_reads' F_g0_13.out).1]) (laws_heldMaker.calls k z0 z1 z2 z3 A_g0 c_g0 z5 1 q _ ((Kd.R_reads' F_g0_13.out).1 ▸ (Kd.R_reads' F_g0_13.out).2.2) (by have q_ := Kd.R_reads' F_g0_13.out; omega) Q9.out)).mono ?_; rintro e w_14 ⟨rfl, hb⟩; have F_w0_14 := Aside0.mk (Kd.R_below F_w0_13.out hb); have U_w0_14 := Aside0.mk (Nat.le_trans U_w0_13.out (Below.size hb)); have F_g0_14 := Aside0.mk (Kd.R_below F_g0_13.out hb); have U_g0_14 := Aside0.mk (Nat.le_trans U_g0_13.out (Below.size hb)); have K_w0b_14 := Aside0.mk (blk_below K_w0b_13.out hb); have hc_w0b_0_14 : w_14.cell? ⟨g_w0b, 0, none⟩ = some (.int .i64 y0) := (blk_cell K_w0b_14.out 0).trans rfl; have hc_w0b_1_14 : w_14.cell? ⟨g_w0b, 1, none⟩ = some (.int .i64 y1) := (blk_cell K_w0b_14.out 1).trans rfl; have hc_w0b_2_14 : w_14.cell? ⟨g_w0b, 2, none⟩ = some (.int .i64 y2) := (blk_cell K_w0b_14.out 2).trans rfl; have hc_w0b_3_14 : w_14.cell? ⟨g_w0b, 3, none⟩ = some (.int .i64 y3) := (blk_cell K_w0b_14.out 3).trans rfl; have hc_w0b_4_14 : w_14.cell? ⟨g_w0b, 4, none⟩ = some (.slice A_w0 y4.length c_w0) := (blk_cell K_w0b_14.out 4).trans rfl; have K_g0b_14 := Aside0.mk (blk_below K_g0b_13.out hb); have hc_g0b_0_14 : w_14.cell? ⟨g_g0b, 0, none⟩ = some (.int .i64 z0) := (blk_cell K_g0b_14.out 0).trans rfl; have hc_g0b_1_14 : w_14.cell? ⟨g_g0b, 1, none⟩ = some (.int .i64 z1) := (blk_cell K_g0b_14.out 1).trans rfl; have hc_g0b_2_14 : w_14.cell? ⟨g_g0b, 2, none⟩ = some (.int .i64 z2) := (blk_cell K_g0b_14.out 2).trans rfl; have hc_g0b_3_14 : w_14.cell? ⟨g_g0b, 3, none⟩ = some (.int .i64 z3) := (blk_cell K_g0b_14.out 3).trans rfl; have hc_g0b_4_14 : w_14.cell? ⟨g_g0b, 4, none⟩ = some (.slice A_g0 z4.length c_g0) := (blk_cell K_g0b_14.out 4).trans rfl; have B_14 := Aside0.mk (below_step B_13.out hb); clear hb  F_w0_13 U_w0_13 F_g0_13 U_g0_13 K_w0b_13 hc_w0b_0_13 hc_w0b_1_13 hc_w0b_2_13 hc_w0b_3_13 hc_w0b_4_13 K_g0b_13 hc_g0b_0_13 hc_g0b_1_13 hc_g0b_2_13 hc_g0b_3_13 hc_g0b_4_13 B_13) | (go_at_call 17; refine (laws_toMakerS.calls k A0 c0 l0 x _ (Kd.C_below HR0.out B_14.out) HC0.out Q2.out).mono ?_; rintro e w_15 ⟨v_td, rfl, ho_td, hb⟩; have D_w0_td : Aside0 (w_3.heap.size ≤ w_14.heap.size) := ⟨U_w0_14.out⟩; have D_g0_td : Aside0 (w_6.heap.size ≤ w_14.heap.size) := ⟨U_g0_14.out⟩; have E_td_w0b : Aside0 (g_w0b < w_14.heap.size) := ⟨blk_lt K_w0b_14.out⟩; have E_td_g0b : Aside0 (g_g0b < w_14.heap.size) := ⟨blk_lt K_g0b_14.out⟩; have N_td := Aside0.mk (Kd.S_lower (Kd.S_mono (Kd.S_bound ho_td) (fun k_ h_ => (show w_14.heap.size ≤ k_ ∧ k_ < w_15.heap.size from ⟨h_.2.1, h_.2.2.1⟩))) B_14.out.size); have F_w0_15 := Aside0.mk (Kd.R_below F_w0_14.out hb); have U_w0_15 := Aside0.mk (Nat.le_trans U_w0_14.out (Below.size hb)); have F_g0_15 := Aside0.mk (Kd.R_below F_g0_14.out hb); have U_g0_15 := Aside0.mk (Nat.le_trans U_g0_14.out (Below.size hb)); have K_w0b_15 := Aside0.mk (blk_below K_w0b_14.out hb); have hc_w0b_0_15 : w_15.cell? ⟨g_w0b, 0, none⟩ = some (.int .i64 y0) := (blk_cell K_w0b_15.out 0).trans rfl; have hc_w0b_1_15 : w_15.cell? ⟨g_w0b, 1, none⟩ = some (.int .i64 y1) := (blk_cell K_w0b_15.out 1).trans rfl; have hc_w0b_2_15 : w_15.cell? ⟨g_w0b, 2, none⟩ = some (.int .i64 y2) := (blk_cell K_w0b_15.out 2).trans rfl; have hc_w0b_3_15 : w_15.cell? ⟨g_w0b, 3, none⟩ = some (.int .i64 y3) := (blk_cell K_w0b_15.out 3).trans rfl; have hc_w0b_4_15 : w_15.cell? ⟨g_w0b, 4, none⟩ = some (.slice A_w0 y4.length c_w0) := (blk_cell K_w0b_15.out 4).trans rfl; have K_g0b_15 := Aside0.mk (blk_below K_g0b_14.out hb); have hc_g0b_0_15 : w_15.cell? ⟨g_g0b, 0, none⟩ = some (.int .i64 z0) := (blk_cell K_g0b_15.out 0).trans rfl; have hc_g0b_1_15 : w_15.cell? ⟨g_g0b, 1, none⟩ = some (.int .i64 z1) := (blk_cell K_g0b_15.out 1).trans rfl; have hc_g0b_2_15 : w_15.cell? ⟨g_g0b, 2, none⟩ = some (.int .i64 z2) := (blk_cell K_g0b_15.out 2).trans rfl; have hc_g0b_3_15 : w_15.cell? ⟨g_g0b, 3, none⟩ = some (.int .i64 z3) := (blk_cell K_g0b_15.out 3).trans rfl; have hc_g0b_4_15 : w_15.cell? ⟨g_g0b, 4, none⟩ = some (.slice A_g0 z4.length c_g0) := (blk_cell K_g0b_15.out 4).trans rfl; have B_15 := Aside0.mk (below_step B_14.out hb); obtain ⟨A_td, c_td, rfl⟩ := Kd.S_slice ho_td; have F_td_15 := N_td; have U_td_15 : Aside0 (w_15.heap.size ≤ w_15.heap.size) := ⟨Nat.le_refl _⟩; clear hb  F_w0_14 U_w0_14 F_g0_14 U_g0_14 K_w0b_14 hc_w0b_0_14 hc_w0b_1_14 hc_w0b_2_14 hc_w0b_3_14 hc_w0b_4_14 K_g0b_14 hc_g0b_0_14 hc_g0b_1_14 hc_g0b_2_14 hc_g0b_3_14 hc_g0b_4_14 B_14 N_td ho_td) | (go_at_call 18; refine (impl_MakerOf.calls k A_td c_td x a1 a2 z0 z1 z2 z3 z4 _ (Kd.S_reads' F_td_15.out).2.2 (by have q_ := Kd.S_reads' F_td_15.out; omega) Q4.out).mono ?_; rintro e w_16 ⟨v_h0, rfl, ho_h0, hb⟩; have D_w0_h0 : Aside0 (w_3.heap.size ≤ w_15.heap.size) := ⟨U_w0_15.out⟩; have D_g0_h0 : Aside0 (w_6.heap.size ≤ w_15.heap.size) := ⟨U_g0_15.out⟩; have D_td_h0 : Aside0 (w_15.heap.size ≤ w_15.heap.size) := ⟨U_td_15.out⟩; have E_h0_w0b : Aside0 (g_w0b < w_15.heap.size) := ⟨blk_lt K_w0b_15.out⟩; have E_h0_g0b : Aside0 (g_g0b < w_15.heap.size) := ⟨blk_lt K_g0b_15.out⟩; have N_h0 := Aside0.mk (Kd.R_lower (Kd.R_mono (Kd.R_bound ho_h0) (fun k_ h_ => (show w_15.heap.size ≤ k_ ∧ k_ < w_16.heap.size from ⟨h_.2.1, h_.2.2.1⟩))) B_15.out.size); have F_w0_16 := Aside0.mk (Kd.R_below F_w0_15.out hb); have U_w0_16 := Aside0.mk (Nat.le_trans U_w0_15.out (Below.size hb)); have F_g0_16 := Aside0.mk (Kd.R_below F_g0_15.out hb); have U_g0_16 := Aside0.mk (Nat.le_trans U_g0_15.out (Below.size hb)); have F_td_16 := Aside0.mk (Kd.S_below F_td_15.out hb); have U_td_16 := Aside0.mk (Nat.le_trans U_td_15.out (Below.size hb)); have K_w0b_16 := Aside0.mk (blk_below K_w0b_15.out hb); have hc_w0b_0_16 : w_16.cell? ⟨g_w0b, 0, none⟩ = some (.int .i64 y0) := (blk_cell K_w0b_16.out 0).trans rfl; have hc_w0b_1_16 : w_16.cell? ⟨g_w0b, 1, none⟩ = some (.int .i64 y1) := (blk_cell K_w0b_16.out 1).trans rfl; have hc_w0b_2_16 : w_16.cell? ⟨g_w0b, 2, none⟩ = some (.int .i64 y2) := (blk_cell K_w0b_16.out 2).trans rfl; have hc_w0b_3_16 : w_16.cell? ⟨g_w0b, 3, none⟩ = some (.int .i64 y3) := (blk_cell K_w0b_16.out 3).trans rfl; have hc_w0b_4_16 : w_16.cell? ⟨g_w0b, 4, none⟩ = some (.slice A_w0 y4.length c_w0) := (blk_cell K_w0b_16.out 4).trans rfl; have K_g0b_16 := Aside0.mk (blk_below K_g0b_15.out hb); have hc_g0b_0_16 : w_16.cell? ⟨g_g0b, 0, none⟩ = some (.int .i64 z0) := (blk_cell K_g0b_16.out 0).trans rfl; have hc_g0b_1_16 : w_16.cell? ⟨g_g0b, 1, none⟩ = some (.int .i64 z1) := (blk_cell K_g0b_16.out 1).trans rfl; have hc_g0b_2_16 : w_16.cell? ⟨g_g0b, 2, none⟩ = some (.int .i64 z2) := (blk_cell K_g0b_16.out 2).trans rfl; have hc_g0b_3_16 : w_16.cell? ⟨g_g0b, 3, none⟩ = some (.int .i64 z3) := (blk_cell K_g0b_16.out 3).trans rfl; have hc_g0b_4_16 : w_16.cell? ⟨g_g0b, 4, none⟩ = some (.slice A_g0 z4.length c_g0) := (blk_cell K_g0b_16.out 4).trans rfl; have B_16 := Aside0.mk (below_step B_15.out hb); obtain ⟨A_h0, c_h0, rfl⟩ := Kd.R_slice ho_h0; have F_h0_16 := N_h0; have U_h0_16 : Aside0 (w_16.heap.size ≤ w_16.heap.size) := ⟨Nat.le_refl _⟩; clear hb  F_w0_15 U_w0_15 F_g0_15 U_g0_15 F_td_15 U_td_15 K_w0b_15 hc_w0b_0_15 hc_w0b_1_15 hc_w0b_2_15 hc_w0b_3_15 hc_w0b_4_15 K_g0b_15 hc_g0b_0_15 hc_g0b_1_15 hc_g0b_2_15 hc_g0b_3_15 hc_g0b_4_15 B_15 N_h0 ho_h0) | ((with_reducible refine gate_dst (N := 14) rfl ?_); refine box_event ?hg (N := 14) ?hd (cs := #[.int .i64 0, .int .i64 0, .int .i64 0, .int .i64 0, .slice none 0 0]) (t := 38) ?hr ?_; (case hd => rfl); (case hg => rfl); (case hr => first | (go_simp; done) | (go_simp; rfl)); intro g_h0b hg wa_16 hbox hb; have GA := Aside0.mk hg; have BA := Aside0.mk hb; have KA := Aside0.mk hbox; have hv_0 : wa_16.cell? ⟨g_h0b, 0, none⟩ = some (.int .i64 0) := (blk_cell hbox 0).trans rfl; have hz_0 := blk_frozen hbox 0; have hv_1 : wa_16.cell? ⟨g_h0b, 1, none⟩ = some (.int .i64 0) := (blk_cell hbox 1).trans rfl; have hz_1 := blk_frozen hbox 1; have hv_2 : wa_16.cell? ⟨g_h0b, 2, none⟩ = some (.int .i64 0) := (blk_cell hbox 2).trans rfl; have hz_2 := blk_frozen hbox 2; have hv_3 : wa_16.cell? ⟨g_h0b, 3, none⟩ = some (.int .i64 0) := (blk_cell hbox 3).trans rfl; have hz_3 := blk_frozen hbox 3; have hv_4 : wa_16.cell? ⟨g_h0b, 4, none⟩ = some (.slice none 0 0) := (blk_cell hbox 4).trans rfl; have hz_4 := blk_frozen hbox 4; clear hb hbox hg) | ((with_reducible refine gate_store (t := 38) (p := 14) rfl ?_); refine store_event (t := 38) (p := 14) (v := ?vo_16) (w1 := (((((wa_16.setCell ⟨g_h0b, 0, none⟩ (.int .i64 z0)).setCell ⟨g_h0b, 1, none⟩ (.int .i64 z1)).setCell ⟨g_h0b, 2, none⟩ (.int .i64 z2)).setCell ⟨g_h0b, 3, none⟩ (.int .i64 z3)).setCell ⟨g_h0b, 4, none⟩ (.slice A_h0 z4.length c_h0))) ?hg ?ho ?hn ?hr ?_; (case ho => rfl); (case hg => rfl); (case hn => rfl); (case hr => first | (go_simp; done) | (go_simp; rfl)); intro w_17 hw; have hg := GA.out; have hb : Below w_16.heap.size w_16 w_17 := (qb5_); have hbox : w_17.heap[g_h0b]? = some (.cells #[.int .i64 z0, .int .i64 z1, .int .i64 z2, .int .i64 z3, .slice A_h0 z4.length c_h0] 38 (0, 0)) := (qb8_); have E_w0_h0b : Aside0 (w_3.heap.size ≤ g_h0b) := ⟨by rw [hg]; exact U_w0_16.out⟩; have E_g0_h0b : Aside0 (w_6.heap.size ≤ g_h0b) := ⟨by rw [hg]; exact U_g0_16.out⟩; have E_td_h0b : Aside0 (w_15.heap.size ≤ g_h0b) := ⟨by rw [hg]; exact U_td_16.out⟩; have E_h0_h0b : Aside0 (w_16.heap.size ≤ g_h0b) := ⟨by rw [hg]; exact U_h0_16.out⟩; have F_w0_17 := Aside0.mk (Kd.R_below F_w0_16.out hb); have U_w0_17 := Aside0.mk (Nat.le_trans U_w0_16.out (Below.size hb)); have F_g0_17 := Aside0.mk (Kd.R_below F_g0_16.out hb); have U_g0_17 := Aside0.mk (Nat.le_trans U_g0_16.out (Below.size hb)); have F_td_17 := Aside0.mk (Kd.S_below F_td_16.out hb); have U_td_17 := Aside0.mk (Nat.le_trans U_td_16.out (Below.size hb)); have F_h0_17 := Aside0.mk (Kd.R_below F_h0_16.out hb); have U_h0_17 := Aside0.mk (Nat.le_trans U_h0_16.out (Below.size hb)); have K_w0b_17 := Aside0.mk (blk_below K_w0b_16.out hb); have hc_w0b_0_17 : w_17.cell? ⟨g_w0b, 0, none⟩ = some (.int .i64 y0) := (blk_cell K_w0b_17.out 0).trans rfl; have hc_w0b_1_17 : w_17.cell? ⟨g_w0b, 1, none⟩ = some (.int .i64 y1) := (blk_cell K_w0b_17.out 1).trans rfl; have hc_w0b_2_17 : w_17.cell? ⟨g_w0b, 2, none⟩ = some (.int .i64 y2) := (blk_cell K_w0b_17.out 2).trans rfl; have hc_w0b_3_17 : w_17.cell? ⟨g_w0b, 3, none⟩ = some (.int .i64 y3) := (blk_cell K_w0b_17.out 3).trans rfl; have hc_w0b_4_17 : w_17.cell? ⟨g_w0b, 4, none⟩ = some (.slice A_w0 y4.length c_w0) := (blk_cell K_w0b_17.out 4).trans rfl; have K_g0b_17 := Aside0.mk (blk_below K_g0b_16.out hb); have hc_g0b_0_17 : w_17.cell? ⟨g_g0b, 0, none⟩ = some (.int .i64 z0) := (blk_cell K_g0b_17.out 0).trans rfl; have hc_g0b_1_17 : w_17.cell? ⟨g_g0b, 1, none⟩ = some (.int .i64 z1) := (blk_cell K_g0b_17.out 1).trans rfl; have hc_g0b_2_17 : w_17.cell? ⟨g_g0b, 2, none⟩ = some (.int .i64 z2) := (blk_cell K_g0b_17.out 2).trans rfl; have hc_g0b_3_17 : w_17.cell? ⟨g_g0b, 3, none⟩ = some (.int .i64 z3) := (blk_cell K_g0b_17.out 3).trans rfl; have hc_g0b_4_17 : w_17.cell? ⟨g_g0b, 4, none⟩ = some (.slice A_g0 z4.length c_g0) := (blk_cell K_g0b_17.out 4).trans rfl; have B_17 := Aside0.mk (below_step B_16.out hb); have K_h0b_17 := Aside0.mk hbox; have hc_h0b_0_17 : w_17.cell? ⟨g_h0b, 0, none⟩ = some (.int .i64 z0) := (blk_cell hbox 0).trans rfl; have hc_h0b_1_17 : w_17.cell? ⟨g_h0b, 1, none⟩ = some (.int .i64 z1) := (blk_cell hbox 1).trans rfl; have hc_h0b_2_17 : w_17.cell? ⟨g_h0b, 2, none⟩ = some (.int .i64 z2) := (blk_cell hbox 2).trans rfl; have hc_h0b_3_17 : w_17.cell? ⟨g_h0b, 3, none⟩ = some (.int .i64 z3) := (blk_cell hbox 3).trans rfl; have hc_h0b_4_17 : w_17.cell? ⟨g_h0b, 4, none⟩ = some (.slice A_h0 z4.length c_h0) := (blk_cell hbox 4).trans rfl; clear hw hg hb hbox GA BA KA hv_0 hz_0 hv_1 hz_1 hv_2 hz_2 hv_3 hz_3 hv_4 hz_4 F_w0_16 U_w0_16 F_g0_16 U_g0_16 F_td_16 U_td_16 F_h0_16 U_h0_16 K_w0b_16 hc_w0b_0_16 hc_w0b_1_16 hc_w0b_2_16 hc_w0b_3_16 hc_w0b_4_16 K_g0b_16 hc_g0b_0_16 hc_g0b_1_16 hc_g0b_2_16 hc_g0b_3_16 hc_g0b_4_16 B_16) | (go_at_call 19; refine (laws_eqMaker.calls k z0 z1 z2 z3 A_h0 c_h0 z4 y0 y1 y2 y3 A_w0 c_w0 y4 true _ (Kd.R_reads' F_h0_17.out).2.2 (by have q_ := Kd.R_reads' F_h0_17.out; omega) (Kd.R_reads' F_w0_17.out).2.2 (by have q_ := Kd.R_reads' F_w0_17.out; omega) Q5.out).mono ?_; rintro e w_18 ⟨rfl, hb⟩; have F_w0_18 := Aside0.mk (Kd.R_below F_w0_17.out hb); have U_w0_18 := Aside0.mk (Nat.le_trans U_w0_17.out (Below.size hb)); have F_g0_18 := Aside0.mk (Kd.R_below F_g0_17.out hb); have U_g0_18 := Aside0.mk (Nat.le_trans U_g0_17.out (Below.size hb)); have F_h0_18 := Aside0.mk (Kd.R_below F_h0_17.out hb); have U_h0_18 := Aside0.mk (Nat.le_trans U_h0_17.out (Below.size hb)); have K_w0b_18 := Aside0.mk (blk_below K_w0b_17.out hb); have hc_w0b_0_18 : w_18.cell? ⟨g_w0b, 0, none⟩ = some (.int .i64 y0) := (blk_cell K_w0b_18.out 0).trans rfl; have hc_w0b_1_18 : w_18.cell? ⟨g_w0b, 1, none⟩ = some (.int .i64 y1) := (blk_cell K_w0b_18.out 1).trans rfl; have hc_w0b_2_18 : w_18.cell? ⟨g_w0b, 2, none⟩ = some (.int .i64 y2) := (blk_cell K_w0b_18.out 2).trans rfl; have hc_w0b_3_18 : w_18.cell? ⟨g_w0b, 3, none⟩ = some (.int .i64 y3) := (blk_cell K_w0b_18.out 3).trans rfl; have hc_w0b_4_18 : w_18.cell? ⟨g_w0b, 4, none⟩ = some (.slice A_w0 y4.length c_w0) := (blk_cell K_w0b_18.out 4).trans rfl; have K_g0b_18 := Aside0.mk (blk_below K_g0b_17.out hb); have hc_g0b_0_18 : w_18.cell? ⟨g_g0b, 0, none⟩ = some (.int .i64 z0) := (blk_cell K_g0b_18.out 0).trans rfl; have hc_g0b_1_18 : w_18.cell? ⟨g_g0b, 1, none⟩ = some (.int .i64 z1) := (blk_cell K_g0b_18.out 1).trans rfl; have hc_g0b_2_18 : w_18.cell? ⟨g_g0b, 2, none⟩ = some (.int .i64 z2) := (blk_cell K_g0b_18.out 2).trans rfl; have hc_g0b_3_18 : w_18.cell? ⟨g_g0b, 3, none⟩ = some (.int .i64 z3) := (blk_cell K_g0b_18.out 3).trans rfl; have hc_g0b_4_18 : w_18.cell? ⟨g_g0b, 4, none⟩ = some (.slice A_g0 z4.length c_g0) := (blk_cell K_g0b_18.out 4).trans rfl; have K_h0b_18 := Aside0.mk (blk_below K_h0b_17.out hb); have hc_h0b_0_18 : w_18.cell? ⟨g_h0b, 0, none⟩ = some (.int .i64 z0) := (blk_cell K_h0b_18.out 0).trans rfl; have hc_h0b_1_18 : w_18.cell? ⟨g_h0b, 1, none⟩ = some (.int .i64 z1) := (blk_cell K_h0b_18.out 1).trans rfl; have hc_h0b_2_18 : w_18.cell? ⟨g_h0b, 2, none⟩ = some (.int .i64 z2) := (blk_cell K_h0b_18.out 2).trans rfl; have hc_h0b_3_18 : w_18.cell? ⟨g_h0b, 3, none⟩ = some (.int .i64 z3) := (blk_cell K_h0b_18.out 3).trans rfl; have hc_h0b_4_18 : w_18.cell? ⟨g_h0b, 4, none⟩ = some (.slice A_h0 z4.length c_h0) := (blk_cell K_h0b_18.out 4).trans rfl; have B_18 := Aside0.mk (below_step B_17.out hb); clear hb  F_w0_17 U_w0_17 F_g0_17 U_g0_17 F_h0_17 U_h0_17 K_w0b_17 hc_w0b_0_17 hc_w0b_1_17 hc_w0b_2_17 hc_w0b_3_17 hc_w0b_4_17 K_g0b_17 hc_g0b_0_17 hc_g0b_1_17 hc_g0b_2_17 hc_g0b_3_17 hc_g0b_4_17 K_h0b_17 hc_h0b_0_17 hc_h0b_1_17 hc_h0b_2_17 hc_h0b_3_17 hc_h0b_4_17 B_17) | (go_at_call 23; refine (calls_of_args (args' := #[.agg #[.int .i64 z0, .int .i64 z1, .int .i64 z2, .int .i64 z3, .slice A_g0 z5.length c_g0], .int .i64 1]) (by rw [show z4.length = z5.length from (Kd.R_reads' F_g0_18.out).1]) (laws_heldMaker.calls k z0 z1 z2 z3 A_g0 c_g0 z5 1 q _ ((Kd.R_reads' F_g0_18.out).1 ▸ (Kd.R_reads' F_g0_18.out).2.2) (by have q_ := Kd.R_reads' F_g0_18.out; omega) Q9.out)).mono ?_; rintro e w_19 ⟨rfl, hb⟩; have F_w0_19 := Aside0.mk (Kd.R_below F_w0_18.out hb); have U_w0_19 := Aside0.mk (Nat.le_trans U_w0_18.out (Below.size hb)); have F_g0_19 := Aside0.mk (Kd.R_below F_g0_18.out hb); have U_g0_19 := Aside0.mk (Nat.le_trans U_g0_18.out (Below.size hb)); have F_h0_19 := Aside0.mk (Kd.R_below F_h0_18.out hb); have U_h0_19 := Aside0.mk (Nat.le_trans U_h0_18.out (Below.size hb)); have K_w0b_19 := Aside0.mk (blk_below K_w0b_18.out hb); have hc_w0b_0_19 : w_19.cell? ⟨g_w0b, 0, none⟩ = some (.int .i64 y0) := (blk_cell K_w0b_19.out 0).trans rfl; have hc_w0b_1_19 : w_19.cell? ⟨g_w0b, 1, none⟩ = some (.int .i64 y1) := (blk_cell K_w0b_19.out 1).trans rfl; have hc_w0b_2_19 : w_19.cell? ⟨g_w0b, 2, none⟩ = some (.int .i64 y2) := (blk_cell K_w0b_19.out 2).trans rfl; have hc_w0b_3_19 : w_19.cell? ⟨g_w0b, 3, none⟩ = some (.int .i64 y3) := (blk_cell K_w0b_19.out 3).trans rfl; have hc_w0b_4_19 : w_19.cell? ⟨g_w0b, 4, none⟩ = some (.slice A_w0 y4.length c_w0) := (blk_cell K_w0b_19.out 4).trans rfl; have K_g0b_19 := Aside0.mk (blk_below K_g0b_18.out hb); have hc_g0b_0_19 : w_19.cell? ⟨g_g0b, 0, none⟩ = some (.int .i64 z0) := (blk_cell K_g0b_19.out 0).trans rfl; have hc_g0b_1_19 : w_19.cell? ⟨g_g0b, 1, none⟩ = some (.int .i64 z1) := (blk_cell K_g0b_19.out 1).trans rfl; have hc_g0b_2_19 : w_19.cell? ⟨g_g0b, 2, none⟩ = some (.int .i64 z2) := (blk_cell K_g0b_19.out 2).trans rfl; have hc_g0b_3_19 : w_19.cell? ⟨g_g0b, 3, none⟩ = some (.int .i64 z3) := (blk_cell K_g0b_19.out 3).trans rfl; have hc_g0b_4_19 : w_19.cell? ⟨g_g0b, 4, none⟩ = some (.slice A_g0 z4.length c_g0) := (blk_cell K_g0b_19.out 4).trans rfl; have K_h0b_19 := Aside0.mk (blk_below K_h0b_18.out hb); have hc_h0b_0_19 : w_19.cell? ⟨g_h0b, 0, none⟩ = some (.int .i64 z0) := (blk_cell K_h0b_19.out 0).trans rfl; have hc_h0b_1_19 : w_19.cell? ⟨g_h0b, 1, none⟩ = some (.int .i64 z1) := (blk_cell K_h0b_19.out 1).trans rfl; have hc_h0b_2_19 : w_19.cell? ⟨g_h0b, 2, none⟩ = some (.int .i64 z2) := (blk_cell K_h0b_19.out 2).trans rfl; have hc_h0b_3_19 : w_19.cell? ⟨g_h0b, 3, none⟩ = some (.int .i64 z3) := (blk_cell K_h0b_19.out 3).trans rfl; have hc_h0b_4_19 : w_19.cell? ⟨g_h0b, 4, none⟩ = some (.slice A_h0 z4.length c_h0) := (blk_cell K_h0b_19.out 4).trans rfl; have B_19 := Aside0.mk (below_step B_18.out hb); clear hb  F_w0_18 U_w0_18 F_g0_18 U_g0_18 F_h0_18 U_h0_18 K_w0b_18 hc_w0b_0_18 hc_w0b_1_18 hc_w0b_2_18 hc_w0b_3_18 hc_w0b_4_18 K_g0b_18 hc_g0b_0_18 hc_g0b_1_18 hc_g0b_2_18 hc_g0b_3_18 hc_g0b_4_18 K_h0b_18 hc_h0b_0_18 hc_h0b_1_18 hc_h0b_2_18 hc_h0b_3_18 hc_h0b_4_18 B_18))
    go_ret
    exact ⟨rfl, B_19.out⟩
end Go.Proofs.Ythmjhhkheohgfaa.Q
