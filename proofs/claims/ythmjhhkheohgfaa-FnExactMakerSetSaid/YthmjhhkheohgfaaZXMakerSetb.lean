/- Made by a program of ours out of the print of the loaded functions: for each of some functions a plain function, and the walk that shows that a call comes to what it says. No condition but those of each theorem. -/
import Derived.Test.YthmjhhkheohgfaaZXMakerSet0
import Derived.Test.YthmjhhkheohgfaaZXMakerSeta
namespace Go.Proofs.Ythmjhhkheohgfaa.Q
open Go.RowKit Go.Proofs.YthmjhhkheohgfaaW.PrintWords Go.Proofs.YthmjhhkheohgfaaW.PrintLast Go.Proofs.YthmjhhkheohgfaaW.PrintMore
attribute [local go_sem] max2_int min2_int max_two min_two max_three min_three max_four min_four   -- for this text's walks alone
set_option linter.unusedVariables false
set_option linter.unusedSimpArgs false
theorem qb0_ {P : Prop} (h : P := by repeat (first | (with_reducible first | exact HB.out | apply below_alloc | apply pw_below_drewN | apply below_drew1) | exact HB.out)) : P := h
theorem qb1_ {P : Prop} (h : P := by first | rfl | (simp; done) | (simp [*]; done)) : P := h
theorem qb2_ {P : Prop} (h : P := by repeat (first | (with_reducible first | exact HB.out | apply below_alloc | apply pw_below_drewN | apply below_drew1 | refine below_set ?_ GE451.out) | exact HB.out)) : P := h
theorem qb3_ {P : Prop} (h : P := by (with_reducible repeat (first | apply Kd.S_alloc | apply Kd.S_drewN | apply Kd.S_drew)); exact HO_5.out) : P := h
theorem qb4_ {P : Prop} (h : P := by (with_reducible repeat (first | apply Kd.S_alloc | apply Kd.S_drewN | apply Kd.S_drew)); exact Kd.S_mono (Kd.S_far (p := ⟨gb409, 4, none⟩) (Kd.S_far (p := ⟨gb409, 3, none⟩) (Kd.S_far (p := ⟨gb409, 2, none⟩) (Kd.S_far (p := ⟨gb409, 1, none⟩) (Kd.S_far (p := ⟨gb409, 0, none⟩) (Kd.S_mono HO_5.out (fun k_ hk => (⟨hk, hk.2⟩ : _ ∧ k_ ≠ gb409))) (fun _ hk => hk.2) (.int .i64 ((rd_Maker l0 x7_1).f0))) (fun _ hk => hk.2) (.int .i64 ((rd_Maker l0 x7_1).f1))) (fun _ hk => hk.2) (.int .i64 ((rd_Maker l0 x7_1).f2))) (fun _ hk => hk.2) (.int .i64 ((rd_Maker l0 x7_1).f3))) (fun _ hk => hk.2) (.slice A408_4 ((rd_Maker l0 x7_1).f4).length c408_4)) (fun _ hk => ⟨hk.1.1, hk.1.2⟩)) : P := h
theorem qb5_ {P : Prop} (h : P := by (with_reducible repeat (first | apply Kd.S_alloc | apply Kd.S_drewN | apply Kd.S_drew)); exact HO_3.out) : P := h
theorem qb6_ {P : Prop} (h : P := by repeat (first | (with_reducible first | exact HB.out | apply below_alloc | apply pw_below_drewN | apply below_drew1 | refine below_set ?_ GE374.out | refine below_set ?_ GE375.out) | exact HB.out)) : P := h
theorem qb7_ {P : Prop} (h : P := by (with_reducible repeat (first | apply Kd.S_alloc | apply Kd.S_drewN | apply Kd.S_drew)); exact Kd.S_mono HO_5.out (fun k_ hk => ⟨⟨hk.1.1, hk.1.2⟩, fun e_ => hk.2 e_⟩)) : P := h
theorem qb8_ {P : Prop} (h : P := by repeat (first | (with_reducible first | exact HB.out | apply below_alloc | apply pw_below_drewN | apply below_drew1 | refine below_set ?_ GE374.out) | exact HB.out)) : P := h
theorem qb9_ {P : Prop} (h : P := by first | rfl | (simp [errW_none, errW_some] <;> rfl) | (simp [*, errW_none, errW_some] <;> rfl)) : P := h
theorem qb10_ {P : Prop} (h : P := by (try simp only [List.map_toArray, List.map_cons, List.map_nil]); first | done | rfl | (simp only [List.length_drop, List.length_take]; rfl)) : P := h
theorem qb11_ {P : Prop} (h : P := by (try simp only [List.map_toArray, List.map_cons, List.map_nil]); first | done | rfl) : P := h
theorem qb12_ {P : Prop} (h : P := by (try simp only [List.length_append, List.length_singleton]); have := HN.out; omega) : P := h
theorem qb13_ {P : Prop} (h : P := by have := HK1.out; have := HJ7.out; first | omega | exact Nat.le_refl _) : P := h
theorem qb14_ {P : Prop} (h : P := by repeat (first | (with_reducible first | exact HK.out | apply Kept.alloc | apply Kept.drewN | apply Kept.drew | refine Kept.setCell ?_ (.inr GW389.out) _) | exact HK.out)) : P := h
theorem qb15_ {P : Prop} (h : P := by intro q_ hq_; rw [List.mem_singleton.1 hq_]; rfl) : P := h
theorem qb16_ {P : Prop} (h : P := by have h_ := HA2.out; simpa [hC, hE] using h_) : P := h
theorem qb17_ {P : Prop} (h : P := by rw [hw]; exact below_set HB.out GB.out) : P := h
theorem qbh0_ {P : Prop} (h : P := by repeat' first | (with_reducible exact ih0 _ _ _) | (with_reducible exact laws_toMaker.mono _ _ _ _ _ _) | (with_reducible exact LeO.refl _) | (with_reducible exact LeO.none _) | (with_reducible refine LeO.ite ?_ ?_) | (with_reducible refine LeO.bind ?_ (fun _ => ?_)) | exact ih0 _ _ _ | exact laws_toMaker.mono _ _ _ _ _ _ | exact LeO.none _ | refine LeO.ite ?_ ?_ | refine LeO.bind ?_ (fun _ => ?_)) : P := h
theorem qbh1_ {P : Prop} (h : P := by repeat' first | (with_reducible exact ih0 _ _ _ _ _ _ _ _ _) | (with_reducible exact ih1 _ _ _ _ _ _ _ _ _ _ _ _ _ _ _) | (with_reducible exact ih2 _ _ _ _ _ _ _ _ _ _ _ _ _ _ _) | (with_reducible exact LeO.refl _) | (with_reducible exact LeO.none _) | (with_reducible refine LeO.ite ?_ ?_) | (with_reducible refine LeO.bind ?_ (fun _ => ?_)) | exact ih0 _ _ _ _ _ _ _ _ _ | exact ih1 _ _ _ _ _ _ _ _ _ _ _ _ _ _ _ | exact ih2 _ _ _ _ _ _ _ _ _ _ _ _ _ _ _ | exact LeO.none _ | refine LeO.ite ?_ ?_ | refine LeO.bind ?_ (fun _ => ?_)) : P := h
theorem qbh2_ {P : Prop} (h : P := by repeat' first | (with_reducible exact ih0 _ _ _ _) | (with_reducible exact LeO.refl _) | (with_reducible exact LeO.none _) | (with_reducible refine LeO.ite ?_ ?_) | (with_reducible refine LeO.bind ?_ (fun _ => ?_)) | exact ih0 _ _ _ _ | exact LeO.none _ | refine LeO.ite ?_ ?_ | refine LeO.bind ?_ (fun _ => ?_)) : P := h

/-! ### laws_toMakerS: function 17 -/
def laws_toMakerS.l0 : Nat → List (S_LMaker) → List (S_Maker) → Int → Option ((List (S_Maker)))
  | 0, _, _, _ => none
  | k + 1, x0, x3, x4 => if x4 < (x0.length : Int) then (if 0 ≤ x4 then ((laws_toMaker.f k ((rd_LMaker x0 x4).f0) ((rd_LMaker x0 x4).f1) ((rd_LMaker x0 x4).f2) ((rd_LMaker x0 x4).f3) ((rd_LMaker x0 x4).f4)).bind fun bt366 => (if x4 < (x3.length : Int) then (laws_toMakerS.l0 k x0 (x3.set (x4 : Int).toNat (⟨bt366.1, bt366.2.1, bt366.2.2.1, bt366.2.2.2.1, bt366.2.2.2.2⟩ : S_Maker)) (wrap64 (x4 + 1))) else (none))) else (none)) else (some x3)
def laws_toMakerS.f (k : Nat) (l0 : List (S_LMaker)) : Option ((List (S_Maker))) := if 0 ≤ (l0.length : Int) then (if ((l0.length : Int) : Int).toNat ≤ 5026338869833 then (laws_toMakerS.l0 k l0 (List.replicate ((l0.length : Int) : Int).toNat z_Maker) 0) else (none)) else (none)
theorem laws_toMakerS.mono_l : ∀ k, (∀ y0 y1 y2, LeO (laws_toMakerS.l0 k y0 y1 y2) (laws_toMakerS.l0 (k + 1) y0 y1 y2))
  | 0 => fun _ _ _ r h => by simp [laws_toMakerS.l0] at h
  | k + 1 => by
    have ih0 := laws_toMakerS.mono_l k
    · intro y0 y1 y2
      unfold laws_toMakerS.l0
      exact qbh0_
theorem laws_toMakerS.mono : ∀ a0 k, LeO (laws_toMakerS.f k a0) (laws_toMakerS.f (k + 1) a0) := by
  intro a0 k
  have ih0 := laws_toMakerS.mono_l k
  unfold laws_toMakerS.f
  exact qbh0_
set_option maxHeartbeats 8000000 in
set_option maxRecDepth 100000 in
theorem laws_toMakerS.calls (k : Nat) (A0 : Option Addr) (c0 : Nat) (l0 : List (S_LMaker)) (r : List (S_Maker)) (w : World) (hr0 : Kd.C k_LMaker w A0 l0.length l0) (hc0 : l0.length ≤ c0) (h : laws_toMakerS.f k l0 = some r) :
    Calls Try.prog 17 #[.slice A0 l0.length c0] w fun e w' => ∃ v0_ : Value, e = .returned (v0_) ∧ Kd.S k_Maker 38 w' w.heap.size (fun _ => True) v0_ r ∧ Below w.heap.size w w' := by
  have hu49 := Try.underlying49
  have hu38 := Try.underlying38
  have HR0 := Aside0.mk hr0
  have HC0 := Aside0.mk hc0
  clear hr0 hc0
  have HB := Aside0.mk (Below.refl w.heap.size w)
  have H : (if 0 ≤ (l0.length : Int) then (if ((l0.length : Int) : Int).toNat ≤ 5026338869833 then (laws_toMakerS.l0 k l0 (List.replicate ((l0.length : Int) : Int).toNat z_Maker) 0) else (none)) else (none)) = some r := h
  clear h
  by_cases c2 : 0 ≤ (l0.length : Int)
  · rw [if_pos c2] at H
    have c2b0 := eq_true c2
    have c2b1 : decide (0 ≤ (l0.length : Int)) = true := decide_eq_true c2
    clear c2
    by_cases c3 : ((l0.length : Int) : Int).toNat ≤ 5026338869833
    · rw [if_pos c3] at H
      have c3b0 := eq_true c3
      have c3b1 : decide (((l0.length : Int) : Int).toNat ≤ 5026338869833) = true := decide_eq_true c3
      clear c3
      obtain ⟨y362, hy362⟩ : ∃ y_ : List (S_Maker), y_ = (List.replicate ((l0.length : Int) : Int).toNat z_Maker) := ⟨_, rfl⟩
      replace H : (laws_toMakerS.l0 k l0 y362 0) = some r := by first | (rw [hy362]; with_reducible exact H) | (have H2_ := (Option.bind_some _ _).symm.trans H; rw [hy362]; with_reducible exact H2_) | (have H2_ := (Option.bind_some _ _).symm.trans H; with_reducible exact H2_) | with_reducible exact H | (rw [hy362]; exact H) | exact H
      have Ny362 := Aside0.mk hy362
      clear hy362
      have H' := Aside0.mk H
      clear H
      go_enter Try.func17, Try.ntmps17
      go_wp2_with (first | ((with_reducible refine gate_dst (N := 7) rfl ?_); refine Kd.S_make k_Maker _ 38 rfl (N := 7) rfl 40 _ _ rfl (l0.length : Int) rfl rfl Try.underlying40 (.agg #[(.int .i64 0), (.int .i64 0), (.int .i64 0), (.int .i64 0), (.slice none 0 0)]) 56 info38 rfl (by decide) (by omega) z_Maker (ok := fun _ => True) (okp := fun _ => True) (k_Maker_mkM _ _ _ z_Maker (Kd.R_nil _ _ _ _ _)) (fun _ hk => hk) trivial (of_decide_eq_true dt_) (Nat.le_trans (Nat.mul_le_mul_right _ (of_decide_eq_true dt_ : (l0.length : Int).toNat ≤ 5026338869833)) (by omega)) (Below.refl _ _) (Nat.le_refl _) ?_; intro v363 w4 ho5 hb hg_ hnew_; clear hg_ hnew_; (first | rw [← Ny362.out] at ho5 | (simp only [Int.reduceToNat] at ho5; rw [← Ny362.out] at ho5)); have HO364 := Aside0.mk (Kd.S_lower ho5 (below_size (qb0_))); replace HB := Aside0.mk (below_step (qb0_) hb); clear hb ho5))
      go_loopg [4] k (fun kq v4 w' => ∃ (x3_1 : List (S_Maker)) (x4_1 : Int), v4 = .int .i64 x4_1 ∧ Aside0 (laws_toMakerS.l0 kq l0 x3_1 x4_1 = some r) ∧ Aside0 (kq ≤ k) ∧ Aside0 (Kd.S k_Maker 38 w' w.heap.size (fun _ => True) v363 x3_1) ∧ Aside0 (Below w.heap.size w w'))
      case atStart => exact ⟨(y362), (0), (qb1_), H', ⟨Nat.le_refl _⟩, ⟨by (with_reducible repeat (first | apply Kd.S_alloc | apply Kd.S_drewN | apply Kd.S_drew)); exact HO364.out⟩, ⟨qb0_⟩⟩
      case round =>
        clear H'
        try clear c1
        try clear c2
        try clear c2b0
        try clear c2b1
        try clear p2
        try clear c3
        try clear c3b0
        try clear c3b1
        obtain ⟨x3_1, x4_1, rfl, HA, HK1, HO_3, HB⟩ := hrel
        cases gk with
        | zero => exact absurd HA.out (by simp [laws_toMakerS.l0])
        | succ k1 =>
          have H := HA.out
          clear HA
          simp only [laws_toMakerS.l0] at H
          by_cases c6 : x4_1 < (l0.length : Int)
          · rw [if_pos c6] at H
            have c6b0 : decide (x4_1 < (l0.length : Int)) = true := decide_eq_true c6
            clear c6
            by_cases c7 : 0 ≤ x4_1
            · rw [if_pos c7] at H
              have c7b0 : decide (0 ≤ x4_1) = true := decide_eq_true c7
              clear c7
              replace H := Option.bind_eq_some_iff.mp H
              obtain ⟨⟨t366, t367, t368, t369, t370⟩, A80, H⟩ := H
              replace H : (if x4_1 < (x3_1.length : Int) then (laws_toMakerS.l0 k1 l0 (x3_1.set (x4_1 : Int).toNat (⟨t366, t367, t368, t369, t370⟩ : S_Maker)) (wrap64 (x4_1 + 1))) else (none)) = some r := H
              have A8 := Aside0.mk A80
              clear A80
              by_cases c9 : x4_1 < (x3_1.length : Int)
              · rw [if_pos c9] at H
                have c9b0 : decide (x4_1 < (x3_1.length : Int)) = true := decide_eq_true c9
                clear c9
                obtain ⟨y373, hy373⟩ : ∃ y_ : List (S_Maker), y_ = (x3_1.set (x4_1 : Int).toNat (⟨t366, t367, t368, t369, t370⟩ : S_Maker)) := ⟨_, rfl⟩
                replace H : (laws_toMakerS.l0 k1 l0 y373 (wrap64 (x4_1 + 1))) = some r := by first | (rw [hy373]; with_reducible exact H) | (have H2_ := (Option.bind_some _ _).symm.trans H; rw [hy373]; with_reducible exact H2_) | (have H2_ := (Option.bind_some _ _).symm.trans H; with_reducible exact H2_) | with_reducible exact H | (rw [hy373]; exact H) | exact H
                have Ny373 := Aside0.mk hy373
                clear hy373
                have H' := Aside0.mk H
                clear H
                have p365 : 0 ≤ (x4_1 : Int) := of_decide_eq_true dt_
                have q365 : x4_1 < (l0.length : Int) := of_decide_eq_true dt_
                obtain ⟨ad365, A365_4, c365_4, e365, hx365_0, hx365_1, hx365_2, hx365_3, hx365_4, hl365_4, hi365_4⟩ := at_LMaker HR0.out x4_1 p365 q365
                cases e365
                replace hx365_0 := hc_ HB hx365_0
                replace hx365_1 := hc_ HB hx365_1
                replace hx365_2 := hc_ HB hx365_2
                replace hx365_3 := hc_ HB hx365_3
                replace hx365_4 := hc_ HB hx365_4
                have HR365_4 := Aside0.mk hi365_4
                have HC365_4 := Aside0.mk hl365_4
                clear hi365_4 hl365_4
                replace p365 := eq_true p365
                replace q365 := eq_true q365
                go_wp2_with (first | ((with_reducible refine gate_callee (f := 26) rfl ?_); refine goesL_ (some 20) rfl rfl Try.func26 (by kernel_rfl) rfl #[.agg #[.int .i64 ((rd_LMaker l0 x4_1).f0), .int .i64 ((rd_LMaker l0 x4_1).f1), .int .i64 ((rd_LMaker l0 x4_1).f2), .int .i64 ((rd_LMaker l0 x4_1).f3), .slice A365_4 ((rd_LMaker l0 x4_1).f4).length c365_4]] rfl (qb10_) ?_; (with_reducible refine (laws_toMaker.calls k1 ((rd_LMaker l0 x4_1).f0) ((rd_LMaker l0 x4_1).f1) ((rd_LMaker l0 x4_1).f2) ((rd_LMaker l0 x4_1).f3) _ _ ((rd_LMaker l0 x4_1).f4) t366 t367 t368 t369 t370 _ ?side1 ?side2 A8.out).mono ?_); (case side1 => repeat (first | exact (Kd.C_below HR365_4.out HB.out) | (with_reducible refine Kd.C_alloc ?_ _) | (with_reducible refine Kd.C_drewN ?_ _) | (with_reducible refine Kd.C_drew ?_))); (case side2 => exact HC365_4.out); rintro e w11 ⟨v371, rfl, ho0, hb⟩; refine ⟨_, rfl, ?_⟩; have HO372 := Aside0.mk (Kd.R_lower ho0 (below_size (qb0_))); replace HO_3 := Aside0.mk (Kd.S_elder' (qb5_) (Kd.R_base ho0) hb); replace HB := Aside0.mk (below_step (qb0_) hb); (try clear hb); (try clear hb2); (try clear hk); (try clear hi); (try clear ho0); have p10 : 0 ≤ (x4_1 : Int) := of_decide_eq_true dt_; have q10 : (x4_1 : Int) < ((x3_1.length : Int) : Int) := of_decide_eq_true dt_; obtain ⟨go10, co10, eo10, gb10, gl10, cl10, HG10⟩ := Kd.S_form HO_3.out (by omega); (first | cases eo10 | (injection eo10 with ea_ en_ ec_; (first | subst ea_ | (injection ea_ with ea_; subst ea_)); subst ec_; clear en_)); have GB10 := Aside0.mk gb10; have GG10 := Aside0.mk HG10; clear gb10 gl10 HG10; obtain ⟨_, ce10, hcl10, hM10, hcc10, hfr10, _, _⟩ := Kd.S_elem HO_3.out z_Maker (x4_1 : Int) p10 q10; obtain ⟨ve10_4, rfl, ge10_4⟩ := k_Maker_openM hM10; have hx10_0 : w11.cell? ⟨go10, (x4_1 : Int).toNat * 5, none⟩ = some (.int .i64 ((rd_Maker x3_1 x4_1).f0)) := hcc10 0 _ rfl; have hx10_1 : w11.cell? ⟨go10, (x4_1 : Int).toNat * 5 + 1, none⟩ = some (.int .i64 ((rd_Maker x3_1 x4_1).f1)) := hcc10 1 _ rfl; have hx10_2 : w11.cell? ⟨go10, (x4_1 : Int).toNat * 5 + 2, none⟩ = some (.int .i64 ((rd_Maker x3_1 x4_1).f2)) := hcc10 2 _ rfl; have hx10_3 : w11.cell? ⟨go10, (x4_1 : Int).toNat * 5 + 3, none⟩ = some (.int .i64 ((rd_Maker x3_1 x4_1).f3)) := hcc10 3 _ rfl; have hx10_4 : w11.cell? ⟨go10, (x4_1 : Int).toNat * 5 + 4, none⟩ = some (ve10_4) := hcc10 4 _ rfl; have hf10_0 : w11.frozen? ⟨go10, (x4_1 : Int).toNat * 5, none⟩ = false := hfr10 0; have hf10_1 : w11.frozen? ⟨go10, (x4_1 : Int).toNat * 5 + 1, none⟩ = false := hfr10 1; have hf10_2 : w11.frozen? ⟨go10, (x4_1 : Int).toNat * 5 + 2, none⟩ = false := hfr10 2; have hf10_3 : w11.frozen? ⟨go10, (x4_1 : Int).toNat * 5 + 3, none⟩ = false := hfr10 3; have hf10_4 : w11.frozen? ⟨go10, (x4_1 : Int).toNat * 5 + 4, none⟩ = false := hfr10 4; clear hcl10 hcc10 hfr10 hM10; replace p10 := eq_true p10; replace q10 := eq_true q10; obtain ⟨Ao14, co14, eo14⟩ := Kd.R_slice HO372.out; subst eo14; have n_ := Aside0.mk (Kd.S_mono (ok' := (fun k_ => some k_ ≠ (.slice Ao14 t370.length co14 : Value).ownBlock)) HO_3.out (fun k_ hk => hk.2)); clear HO_3; have HO_3 := n_; clear n_; have HX12 := Aside0.mk (show Kd.S k_Maker 38 w11 w.heap.size (fun k_ => ((fun _ => True)) k_ ∧ ¬ ((fun k_ => some k_ = (.slice Ao14 t370.length co14 : Value).ownBlock)) k_) (.slice (some ⟨go10, 0, none⟩) x3_1.length co10) x3_1 from (by (with_reducible repeat (first | apply Kd.S_alloc | apply Kd.S_drewN | apply Kd.S_drew)); exact Kd.S_mono HO_3.out (fun k_ hk => ⟨trivial, fun e_ => hk e_⟩))); obtain ⟨oki12, ce12, hcl12, hM12, hcc12, hfr12, hoki12, hH12⟩ := Kd.S_elem HX12.out z_Maker (x4_1 : Int) (of_decide_eq_true dt_) (by have h_ : (x4_1 : Int) < ((x3_1.length : Int) : Int) := of_decide_eq_true dt_; first | exact h_ | (have e_ := (Kd.S_reads' HO_3.out).1; omega) | simpa using h_); obtain ⟨ve12_4, rfl, ge12_4⟩ := k_Maker_openM hM12; have HP12 := Kd.S_seg hH12 (of_decide_eq_true dt_) (by have h_ : (x4_1 : Int) < ((x3_1.length : Int) : Int) := of_decide_eq_true dt_; first | exact h_ | (have e_ := (Kd.S_reads' HO_3.out).1; omega) | simpa using h_) (seg := [.int .i64 t366, .int .i64 t367, .int .i64 t368, .int .i64 t369, .slice Ao14 t370.length co14]) (j := 0) (show 5 ≤ 5 from by decide) (x' := (⟨t366, t367, t368, t369, t370⟩ : S_Maker)) (k_Maker_mkM _ _ _ (⟨t366, t367, t368, t369, t370⟩ : S_Maker) (Kd.R_mono (Kd.R_tight rfl (Kd.R_mono (ok' := fun k_ => ((fun _ => True)) k_ ∧ k_ ≠ go10) (Kd.R_apart' (HO372.out) (Kd.S_typed HO_3.out) (by decide)) (fun k_ hk => ⟨trivial, fun e_ => (hk.2) (by rw [e_]; rfl)⟩))) (fun _ h_ => Or.inr (h_)))) (fun _ hk => hk) (fun k_ hk_ => ((Kd.R_mono (ok' := fun k_ => ((fun _ => True)) k_ ∧ k_ ≠ go10) (Kd.R_apart' (HO372.out) (Kd.S_typed HO_3.out) (by decide)) (fun k_ hk => ⟨trivial, fun e_ => (hk.2) (by rw [e_]; rfl)⟩))).1 k_ hk_.symm); have hx12_0 := hcc12 0 _ rfl; (try simp only [show (k_Maker).sz = 5 from rfl, Nat.mul_one, Nat.add_zero] at hx12_0); have hf12_0 := hfr12 0; (try simp only [show (k_Maker).sz = 5 from rfl, Nat.mul_one, Nat.add_zero] at hf12_0); have hx12_1 := hcc12 1 _ rfl; (try simp only [show (k_Maker).sz = 5 from rfl, Nat.mul_one, Nat.add_zero] at hx12_1); have hf12_1 := hfr12 1; (try simp only [show (k_Maker).sz = 5 from rfl, Nat.mul_one, Nat.add_zero] at hf12_1); have hx12_2 := hcc12 2 _ rfl; (try simp only [show (k_Maker).sz = 5 from rfl, Nat.mul_one, Nat.add_zero] at hx12_2); have hf12_2 := hfr12 2; (try simp only [show (k_Maker).sz = 5 from rfl, Nat.mul_one, Nat.add_zero] at hf12_2); have hx12_3 := hcc12 3 _ rfl; (try simp only [show (k_Maker).sz = 5 from rfl, Nat.mul_one, Nat.add_zero] at hx12_3); have hf12_3 := hfr12 3; (try simp only [show (k_Maker).sz = 5 from rfl, Nat.mul_one, Nat.add_zero] at hf12_3); have hx12_4 := hcc12 4 _ rfl; (try simp only [show (k_Maker).sz = 5 from rfl, Nat.mul_one, Nat.add_zero] at hx12_4); have hf12_4 := hfr12 4; (try simp only [show (k_Maker).sz = 5 from rfl, Nat.mul_one, Nat.add_zero] at hf12_4); clear hcl12 hcc12 hfr12 hM12 hoki12 hH12) | ((with_reducible refine gate_store (t := 38) (p := 21) rfl ?_); refine store_event (t := 38) (p := 21) (v := ?vo_w13) (w1 := (((((w11.setCell ⟨go10, (x4_1 : Int).toNat * 5, none⟩ (.int .i64 t366)).setCell ⟨go10, (x4_1 : Int).toNat * 5 + 1, none⟩ (.int .i64 t367)).setCell ⟨go10, (x4_1 : Int).toNat * 5 + 2, none⟩ (.int .i64 t368)).setCell ⟨go10, (x4_1 : Int).toNat * 5 + 3, none⟩ (.int .i64 t369)).setCell ⟨go10, (x4_1 : Int).toNat * 5 + 4, none⟩ (.slice Ao14 t370.length co14))) ?hg ?ho ?hn ?hr ?_; (case ho => rfl); (case hg => rfl); (case hn => rfl); (case hr => first | (go_simp; done) | (go_simp; rfl)); intro w13 hw; have hg : w11.grownBy w13 (some go10) := (by rw [hw]; exact HP12.2); have hp_ : Kd.S k_Maker 38 w13 w.heap.size (fun _ => True) (.slice (some ⟨go10, 0, none⟩) x3_1.length co10) y373 := (by rw [hw, Ny373.out]; exact HP12.1); clear HP12; replace HO_3 := Aside0.mk (hp_); replace HB := Aside0.mk ((by rw [hw]; exact below_set (below_set (below_set (below_set (below_set (HB.out) GB10.out) GB10.out) GB10.out) GB10.out) GB10.out : Below w.heap.size w w13)); clear HO372; clear hg hw hp_))
                go_roundg k1
                case measure => have := HK1.out; omega
                case rel => exact ⟨(y373), (wrap64 (x4_1 + 1)), (qb1_), H', ⟨by have := HK1.out; omega⟩, ⟨qb5_⟩, ⟨qb0_⟩⟩
              · rw [if_neg c9] at H
                exact absurd H (by simp)
            · rw [if_neg c7] at H
              exact absurd H (by simp)
          · rw [if_neg c6] at H
            have c6b0 : decide (x4_1 < (l0.length : Int)) = false := decide_eq_false c6
            clear c6
            obtain rfl := Option.some.inj H
            go_wp2
            go_ret
            exact ⟨_, qb9_, qb5_, qb0_⟩
    · rw [if_neg c3] at H
      exact absurd H (by simp)
  · rw [if_neg c2] at H
    exact absurd H (by simp)
/-! ### impl_copyMaker: function 61 -/
def impl_copyMaker.f (a0_0 : Int) (a0_1 : Int) (a0_2 : Int) (a0_3 : Int) (l0_4 : List (S_Mark)) : Option (Int × Int × Int × Int × (List (S_Mark))) := if ([] : List (S_Mark)).length + l0_4.length < 8796093022208 then (some (a0_0, a0_1, a0_2, a0_3, (([] : List (S_Mark)) ++ l0_4))) else (none)
set_option maxHeartbeats 8000000 in
set_option maxRecDepth 100000 in
theorem impl_copyMaker.calls (a0_0 : Int) (a0_1 : Int) (a0_2 : Int) (a0_3 : Int) (A0_4 : Option Addr) (c0_4 : Nat) (l0_4 : List (S_Mark)) (r1 : Int) (r2 : Int) (r3 : Int) (r4 : Int) (r5 : List (S_Mark)) (w : World) (hr0_4 : Kd.C k_Mark w A0_4 l0_4.length l0_4) (hc0_4 : l0_4.length ≤ c0_4) (h : impl_copyMaker.f a0_0 a0_1 a0_2 a0_3 l0_4 = some (r1, r2, r3, r4, r5)) :
    Calls Try.prog 61 #[.agg #[.int .i64 a0_0, .int .i64 a0_1, .int .i64 a0_2, .int .i64 a0_3, .slice A0_4 l0_4.length c0_4]] w fun e w' => ∃ v4_ : Value, e = .returned (.agg #[.int .i64 r1, .int .i64 r2, .int .i64 r3, .int .i64 r4, v4_]) ∧ Kd.R k_Mark 110 w' w.heap.size (fun _ => True) v4_ r5 ∧ Below w.heap.size w w' := by
  have hu38 := Try.underlying38
  have HR0_4 := Aside0.mk hr0_4
  have HC0_4 := Aside0.mk hc0_4
  clear hr0_4 hc0_4
  have HB := Aside0.mk (Below.refl w.heap.size w)
  have H : (if ([] : List (S_Mark)).length + l0_4.length < 8796093022208 then (some (a0_0, a0_1, a0_2, a0_3, (([] : List (S_Mark)) ++ l0_4))) else (none)) = some (r1, r2, r3, r4, r5) := h
  clear h
  by_cases c2 : ([] : List (S_Mark)).length + l0_4.length < 8796093022208
  · rw [if_pos c2] at H
    have LMc2 := Aside0.mk c2
    clear c2
    obtain ⟨y376, hy376⟩ : ∃ y_ : List (S_Mark), y_ = (([] : List (S_Mark)) ++ l0_4) := ⟨_, rfl⟩
    replace H : (some (a0_0, a0_1, a0_2, a0_3, y376)) = some (r1, r2, r3, r4, r5) := by first | (rw [hy376]; with_reducible exact H) | (have H2_ := (Option.bind_some _ _).symm.trans H; rw [hy376]; with_reducible exact H2_) | (have H2_ := (Option.bind_some _ _).symm.trans H; with_reducible exact H2_) | with_reducible exact H | (rw [hy376]; exact H) | exact H
    have Ny376 := Aside0.mk hy376
    clear hy376
    simp only [Option.some.injEq, Prod.mk.injEq] at H
    obtain ⟨rfl, rfl, rfl, rfl, rfl⟩ := H
    go_enter Try.func61, Try.ntmps61
    go_wp2_with (first | ((with_reducible refine gate_dst (N := 1) rfl ?_); refine box_event ?hg (N := 1) ?hd (cs := #[.int .i64 a0_0, .int .i64 a0_1, .int .i64 a0_2, .int .i64 a0_3, .slice A0_4 l0_4.length c0_4]) (t := 38) ?hr ?_; (case hd => rfl); (case hg => rfl); (case hr => first | (go_simp; done) | (go_simp; rfl)); intro gb374 hg w3 hbox hb; have BK374 := Aside0.mk (hbox); have GW374 := Aside0.mk ((by rw [hg]; exact (below_size (qb0_)) : w.heap.size ≤ gb374)); have GE374 := Aside0.mk ((by rw [hg]; exact (below_size (qb0_)) : w.heap.size ≤ gb374)); replace HB := Aside0.mk (below_step (qb0_) hb); clear hb hbox hg) | ((with_reducible refine gate_dst (N := 2) rfl ?_); refine box_event ?hg (N := 2) ?hd (cs := #[.int .i64 0, .int .i64 0, .int .i64 0, .int .i64 0, .slice none 0 0]) (t := 38) ?hr ?_; (case hd => rfl); (case hg => rfl); (case hr => first | (go_simp; done) | (go_simp; rfl)); intro gb375 hg w4 hbox hb; have BK375 := Aside0.mk (hbox); have GW375 := Aside0.mk ((by rw [hg]; exact (below_size (qb8_)) : w.heap.size ≤ gb375)); have GE375 := Aside0.mk ((by rw [hg]; exact (below_size (qb8_)) : w.heap.size ≤ gb375)); have NB374_375 := Aside0.mk ((by rw [hg]; exact Nat.ne_of_lt (blk_lt (g := gb374) (o := .cells #[.int .i64 a0_0, .int .i64 a0_1, .int .i64 a0_2, .int .i64 a0_3, .slice A0_4 l0_4.length c0_4] 38 (0, 0)) (bq_ BK374.out)) : gb374 ≠ gb375)); have NB375_374 := Aside0.mk ((by rw [hg]; exact Nat.ne_of_gt (blk_lt (g := gb374) (o := .cells #[.int .i64 a0_0, .int .i64 a0_1, .int .i64 a0_2, .int .i64 a0_3, .slice A0_4 l0_4.length c0_4] 38 (0, 0)) (bq_ BK374.out)) : gb375 ≠ gb374)); replace BK374 := Aside0.mk (blk_below (g := gb374) (o := .cells #[.int .i64 a0_0, .int .i64 a0_1, .int .i64 a0_2, .int .i64 a0_3, .slice A0_4 l0_4.length c0_4] 38 (0, 0)) (bq_ BK374.out) hb); replace HB := Aside0.mk (below_step (qb8_) hb); clear hb hbox hg; have hnb5 := NB374_375.out; have hnc5 := NB375_374.out; have hcz6_0 : w4.cell? ⟨gb374, 0, none⟩ = some (.int .i64 a0_0) := bc_ BK374 0; have hcz6_1 : w4.cell? ⟨gb374, 1, none⟩ = some (.int .i64 a0_1) := bc_ BK374 1; have hcz6_2 : w4.cell? ⟨gb374, 2, none⟩ = some (.int .i64 a0_2) := bc_ BK374 2; have hcz6_3 : w4.cell? ⟨gb374, 3, none⟩ = some (.int .i64 a0_3) := bc_ BK374 3; have hcz6_4 : w4.cell? ⟨gb374, 4, none⟩ = some (.slice A0_4 l0_4.length c0_4) := bc_ BK374 4; have hfz6_0 := blk_frozen BK374.out 0; have hfz6_1 := blk_frozen BK374.out 1; have hfz6_2 := blk_frozen BK374.out 2; have hfz6_3 := blk_frozen BK374.out 3; have hfz6_4 := blk_frozen BK374.out 4) | ((with_reducible refine gate_builtin (b := .append) (xs := #[.const (.slice none 0 0), .tmp 4]) rfl ?_); at_builtin; refine Kd.R_append_rows k_Mark (w0 := w) w.heap.size rfl (.const (.slice none 0 0)) (.tmp 4) 36 110 (.agg #[(.int .i64 0), (.int .i64 0)]) 16 rfl Try.underlying36 info110 rfl (by decide) (by omega) (.slice none 0 0) ([] : List (S_Mark)) l0_4 _ _ _ (fun _ => True) (fun _ => False) rfl rfl ?aO ?aR (fun _ _ h => h) (fun _ h => h.elim) ?aF ?aB ?aS ?aL ?_; (case aR => repeat (first | exact (Kd.C_below HR0_4.out HB.out) | (with_reducible refine Kd.C_alloc ?_ _) | (with_reducible refine Kd.C_drewN ?_ _) | (with_reducible refine Kd.C_drew ?_))); (case aB => exact (qb6_)); (case aF => exact (fun _ _ => trivial)); (case aO => exact ((Kd.R_nil _ _ _ _ (fun _ => True)))); (case aS => exact (below_size (qb6_))); (case aL => have := LMc2.out; omega); intro v377 w7 ho hb hg hat; rw [← Ny376.out] at ho; have HO378 := Aside0.mk (ho); replace BK374 := Aside0.mk (blk_grown (g := gb374) (o := .cells #[.int .i64 a0_0, .int .i64 a0_1, .int .i64 a0_2, .int .i64 a0_3, .slice A0_4 l0_4.length c0_4] 38 (0, 0)) (bq_ BK374.out) hg (by simp [Value.ownBlock])); replace BK375 := Aside0.mk (blk_grown (g := gb375) (o := .cells #[.int .i64 0, .int .i64 0, .int .i64 0, .int .i64 0, .slice none 0 0] 38 (0, 0)) (bq_ BK375.out) hg (by simp [Value.ownBlock])); replace HB := Aside0.mk (hb); clear ho hb hg hat; obtain ⟨Ao8, co8, eo8⟩ := Kd.R_slice HO378.out; subst eo8; have hcz9_0 : w7.cell? ⟨gb374, 0, none⟩ = some (.int .i64 a0_0) := bc_ BK374 0; have hcz9_1 : w7.cell? ⟨gb374, 1, none⟩ = some (.int .i64 a0_1) := bc_ BK374 1; have hcz9_2 : w7.cell? ⟨gb374, 2, none⟩ = some (.int .i64 a0_2) := bc_ BK374 2; have hcz9_3 : w7.cell? ⟨gb374, 3, none⟩ = some (.int .i64 a0_3) := bc_ BK374 3; have hcz9_4 : w7.cell? ⟨gb374, 4, none⟩ = some (.slice A0_4 l0_4.length c0_4) := bc_ BK374 4; have hfz9_0 := blk_frozen BK374.out 0; have hfz9_1 := blk_frozen BK374.out 1; have hfz9_2 := blk_frozen BK374.out 2; have hfz9_3 := blk_frozen BK374.out 3; have hfz9_4 := blk_frozen BK374.out 4; have hcz10_0 : w7.cell? ⟨gb375, 0, none⟩ = some (.int .i64 0) := bc_ BK375 0; have hcz10_1 : w7.cell? ⟨gb375, 1, none⟩ = some (.int .i64 0) := bc_ BK375 1; have hcz10_2 : w7.cell? ⟨gb375, 2, none⟩ = some (.int .i64 0) := bc_ BK375 2; have hcz10_3 : w7.cell? ⟨gb375, 3, none⟩ = some (.int .i64 0) := bc_ BK375 3; have hcz10_4 : w7.cell? ⟨gb375, 4, none⟩ = some (.slice none 0 0) := bc_ BK375 4; have hfz10_0 := blk_frozen BK375.out 0; have hfz10_1 := blk_frozen BK375.out 1; have hfz10_2 := blk_frozen BK375.out 2; have hfz10_3 := blk_frozen BK375.out 3; have hfz10_4 := blk_frozen BK375.out 4))
    refine bodyPost_ret (results_cell_row rfl _ _ gb375 38 #[.int .i64 a0_0, .int .i64 a0_1, .int .i64 a0_2, .int .i64 a0_3, .slice Ao8 y376.length co8] (0, 0) _ rfl (by_ BK375.out) Try.underlying38 rfl (by kernel_rfl)) rfl ?_
    exact ⟨_, qb9_, by (with_reducible repeat (first | apply Kd.R_alloc | apply Kd.R_drewN | apply Kd.R_drew)); exact Kd.R_mono (Kd.R_far (p := ⟨gb375, 4, none⟩) (Kd.R_far (p := ⟨gb375, 3, none⟩) (Kd.R_far (p := ⟨gb375, 2, none⟩) (Kd.R_far (p := ⟨gb375, 1, none⟩) (Kd.R_far (p := ⟨gb375, 0, none⟩) (Kd.R_far (p := ⟨gb374, 4, none⟩) (Kd.R_types (Kd.R_types HO378.out BK374.out (by decide)) BK375.out (by decide)) (fun _ hk => hk.1.2) (.slice Ao8 y376.length co8)) (fun _ hk => hk.2) (.int .i64 a0_0)) (fun _ hk => hk.2) (.int .i64 a0_1)) (fun _ hk => hk.2) (.int .i64 a0_2)) (fun _ hk => hk.2) (.int .i64 a0_3)) (fun _ hk => hk.2) (.slice Ao8 y376.length co8)) (fun _ hk => trivial), qb6_⟩
  · rw [if_neg c2] at H
    exact absurd H (by simp)

/-! ### laws_markMaker: function 22 -/
def laws_markMaker.f (k : Nat) (a0_0 : Int) (a0_1 : Int) (a0_2 : Int) (a0_3 : Int) (l0_4 : List (S_Mark)) (a1 : Int) : Option (Int × (List (S_Mark))) := (laws_markMarkS.f k l0_4 a1).bind fun bt390 => (some (bt390.1, bt390.2))
theorem laws_markMaker.mono : ∀ a0 a1 a2 a3 a4 a5 k, LeO (laws_markMaker.f k a0 a1 a2 a3 a4 a5) (laws_markMaker.f (k + 1) a0 a1 a2 a3 a4 a5) := by
  intro a0 a1 a2 a3 a4 a5 k
  unfold laws_markMaker.f
  repeat' first
      | (with_reducible exact laws_markMarkS.mono _ _ _)
      | (with_reducible exact LeO.refl _)
      | (with_reducible exact LeO.none _)
      | (with_reducible refine LeO.ite ?_ ?_)
      | (with_reducible refine LeO.bind ?_ (fun _ => ?_))
      | exact laws_markMarkS.mono _ _ _
      | exact LeO.none _
      | refine LeO.ite ?_ ?_
      | refine LeO.bind ?_ (fun _ => ?_)
set_option maxHeartbeats 8000000 in
set_option maxRecDepth 100000 in
theorem laws_markMaker.calls (k : Nat) (a0_0 : Int) (a0_1 : Int) (a0_2 : Int) (a0_3 : Int) (P0_4_ : Nat → Prop) (u9000_ : Value) (l0_4 : List (S_Mark)) (a1 : Int) (r1 : Int) (r2 : List (S_Mark)) (w0 w : World) (hB : Below w0.heap.size w0 w) (ho0_4 : Kd.R k_Mark 110 w w0.heap.size P0_4_ u9000_ l0_4) (h : laws_markMaker.f k a0_0 a0_1 a0_2 a0_3 l0_4 a1 = some (r1, r2)) :
    Calls Try.prog 22 #[.agg #[.int .i64 a0_0, .int .i64 a0_1, .int .i64 a0_2, .int .i64 a0_3, u9000_], .int .i64 a1] w fun e w' => e = .returned (.int .i64 r1) ∧ Kd.R k_Mark 110 w' w0.heap.size (fun k_ => (P0_4_ k_ ∨ w.heap.size ≤ k_)) u9000_ r2 ∧ Below w0.heap.size w0 w' ∧ Kept w w' (fun k_ => P0_4_ k_) := by
  have hu38 := Try.underlying38
  have HO0_4 := Aside0.mk (show Kd.R k_Mark 110 w w0.heap.size (fun k_ => (P0_4_ k_ ∨ w.heap.size ≤ k_)) u9000_ l0_4 from Kd.R_mono ho0_4 (fun k_ hk => (.inl hk)))
  have HK := Aside0.mk (Kept.refl w (fun k_ => P0_4_ k_))
  have HW0 := Aside0.mk hB.size
  have HB := Aside0.mk hB
  clear hB
  have H : ((laws_markMarkS.f k l0_4 a1).bind fun bt390 => (some (bt390.1, bt390.2))) = some (r1, r2) := h
  clear h
  replace H := Option.bind_eq_some_iff.mp H
  obtain ⟨⟨t390, t391⟩, A30, H⟩ := H
  replace H : (some (t390, t391)) = some (r1, r2) := H
  have A3 := Aside0.mk A30
  clear A30
  simp only [Option.some.injEq, Prod.mk.injEq] at H
  obtain ⟨rfl, rfl⟩ := H
  obtain ⟨Ao4, co4, eo4⟩ := Kd.R_slice HO0_4.out
  subst eo4
  go_enter Try.func22, Try.ntmps22
  go_wp2_with (first | ((with_reducible refine gate_dst (N := 2) rfl ?_); refine box_event ?hg (N := 2) ?hd (cs := #[.int .i64 a0_0, .int .i64 a0_1, .int .i64 a0_2, .int .i64 a0_3, .slice Ao4 l0_4.length co4]) (t := 38) ?hr ?_; (case hd => rfl); (case hg => rfl); (case hr => first | (go_simp; done) | (go_simp; rfl)); intro gb389 hg w5 hbox hb; have BK389 := Aside0.mk (hbox); have GW389 := Aside0.mk ((by rw [hg]; exact (by first | exact HK.out.1 | exact (show Kept w _ (fun k_ => P0_4_ k_) from by repeat (first | (with_reducible first | exact HK.out | apply Kept.alloc | apply Kept.drewN | apply Kept.drew) | exact HK.out)).1) : w.heap.size ≤ gb389)); have GE389 := Aside0.mk ((by rw [hg]; exact (below_size (qb0_)) : w0.heap.size ≤ gb389)); replace HO0_4 := Aside0.mk (Kd.R_below (by (with_reducible repeat (first | apply Kd.R_alloc | apply Kd.R_drewN | apply Kd.R_drew)); exact HO0_4.out) hb); replace HK := Aside0.mk (Kept.below (S := (fun k_ => P0_4_ k_)) (by repeat (first | (with_reducible first | exact HK.out | apply Kept.alloc | apply Kept.drewN | apply Kept.drew) | exact HK.out)) hb); replace HB := Aside0.mk (below_step (qb0_) hb); clear hb hbox hg; have hcz6_0 : w5.cell? ⟨gb389, 0, none⟩ = some (.int .i64 a0_0) := bc_ BK389 0; have hcz6_1 : w5.cell? ⟨gb389, 1, none⟩ = some (.int .i64 a0_1) := bc_ BK389 1; have hcz6_2 : w5.cell? ⟨gb389, 2, none⟩ = some (.int .i64 a0_2) := bc_ BK389 2; have hcz6_3 : w5.cell? ⟨gb389, 3, none⟩ = some (.int .i64 a0_3) := bc_ BK389 3; have hcz6_4 : w5.cell? ⟨gb389, 4, none⟩ = some (.slice Ao4 l0_4.length co4) := bc_ BK389 4; have hfz6_0 := blk_frozen BK389.out 0; have hfz6_1 := blk_frozen BK389.out 1; have hfz6_2 := blk_frozen BK389.out 2; have hfz6_3 := blk_frozen BK389.out 3; have hfz6_4 := blk_frozen BK389.out 4) | ((with_reducible refine gate_callee (f := 63) rfl ?_); refine goesL_ (some 8) rfl rfl Try.func63 (by kernel_rfl) rfl #[.slice Ao4 l0_4.length co4, .int .i64 a1] rfl (qb10_) ?_; (with_reducible refine (laws_markMarkS.calls k (fun k_ => some k_ = (.slice Ao4 l0_4.length co4 : Value).ownBlock) (.slice Ao4 l0_4.length co4) l0_4 a1 t390 t391 w0 _ ?side1 ?side2 A3.out).mono ?_); (case side1 => repeat (first | (with_reducible first | exact HB.out | apply below_alloc | apply pw_below_drewN | apply below_drew1 | refine below_set ?_ GE389.out) | exact HB.out)); (case side2 => exact Kd.R_tight rfl HO0_4.out); rintro e w7 ⟨rfl, hy0, hb, hkp⟩; refine ⟨_, rfl, ?_⟩; replace BK389 := Aside0.mk (blk_kept (bq_ BK389.out) hkp (fun hs_ => (fun e_ => (Kd.R_ne HO0_4.out BK389.out (by decide)) e_) hs_)); replace HK := Aside0.mk (Kept.then_ (S := (fun k_ => P0_4_ k_)) (qb14_) hkp (fun k_ hs_ => (fun e_ => (HO0_4.out.1 k_ e_.symm)) hs_)); replace HO0_4 := Aside0.mk (Kd.R_reok rfl hy0 (fun k_ e_ => HO0_4.out.1 k_ e_)); replace HB := Aside0.mk (hb); (try clear hb); (try clear hkp); (try clear hy0)))
  go_ret
  exact ⟨qb9_, by (with_reducible repeat (first | apply Kd.R_alloc | apply Kd.R_drewN | apply Kd.R_drew)); exact HO0_4.out, by repeat (first | (with_reducible first | exact HB.out | apply below_alloc | apply pw_below_drewN | apply below_drew1 | refine below_set ?_ GE389.out) | exact HB.out), qb14_⟩
/-! ### spec_MakerSet: function 25 -/
mutual
def spec_MakerSet.l0 : Nat → List (S_Maker) → List (S_Maker) → Bool → Int → Int → Int → Int → Int → List (S_Mark) → Option ((List (S_Maker)))
 | 0, _, _, _, _, _, _, _, _, _ => none
 | k + 1, x0, x5, x6, x7, x395000, x395001, x395002, x395003, x395004 => if x7 < (x0.length : Int) then (if 0 ≤ x7 then (if ((rd_Maker x0 x7).f0) = x395000 then (spec_MakerSet.j1 k x0 x5 x6 x7 (((rd_Maker x0 x7).f1) == x395001) x395000 x395001 x395002 x395003 x395004 ((rd_Maker x0 x7).f0) ((rd_Maker x0 x7).f1) ((rd_Maker x0 x7).f2) ((rd_Maker x0 x7).f3) ((rd_Maker x0 x7).f4)) else (spec_MakerSet.j1 k x0 x5 x6 x7 false x395000 x395001 x395002 x395003 x395004 ((rd_Maker x0 x7).f0) ((rd_Maker x0 x7).f1) ((rd_Maker x0 x7).f2) ((rd_Maker x0 x7).f3) ((rd_Maker x0 x7).f4))) else (none)) else (if x6 = true then (some x5) else ((spec_l4Copy.f x395000 x395001 x395002 x395003 x395004).bind fun bt398 => (if x5.length < 2513169434916 then (some (x5 ++ [(⟨bt398.1, bt398.2.1, bt398.2.2.1, bt398.2.2.2.1, bt398.2.2.2.2⟩ : S_Maker)])) else (none))))
def spec_MakerSet.j1 : Nat → List (S_Maker) → List (S_Maker) → Bool → Int → Bool → Int → Int → Int → Int → List (S_Mark) → Int → Int → Int → Int → List (S_Mark) → Option ((List (S_Maker)))
 | 0, _, _, _, _, _, _, _, _, _, _, _, _, _, _, _ => none
 | k + 1, x0, x5, x6, x7, x31, x395000, x395001, x395002, x395003, x395004, x410000, x410001, x410002, x410003, x410004 => if x31 = true then (if x6 = true then (spec_MakerSet.l0 k x0 x5 x6 (wrap64 (x7 + 1)) x395000 x395001 x395002 x395003 x395004) else ((spec_l4Copy.f x395000 x395001 x395002 x395003 x395004).bind fun bt410 => (if x5.length < 2513169434916 then (spec_MakerSet.l0 k x0 (x5 ++ [(⟨bt410.1, bt410.2.1, bt410.2.2.1, bt410.2.2.2.1, bt410.2.2.2.2⟩ : S_Maker)]) true (wrap64 (x7 + 1)) x395000 x395001 x395002 x395003 x395004) else (none)))) else (if x6 = true then (spec_MakerSet.j2 k x0 x5 x6 x7 false x395000 x395001 x395002 x395003 x395004 x410000 x410001 x410002 x410003 x410004) else (if x410000 > x395000 then (spec_MakerSet.j2 k x0 x5 x6 x7 true x395000 x395001 x395002 x395003 x395004 x410000 x410001 x410002 x410003 x410004) else (if x410000 = x395000 then (spec_MakerSet.j2 k x0 x5 x6 x7 (decide (x410001 > x395001)) x395000 x395001 x395002 x395003 x395004 x410000 x410001 x410002 x410003 x410004) else (spec_MakerSet.j2 k x0 x5 x6 x7 false x395000 x395001 x395002 x395003 x395004 x410000 x410001 x410002 x410003 x410004))))
def spec_MakerSet.j2 : Nat → List (S_Maker) → List (S_Maker) → Bool → Int → Bool → Int → Int → Int → Int → List (S_Mark) → Int → Int → Int → Int → List (S_Mark) → Option ((List (S_Maker)))
 | 0, _, _, _, _, _, _, _, _, _, _, _, _, _, _, _ => none
 | k + 1, x0, x5, x6, x7, x61, x395000, x395001, x395002, x395003, x395004, x410000, x410001, x410002, x410003, x410004 => if x61 = true then ((spec_l4Copy.f x395000 x395001 x395002 x395003 x395004).bind fun bt420 => (if x5.length < 2513169434916 then ((some (x5 ++ [(⟨bt420.1, bt420.2.1, bt420.2.2.1, bt420.2.2.2.1, bt420.2.2.2.2⟩ : S_Maker)] : List (S_Maker))).bind fun y427 => ((spec_l4Copy.f x410000 x410001 x410002 x410003 x410004).bind fun bt430 => (if y427.length < 2513169434916 then (spec_MakerSet.l0 k x0 (y427 ++ [(⟨bt430.1, bt430.2.1, bt430.2.2.1, bt430.2.2.2.1, bt430.2.2.2.2⟩ : S_Maker)]) true (wrap64 (x7 + 1)) x395000 x395001 x395002 x395003 x395004) else (none)))) else (none))) else ((spec_l4Copy.f x410000 x410001 x410002 x410003 x410004).bind fun bt440 => (if x5.length < 2513169434916 then (spec_MakerSet.l0 k x0 (x5 ++ [(⟨bt440.1, bt440.2.1, bt440.2.2.1, bt440.2.2.2.1, bt440.2.2.2.2⟩ : S_Maker)]) x6 (wrap64 (x7 + 1)) x395000 x395001 x395002 x395003 x395004) else (none)))
end
def spec_MakerSet.f (k : Nat) (l0 : List (S_Maker)) (a1_0 : Int) (a1_1 : Int) (a1_2 : Int) (a1_3 : Int) (l1_4 : List (S_Mark)) : Option ((List (S_Maker))) := spec_MakerSet.l0 k l0 (([] : List (S_Maker))) false 0 a1_0 a1_1 a1_2 a1_3 l1_4
theorem spec_MakerSet.mono_l : ∀ k, (∀ y0 y1 y2 y3 y4 y5 y6 y7 y8, LeO (spec_MakerSet.l0 k y0 y1 y2 y3 y4 y5 y6 y7 y8) (spec_MakerSet.l0 (k + 1) y0 y1 y2 y3 y4 y5 y6 y7 y8)) ∧ (∀ y0 y1 y2 y3 y4 y5 y6 y7 y8 y9 y10 y11 y12 y13 y14, LeO (spec_MakerSet.j1 k y0 y1 y2 y3 y4 y5 y6 y7 y8 y9 y10 y11 y12 y13 y14) (spec_MakerSet.j1 (k + 1) y0 y1 y2 y3 y4 y5 y6 y7 y8 y9 y10 y11 y12 y13 y14)) ∧ (∀ y0 y1 y2 y3 y4 y5 y6 y7 y8 y9 y10 y11 y12 y13 y14, LeO (spec_MakerSet.j2 k y0 y1 y2 y3 y4 y5 y6 y7 y8 y9 y10 y11 y12 y13 y14) (spec_MakerSet.j2 (k + 1) y0 y1 y2 y3 y4 y5 y6 y7 y8 y9 y10 y11 y12 y13 y14))
 | 0 => ⟨fun _ _ _ _ _ _ _ _ _ r h => by simp [spec_MakerSet.l0] at h, fun _ _ _ _ _ _ _ _ _ _ _ _ _ _ _ r h => by simp [spec_MakerSet.j1] at h, fun _ _ _ _ _ _ _ _ _ _ _ _ _ _ _ r h => by simp [spec_MakerSet.j2] at h⟩
 | k + 1 => by
  obtain ⟨ih0, ih1, ih2⟩ := spec_MakerSet.mono_l k
  refine ⟨?_, ?_, ?_⟩
  ·
   intro y0 y1 y2 y3 y4 y5 y6 y7 y8
   unfold spec_MakerSet.l0
   exact qbh1_
  ·
   intro y0 y1 y2 y3 y4 y5 y6 y7 y8 y9 y10 y11 y12 y13 y14
   unfold spec_MakerSet.j1
   exact qbh1_
  ·
   intro y0 y1 y2 y3 y4 y5 y6 y7 y8 y9 y10 y11 y12 y13 y14
   unfold spec_MakerSet.j2
   exact qbh1_
theorem spec_MakerSet.mono : ∀ a0 a1 a2 a3 a4 a5 k, LeO (spec_MakerSet.f k a0 a1 a2 a3 a4 a5) (spec_MakerSet.f (k + 1) a0 a1 a2 a3 a4 a5) := by
 intro a0 a1 a2 a3 a4 a5 k
 obtain ⟨ih0, ih1, ih2⟩ := spec_MakerSet.mono_l k
 unfold spec_MakerSet.f
 exact qbh1_
set_option maxHeartbeats 8000000 in
set_option maxRecDepth 100000 in
theorem spec_MakerSet.calls (k : Nat) (A0 : Option Addr) (c0 : Nat) (l0 : List (S_Maker)) (a1_0 : Int) (a1_1 : Int) (a1_2 : Int) (a1_3 : Int) (A1_4 : Option Addr) (c1_4 : Nat) (l1_4 : List (S_Mark)) (r : List (S_Maker)) (w : World) (hr0 : Kd.C k_Maker w A0 l0.length l0) (hc0 : l0.length ≤ c0) (hr1_4 : Kd.C k_Mark w A1_4 l1_4.length l1_4) (hc1_4 : l1_4.length ≤ c1_4) (h : spec_MakerSet.f k l0 a1_0 a1_1 a1_2 a1_3 l1_4 = some r) :
 Calls Try.prog 25 #[.slice A0 l0.length c0, .agg #[.int .i64 a1_0, .int .i64 a1_1, .int .i64 a1_2, .int .i64 a1_3, .slice A1_4 l1_4.length c1_4]] w fun e w' => ∃ v0_ : Value, e = .returned (v0_) ∧ Kd.S k_Maker 38 w' w.heap.size (fun _ => True) v0_ r ∧ Below w.heap.size w w' := by
 have hu38 := Try.underlying38
 have HR0 := Aside0.mk hr0
 have HC0 := Aside0.mk hc0
 clear hr0 hc0
 have HR1_4 := Aside0.mk hr1_4
 have HC1_4 := Aside0.mk hc1_4
 clear hr1_4 hc1_4
 have HB := Aside0.mk (Below.refl w.heap.size w)
 have H : (spec_MakerSet.l0 k l0 (([] : List (S_Maker))) false 0 a1_0 a1_1 a1_2 a1_3 l1_4) = some r := h
 clear h
 obtain ⟨y395, hy395⟩ : ∃ y_ : List (S_Maker), y_ = (([] : List (S_Maker))) := ⟨_, rfl⟩
 replace H : (spec_MakerSet.l0 k l0 y395 false 0 a1_0 a1_1 a1_2 a1_3 l1_4) = some r := by first | (rw [hy395]; with_reducible exact H) | (have H2_ := (Option.bind_some _ _).symm.trans H; rw [hy395]; with_reducible exact H2_) | (have H2_ := (Option.bind_some _ _).symm.trans H; with_reducible exact H2_) | with_reducible exact H | (rw [hy395]; exact H) | exact H
 have Ny395 := Aside0.mk hy395
 clear hy395
 have H' := Aside0.mk H
 clear H
 go_enter Try.func25, Try.ntmps25
 go_wp2_with (first | ((with_reducible refine gate_dst (N := 3) rfl ?_); refine box_event ?hg (N := 3) ?hd (cs := #[.int .i64 a1_0, .int .i64 a1_1, .int .i64 a1_2, .int .i64 a1_3, .slice A1_4 l1_4.length c1_4]) (t := 38) ?hr ?_; (case hd => rfl); (case hg => rfl); (case hr => first | (go_simp; done) | (go_simp; rfl)); intro gb394 hg w3 hbox hb; have BK394 := Aside0.mk (hbox); have GW394 := cz_ HB hg; have GE394 := cz_ HB hg; replace HB := ch_ HB hb; clear hb hbox hg) | ((with_reducible refine gate_dst (N := 9) rfl ?_); refine Kd.S_lit k_Maker _ 38 ?hg (N := 9) ?hd (xs := ([] : List (S_Maker))) (inner := []) (ok := fun _ => True) (okp := fun _ => True) ?hr ?hp (fun _ hk => hk) trivial (Below.refl _ _) (Nat.le_refl _) (by simp) ?_; (case hd => rfl); (case hg => rfl); (case hr => first | (go_simp; done) | (go_simp; rfl)); (case hp => exact (Reps.none _ _)); intro v396 w4 ho5 hb hg_ hnew_; clear hg_ hnew_; (first | rw [← Ny395.out] at ho5 | (simp only [Int.reduceToNat] at ho5; rw [← Ny395.out] at ho5)); have HO397 := Aside0.mk (Kd.S_lower (Kd.S_newB ho5 (g := gb394) (o := .cells #[.int .i64 a1_0, .int .i64 a1_1, .int .i64 a1_2, .int .i64 a1_3, .slice A1_4 l1_4.length c1_4] 38 (0, 0)) (bq_ BK394.out)) (below_size (hb_ HB.out))); replace BK394 := cb_ BK394 hb; replace HB := ch_ HB hb; clear hb ho5))
 go_loopg [5, 6, 7] k (fun kq v5 v6 v7 w' => ∃ (x5_1 : List (S_Maker)) (x6_1 : Bool) (x7_1 : Int), v6 = .bool x6_1 ∧ v7 = .int .i64 x7_1 ∧ Aside0 (spec_MakerSet.l0 kq l0 x5_1 x6_1 x7_1 a1_0 a1_1 a1_2 a1_3 l1_4 = some r) ∧ Aside0 (kq ≤ k) ∧ Aside0 (Kd.S k_Maker 38 w' w.heap.size (fun k_ => k_ ≠ gb394) v5 x5_1) ∧ Aside0 (w'.heap[gb394]? = some (.cells #[.int .i64 a1_0, .int .i64 a1_1, .int .i64 a1_2, .int .i64 a1_3, (.slice A1_4 l1_4.length c1_4)] 38 (0, 0))) ∧ Aside0 (Below w.heap.size w w'))
 case atStart => exact ⟨(y395), (false), (0), (qb1_), (qb1_), H', ⟨Nat.le_refl _⟩, ⟨by (with_reducible repeat (first | apply Kd.S_alloc | apply Kd.S_drewN | apply Kd.S_drew)); exact Kd.S_mono HO397.out (fun _ hk => hk.2)⟩, ⟨bq_ BK394.out⟩, ⟨hb_ HB.out⟩⟩
 case round =>
  clear H'
  obtain ⟨x5_1, x6_1, x7_1, rfl, rfl, HA, HK1, HO_5, BK394, HB⟩ := hrel
  cases gk with
  | zero => exact absurd HA.out (by simp [spec_MakerSet.l0])
  | succ k1 =>
   have H := HA.out
   clear HA
   simp only [spec_MakerSet.l0] at H
   by_cases c6 : x7_1 < (l0.length : Int)
   ·
    rw [if_pos c6] at H
    have c6b0 : decide (x7_1 < (l0.length : Int)) = true := decide_eq_true c6
    clear c6
    by_cases c7 : 0 ≤ x7_1
    ·
     rw [if_pos c7] at H
     have c7b0 : decide (0 ≤ x7_1) = true := decide_eq_true c7
     clear c7
     have HC8 := Aside0.mk H
     clear H
     have p408 : 0 ≤ (x7_1 : Int) := of_decide_eq_true dt_
     have q408 : x7_1 < (l0.length : Int) := of_decide_eq_true dt_
     obtain ⟨ad408, A408_4, c408_4, e408, hx408_0, hx408_1, hx408_2, hx408_3, hx408_4, hl408_4, hi408_4⟩ := at_Maker HR0.out x7_1 p408 q408
     cases e408
     replace hx408_0 := hc_ HB hx408_0
     replace hx408_1 := hc_ HB hx408_1
     replace hx408_2 := hc_ HB hx408_2
     replace hx408_3 := hc_ HB hx408_3
     replace hx408_4 := hc_ HB hx408_4
     have HR408_4 := Aside0.mk hi408_4
     have HC408_4 := Aside0.mk hl408_4
     clear hi408_4 hl408_4
     replace p408 := eq_true p408
     replace q408 := eq_true q408
     go_upto_region 7 with (first | ((with_reducible refine gate_dst (N := 8) rfl ?_); refine box_event ?hg (N := 8) ?hd (cs := #[.int .i64 0, .int .i64 0, .int .i64 0, .int .i64 0, .slice none 0 0]) (t := 38) ?hr ?_; (case hd => rfl); (case hg => rfl); (case hr => first | (go_simp; done) | (go_simp; rfl)); intro gb409 hg w9 hbox hb; have BK409 := Aside0.mk (hbox); have GW409 := cz_ HB hg; have GE409 := cz_ HB hg; have NB394_409 := cn_ BK394 hg; have NB409_394 := cm_ BK394 hg; replace HO_5 := Aside0.mk (Kd.S_below (Kd.S_elderB (qb3_) gb409 (Nat.le_of_eq hg.symm)) hb); replace BK394 := cb_ BK394 hb; replace HB := ch_ HB hb; clear hb hbox hg; have hnb10 := NB409_394.out; have hnc10 := NB394_409.out; have hcz11_0 : w9.cell? ⟨gb409, 0, none⟩ = some (.int .i64 0) := bc_ BK409 0; have hcz11_1 : w9.cell? ⟨gb409, 1, none⟩ = some (.int .i64 0) := bc_ BK409 1; have hcz11_2 : w9.cell? ⟨gb409, 2, none⟩ = some (.int .i64 0) := bc_ BK409 2; have hcz11_3 : w9.cell? ⟨gb409, 3, none⟩ = some (.int .i64 0) := bc_ BK409 3; have hcz11_4 : w9.cell? ⟨gb409, 4, none⟩ = some (.slice none 0 0) := bc_ BK409 4; have hfz11_0 := blk_frozen BK409.out 0; have hfz11_1 := blk_frozen BK409.out 1; have hfz11_2 := blk_frozen BK409.out 2; have hfz11_3 := blk_frozen BK409.out 3; have hfz11_4 := blk_frozen BK409.out 4))
     (try simp only [Act.put, List.setIfInBounds_toArray, List.set_cons_zero, List.set_cons_succ])
     go_cut [31] (fun v31 wc => ∃ (kq : Nat) (x31_7 : Bool), v31 = .bool x31_7 ∧ Aside0 (spec_MakerSet.j1 kq l0 x5_1 x6_1 x7_1 x31_7 a1_0 a1_1 a1_2 a1_3 l1_4 ((rd_Maker l0 x7_1).f0) ((rd_Maker l0 x7_1).f1) ((rd_Maker l0 x7_1).f2) ((rd_Maker l0 x7_1).f3) ((rd_Maker l0 x7_1).f4) = some r) ∧ Aside0 (kq ≤ k1) ∧ Aside0 (Kd.S k_Maker 38 wc w.heap.size (fun k_ => k_ ≠ gb394 ∧ k_ ≠ gb409) u5 x5_1) ∧ Aside0 (wc.heap[gb394]? = some (.cells #[.int .i64 a1_0, .int .i64 a1_1, .int .i64 a1_2, .int .i64 a1_3, (.slice A1_4 l1_4.length c1_4)] 38 (0, 0))) ∧ Aside0 (wc.heap[gb409]? = some (.cells #[.int .i64 ((rd_Maker l0 x7_1).f0), .int .i64 ((rd_Maker l0 x7_1).f1), .int .i64 ((rd_Maker l0 x7_1).f2), .int .i64 ((rd_Maker l0 x7_1).f3), (.slice A408_4 ((rd_Maker l0 x7_1).f4).length c408_4)] 38 (0, 0))) ∧ Aside0 (Below w.heap.size w wc))
     case first =>
      have H := HC8.out
      clear HC8
      by_cases c12 : ((rd_Maker l0 x7_1).f0) = a1_0
      ·
       rw [if_pos c12] at H
       have c12b0 : (((rd_Maker l0 x7_1).f0) == a1_0) = true := beq_iff_eq.mpr c12
       have c12b1 : (((rd_Maker l0 x7_1).f0) != a1_0) = false := bne_eq_false_iff_eq.mpr c12
       clear c12
       (first | rw [c12b0] | (simp only [i64_w, i32_w]; rw [c12b0]) | rw [c12b4] | rw [c12b3] | skip)
       have H' := Aside0.mk H
       clear H
       have hnb13 := NB409_394.out
       have hnc13 := NB394_409.out
       have hcz14_0 : w9.cell? ⟨gb409, 0, none⟩ = some (.int .i64 0) := bc_ BK409 0
       have hcz14_1 : w9.cell? ⟨gb409, 1, none⟩ = some (.int .i64 0) := bc_ BK409 1
       have hcz14_2 : w9.cell? ⟨gb409, 2, none⟩ = some (.int .i64 0) := bc_ BK409 2
       have hcz14_3 : w9.cell? ⟨gb409, 3, none⟩ = some (.int .i64 0) := bc_ BK409 3
       have hcz14_4 : w9.cell? ⟨gb409, 4, none⟩ = some (.slice none 0 0) := bc_ BK409 4
       have hfz14_0 := blk_frozen BK409.out 0
       have hfz14_1 := blk_frozen BK409.out 1
       have hfz14_2 := blk_frozen BK409.out 2
       have hfz14_3 := blk_frozen BK409.out 3
       have hfz14_4 := blk_frozen BK409.out 4
       have hcz15_0 : w9.cell? ⟨gb394, 0, none⟩ = some (.int .i64 a1_0) := bc_ BK394 0
       have hcz15_1 : w9.cell? ⟨gb394, 1, none⟩ = some (.int .i64 a1_1) := bc_ BK394 1
       have hcz15_2 : w9.cell? ⟨gb394, 2, none⟩ = some (.int .i64 a1_2) := bc_ BK394 2
       have hcz15_3 : w9.cell? ⟨gb394, 3, none⟩ = some (.int .i64 a1_3) := bc_ BK394 3
       have hcz15_4 : w9.cell? ⟨gb394, 4, none⟩ = some (.slice A1_4 l1_4.length c1_4) := bc_ BK394 4
       have hfz15_0 := blk_frozen BK394.out 0
       have hfz15_1 := blk_frozen BK394.out 1
       have hfz15_2 := blk_frozen BK394.out 2
       have hfz15_3 := blk_frozen BK394.out 3
       have hfz15_4 := blk_frozen BK394.out 4
       go_wp2
       go_meet
       case rel => exact ⟨_, ((((rd_Maker l0 x7_1).f1) == a1_1)), (qb1_), H', ⟨by have := HK1.out; first | omega | exact Nat.le_refl _⟩, ⟨qb4_⟩, ⟨bf_ NB394_409.out BK394.out⟩, ⟨bp_ BK409.out⟩, ⟨hb_ HB.out⟩⟩
      ·
       rw [if_neg c12] at H
       have c12b0 : (((rd_Maker l0 x7_1).f0) == a1_0) = false := beq_eq_false_iff_ne.mpr c12
       have c12b1 : (((rd_Maker l0 x7_1).f0) != a1_0) = true := bne_iff_ne.mpr c12
       (first | rw [c12b0] | (simp only [i64_w, i32_w]; rw [c12b0]) | rw [c12b4] | rw [c12b3] | skip)
       have H' := Aside0.mk H
       clear H
       have hnb16 := NB409_394.out
       have hnc16 := NB394_409.out
       have hcz17_0 : w9.cell? ⟨gb409, 0, none⟩ = some (.int .i64 0) := bc_ BK409 0
       have hcz17_1 : w9.cell? ⟨gb409, 1, none⟩ = some (.int .i64 0) := bc_ BK409 1
       have hcz17_2 : w9.cell? ⟨gb409, 2, none⟩ = some (.int .i64 0) := bc_ BK409 2
       have hcz17_3 : w9.cell? ⟨gb409, 3, none⟩ = some (.int .i64 0) := bc_ BK409 3
       have hcz17_4 : w9.cell? ⟨gb409, 4, none⟩ = some (.slice none 0 0) := bc_ BK409 4
       have hfz17_0 := blk_frozen BK409.out 0
       have hfz17_1 := blk_frozen BK409.out 1
       have hfz17_2 := blk_frozen BK409.out 2
       have hfz17_3 := blk_frozen BK409.out 3
       have hfz17_4 := blk_frozen BK409.out 4
       have hcz18_0 : w9.cell? ⟨gb394, 0, none⟩ = some (.int .i64 a1_0) := bc_ BK394 0
       have hcz18_1 : w9.cell? ⟨gb394, 1, none⟩ = some (.int .i64 a1_1) := bc_ BK394 1
       have hcz18_2 : w9.cell? ⟨gb394, 2, none⟩ = some (.int .i64 a1_2) := bc_ BK394 2
       have hcz18_3 : w9.cell? ⟨gb394, 3, none⟩ = some (.int .i64 a1_3) := bc_ BK394 3
       have hcz18_4 : w9.cell? ⟨gb394, 4, none⟩ = some (.slice A1_4 l1_4.length c1_4) := bc_ BK394 4
       have hfz18_0 := blk_frozen BK394.out 0
       have hfz18_1 := blk_frozen BK394.out 1
       have hfz18_2 := blk_frozen BK394.out 2
       have hfz18_3 := blk_frozen BK394.out 3
       have hfz18_4 := blk_frozen BK394.out 4
       go_wp2
       go_meet
       case rel => exact ⟨_, (false), (qb1_), H', ⟨by have := HK1.out; first | omega | exact Nat.le_refl _⟩, ⟨qb4_⟩, ⟨bf_ NB394_409.out BK394.out⟩, ⟨bp_ BK409.out⟩, ⟨hb_ HB.out⟩⟩
     case rest =>
      clear HC8
      (try clear c6b0); (try clear c7b0); (try clear hcz11_0); (try clear hcz11_1); (try clear hcz11_2); (try clear hcz11_3); (try clear hcz11_4); (try clear hfz11_0); (try clear hfz11_1); (try clear hfz11_2); (try clear hfz11_3); (try clear hfz11_4); (try clear hx408_0); (try clear hx408_1); (try clear hx408_2); (try clear hx408_3); (try clear hx408_4); (try clear p408); (try clear q408)
      obtain ⟨kq, x31_7, rfl, HA, HJ7, HO_5, BK394, BK409, HB⟩ := hcut
      cases kq with
      | zero => exact absurd HA.out (by simp [spec_MakerSet.j1])
      | succ kj7 =>
       have H := HA.out
       clear HA
       simp only [spec_MakerSet.j1] at H
       by_cases c19 : x31_7 = true
       ·
        subst c19
        have H1 : (if x6_1 = true then (spec_MakerSet.l0 kj7 l0 x5_1 x6_1 (wrap64 (x7_1 + 1)) a1_0 a1_1 a1_2 a1_3 l1_4) else ((spec_l4Copy.f a1_0 a1_1 a1_2 a1_3 l1_4).bind fun bt410 => (if x5_1.length < 2513169434916 then (spec_MakerSet.l0 kj7 l0 (x5_1 ++ [(⟨bt410.1, bt410.2.1, bt410.2.2.1, bt410.2.2.2.1, bt410.2.2.2.2⟩ : S_Maker)]) true (wrap64 (x7_1 + 1)) a1_0 a1_1 a1_2 a1_3 l1_4) else (none)))) = some r := by rw [if_pos rfl] at H; exact H
        clear H
        have H := H1
        clear H1
        by_cases c20 : x6_1 = true
        ·
         subst c20
         have H1 : (spec_MakerSet.l0 kj7 l0 x5_1 true (wrap64 (x7_1 + 1)) a1_0 a1_1 a1_2 a1_3 l1_4) = some r := by rw [if_pos rfl] at H; exact H
         clear H
         have H := H1
         clear H1
         have H' := Aside0.mk H
         clear H
         go_wp2
         go_roundg kj7
         case measure => have := HK1.out; have := HJ7.out; omega
         case rel => exact ⟨(x5_1), (true), (wrap64 (x7_1 + 1)), (qb1_), (qb1_), H', ⟨by have := HK1.out; have := HJ7.out; omega⟩, ⟨by (with_reducible repeat (first | apply Kd.S_alloc | apply Kd.S_drewN | apply Kd.S_drew)); exact Kd.S_mono HO_5.out (fun _ hk => hk.1)⟩, ⟨bq_ BK394.out⟩, ⟨hb_ HB.out⟩⟩
        ·
         replace c20 := Bool.eq_false_iff.mpr c20
         subst c20
         have H1 : ((spec_l4Copy.f a1_0 a1_1 a1_2 a1_3 l1_4).bind fun bt410 => (if x5_1.length < 2513169434916 then (spec_MakerSet.l0 kj7 l0 (x5_1 ++ [(⟨bt410.1, bt410.2.1, bt410.2.2.1, bt410.2.2.2.1, bt410.2.2.2.2⟩ : S_Maker)]) true (wrap64 (x7_1 + 1)) a1_0 a1_1 a1_2 a1_3 l1_4) else (none))) = some r := by rw [if_neg (show ¬ (false = true) by decide)] at H; exact H
         clear H
         have H := H1
         clear H1
         replace H := Option.bind_eq_some_iff.mp H
         obtain ⟨⟨t410, t411, t412, t413, t414⟩, A210, H⟩ := H
         replace H : (if x5_1.length < 2513169434916 then (spec_MakerSet.l0 kj7 l0 (x5_1 ++ [(⟨t410, t411, t412, t413, t414⟩ : S_Maker)]) true (wrap64 (x7_1 + 1)) a1_0 a1_1 a1_2 a1_3 l1_4) else (none)) = some r := H
         have A21 := Aside0.mk A210
         clear A210
         by_cases c22 : x5_1.length < 2513169434916
         ·
          rw [if_pos c22] at H
          have LMc22 := Aside0.mk c22
          clear c22
          obtain ⟨y417, hy417⟩ : ∃ y_ : List (S_Maker), y_ = (x5_1 ++ [(⟨t410, t411, t412, t413, t414⟩ : S_Maker)]) := ⟨_, rfl⟩
          replace H : (spec_MakerSet.l0 kj7 l0 y417 true (wrap64 (x7_1 + 1)) a1_0 a1_1 a1_2 a1_3 l1_4) = some r := by first | (rw [hy417]; with_reducible exact H) | (have H2_ := (Option.bind_some _ _).symm.trans H; rw [hy417]; with_reducible exact H2_) | (have H2_ := (Option.bind_some _ _).symm.trans H; with_reducible exact H2_) | with_reducible exact H | (rw [hy417]; exact H) | exact H
          have Ny417 := Aside0.mk hy417
          clear hy417
          have H' := Aside0.mk H
          clear H
          have hnb23 := NB394_409.out
          have hnc23 := NB409_394.out
          have hcz24_0 : wc.cell? ⟨gb394, 0, none⟩ = some (.int .i64 a1_0) := bc_ BK394 0
          have hcz24_1 : wc.cell? ⟨gb394, 1, none⟩ = some (.int .i64 a1_1) := bc_ BK394 1
          have hcz24_2 : wc.cell? ⟨gb394, 2, none⟩ = some (.int .i64 a1_2) := bc_ BK394 2
          have hcz24_3 : wc.cell? ⟨gb394, 3, none⟩ = some (.int .i64 a1_3) := bc_ BK394 3
          have hcz24_4 : wc.cell? ⟨gb394, 4, none⟩ = some (.slice A1_4 l1_4.length c1_4) := bc_ BK394 4
          have hfz24_0 := blk_frozen BK394.out 0
          have hfz24_1 := blk_frozen BK394.out 1
          have hfz24_2 := blk_frozen BK394.out 2
          have hfz24_3 := blk_frozen BK394.out 3
          have hfz24_4 := blk_frozen BK394.out 4
          go_wp2_with (first | ((with_reducible refine gate_callee (f := 60) rfl ?_); refine goesL_ (some 36) rfl rfl Try.func60 (by kernel_rfl) rfl #[.agg #[.int .i64 a1_0, .int .i64 a1_1, .int .i64 a1_2, .int .i64 a1_3, .slice A1_4 l1_4.length c1_4]] rfl sm_ ?_; (with_reducible refine (spec_l4Copy.calls a1_0 a1_1 a1_2 a1_3 _ _ l1_4 t410 t411 t412 t413 t414 _ ?side1 ?side2 A21.out).mono ?_); (case side1 => repeat (first | exact (Kd.C_below HR1_4.out HB.out) | (with_reducible refine Kd.C_alloc ?_ _) | (with_reducible refine Kd.C_drewN ?_ _) | (with_reducible refine Kd.C_drew ?_))); (case side2 => exact HC1_4.out); rintro e w25 ⟨v415, rfl, ho0, hb⟩; refine ⟨_, rfl, ?_⟩; have HO416 := Aside0.mk (Kd.R_lower ho0 (below_size (hb_ HB.out))); replace HO_5 := Aside0.mk (Kd.S_elder' (qb3_) (Kd.R_base ho0) hb); replace BK394 := cb_ BK394 hb; replace BK409 := cb_ BK409 hb; replace HB := ch_ HB hb; (try clear hb); (try clear hb2); (try clear hk); (try clear hi); (try clear ho0); obtain ⟨Ao27, co27, eo27⟩ := Kd.R_slice HO416.out; subst eo27) | ((with_reducible refine gate_builtin (b := .append) (xs := #[.tmp 34, .tmp 37]) rfl ?_); at_builtin; refine Kd.S_append k_Maker (w0 := w) w.heap.size rfl (.tmp 34) (.tmp 37) 40 38 (.agg #[(.int .i64 0), (.int .i64 0), (.int .i64 0), (.int .i64 0), (.slice none 0 0)]) 56 rfl Try.underlying40 info38 rfl (by decide) (by omega) u5 x5_1 (⟨t410, t411, t412, t413, t414⟩ : S_Maker) [.int .i64 t410, .int .i64 t411, .int .i64 t412, .int .i64 t413, .slice Ao27 t414.length co27] (fun k_ => k_ ≠ gb394 ∧ k_ ≠ gb409) (fun k_ => some k_ = (.slice Ao27 t414.length co27 : Value).ownBlock) rfl rfl ?aP (fun k_ hk_ => ((Kd.R_mono (ok' := fun k_ => ((fun k_ => k_ ≠ gb394 ∧ k_ ≠ gb409)) k_ ∧ some k_ ≠ (u5 : Value).ownBlock) (Kd.R_types (Kd.R_types (Kd.R_apart' (HO416.out) (Kd.S_typed HO_5.out) (by decide)) BK394.out (by decide)) BK409.out (by decide)) (fun k_ hk => ⟨⟨hk.1.2, hk.2⟩, hk.1.1.2⟩))).1 k_ hk_.symm) ?aF ?aO ?aB ?aS ?aL ?_; (case aP => exact k_Maker_mkM _ _ _ (⟨t410, t411, t412, t413, t414⟩ : S_Maker) (Kd.R_mono (Kd.R_tight rfl (Kd.R_mono (ok' := fun k_ => ((fun k_ => k_ ≠ gb394 ∧ k_ ≠ gb409)) k_ ∧ some k_ ≠ (u5 : Value).ownBlock) (Kd.R_types (Kd.R_types (Kd.R_apart' (HO416.out) (Kd.S_typed HO_5.out) (by decide)) BK394.out (by decide)) BK409.out (by decide)) (fun k_ hk => ⟨⟨hk.1.2, hk.2⟩, hk.1.1.2⟩))) (fun _ h_ => h_))); (case aB => exact (hb_ HB.out)); (case aF => exact (fun k_ hk => ⟨Kd.freshB (g := gb394) (o := .cells #[.int .i64 a1_0, .int .i64 a1_1, .int .i64 a1_2, .int .i64 a1_3, .slice A1_4 l1_4.length c1_4] 38 (0, 0)) (bq_ BK394.out) k_ hk, Kd.freshB (g := gb409) (o := .cells #[.int .i64 ((rd_Maker l0 x7_1).f0), .int .i64 ((rd_Maker l0 x7_1).f1), .int .i64 ((rd_Maker l0 x7_1).f2), .int .i64 ((rd_Maker l0 x7_1).f3), .slice A408_4 ((rd_Maker l0 x7_1).f4).length c408_4] 38 (0, 0)) (bq_ BK409.out) k_ hk⟩)); (case aO => exact (qb7_)); (case aS => exact (below_size (hb_ HB.out))); (case aL => have := LMc22.out; omega); intro v418 w26 ho hb hg hat; rw [← Ny417.out] at ho; have HO419 := Aside0.mk (ho); replace BK394 := Aside0.mk (blk_grown (g := gb394) (o := .cells #[.int .i64 a1_0, .int .i64 a1_1, .int .i64 a1_2, .int .i64 a1_3, .slice A1_4 l1_4.length c1_4] 38 (0, 0)) (bq_ BK394.out) hg (Kd.S_away HO_5.out (fun _ hk => hk.1.1))); replace BK409 := Aside0.mk (blk_grown (g := gb409) (o := .cells #[.int .i64 ((rd_Maker l0 x7_1).f0), .int .i64 ((rd_Maker l0 x7_1).f1), .int .i64 ((rd_Maker l0 x7_1).f2), .int .i64 ((rd_Maker l0 x7_1).f3), .slice A408_4 ((rd_Maker l0 x7_1).f4).length c408_4] 38 (0, 0)) (bq_ BK409.out) hg (Kd.S_away HO_5.out (fun _ hk => hk.1.2))); replace HB := Aside0.mk (hb); clear HO_5 HO416; clear ho hb hg hat))
          go_roundg kj7
          case measure => have := HK1.out; have := HJ7.out; omega
          case rel => exact ⟨(y417), (true), (wrap64 (x7_1 + 1)), (qb1_), (qb1_), H', ⟨by have := HK1.out; have := HJ7.out; omega⟩, ⟨by (with_reducible repeat (first | apply Kd.S_alloc | apply Kd.S_drewN | apply Kd.S_drew)); exact Kd.S_mono HO419.out (fun _ hk => hk.1)⟩, ⟨bq_ BK394.out⟩, ⟨hb_ HB.out⟩⟩
         ·
          rw [if_neg c22] at H
          exact absurd H (by simp)
       ·
        replace c19 := Bool.eq_false_iff.mpr c19
        subst c19
        have H1 : (if x6_1 = true then (spec_MakerSet.j2 kj7 l0 x5_1 x6_1 x7_1 false a1_0 a1_1 a1_2 a1_3 l1_4 ((rd_Maker l0 x7_1).f0) ((rd_Maker l0 x7_1).f1) ((rd_Maker l0 x7_1).f2) ((rd_Maker l0 x7_1).f3) ((rd_Maker l0 x7_1).f4)) else (if ((rd_Maker l0 x7_1).f0) > a1_0 then (spec_MakerSet.j2 kj7 l0 x5_1 x6_1 x7_1 true a1_0 a1_1 a1_2 a1_3 l1_4 ((rd_Maker l0 x7_1).f0) ((rd_Maker l0 x7_1).f1) ((rd_Maker l0 x7_1).f2) ((rd_Maker l0 x7_1).f3) ((rd_Maker l0 x7_1).f4)) else (if ((rd_Maker l0 x7_1).f0) = a1_0 then (spec_MakerSet.j2 kj7 l0 x5_1 x6_1 x7_1 (decide (((rd_Maker l0 x7_1).f1) > a1_1)) a1_0 a1_1 a1_2 a1_3 l1_4 ((rd_Maker l0 x7_1).f0) ((rd_Maker l0 x7_1).f1) ((rd_Maker l0 x7_1).f2) ((rd_Maker l0 x7_1).f3) ((rd_Maker l0 x7_1).f4)) else (spec_MakerSet.j2 kj7 l0 x5_1 x6_1 x7_1 false a1_0 a1_1 a1_2 a1_3 l1_4 ((rd_Maker l0 x7_1).f0) ((rd_Maker l0 x7_1).f1) ((rd_Maker l0 x7_1).f2) ((rd_Maker l0 x7_1).f3) ((rd_Maker l0 x7_1).f4))))) = some r := by rw [if_neg (show ¬ (false = true) by decide)] at H; exact H
        clear H
        have H := H1
        clear H1
        have HC28 := Aside0.mk H
        clear H
        go_upto_region 11 with (fail)
        go_cut [61] (fun v61 wc => ∃ (kq : Nat) (x61_27 : Bool), v61 = .bool x61_27 ∧ Aside0 (spec_MakerSet.j2 kq l0 x5_1 x6_1 x7_1 x61_27 a1_0 a1_1 a1_2 a1_3 l1_4 ((rd_Maker l0 x7_1).f0) ((rd_Maker l0 x7_1).f1) ((rd_Maker l0 x7_1).f2) ((rd_Maker l0 x7_1).f3) ((rd_Maker l0 x7_1).f4) = some r) ∧ Aside0 (kq ≤ kj7) ∧ Aside0 (Kd.S k_Maker 38 wc w.heap.size (fun k_ => k_ ≠ gb394 ∧ k_ ≠ gb409) u5 x5_1) ∧ Aside0 (wc.heap[gb394]? = some (.cells #[.int .i64 a1_0, .int .i64 a1_1, .int .i64 a1_2, .int .i64 a1_3, (.slice A1_4 l1_4.length c1_4)] 38 (0, 0))) ∧ Aside0 (wc.heap[gb409]? = some (.cells #[.int .i64 ((rd_Maker l0 x7_1).f0), .int .i64 ((rd_Maker l0 x7_1).f1), .int .i64 ((rd_Maker l0 x7_1).f2), .int .i64 ((rd_Maker l0 x7_1).f3), (.slice A408_4 ((rd_Maker l0 x7_1).f4).length c408_4)] 38 (0, 0))) ∧ Aside0 (Below w.heap.size w wc))
        case first =>
         have H := HC28.out
         clear HC28
         by_cases c29 : x6_1 = true
         ·
          subst c29
          have H1 : (spec_MakerSet.j2 kj7 l0 x5_1 true x7_1 false a1_0 a1_1 a1_2 a1_3 l1_4 ((rd_Maker l0 x7_1).f0) ((rd_Maker l0 x7_1).f1) ((rd_Maker l0 x7_1).f2) ((rd_Maker l0 x7_1).f3) ((rd_Maker l0 x7_1).f4)) = some r := by rw [if_pos rfl] at H; exact H
          clear H
          have H := H1
          clear H1
          have H' := Aside0.mk H
          clear H
          go_wp2
          go_meet
          case rel => exact ⟨_, (false), (qb1_), H', ⟨qb13_⟩, ⟨qb3_⟩, ⟨bq_ BK394.out⟩, ⟨bq_ BK409.out⟩, ⟨hb_ HB.out⟩⟩
         ·
          replace c29 := Bool.eq_false_iff.mpr c29
          subst c29
          have H1 : (if ((rd_Maker l0 x7_1).f0) > a1_0 then (spec_MakerSet.j2 kj7 l0 x5_1 false x7_1 true a1_0 a1_1 a1_2 a1_3 l1_4 ((rd_Maker l0 x7_1).f0) ((rd_Maker l0 x7_1).f1) ((rd_Maker l0 x7_1).f2) ((rd_Maker l0 x7_1).f3) ((rd_Maker l0 x7_1).f4)) else (if ((rd_Maker l0 x7_1).f0) = a1_0 then (spec_MakerSet.j2 kj7 l0 x5_1 false x7_1 (decide (((rd_Maker l0 x7_1).f1) > a1_1)) a1_0 a1_1 a1_2 a1_3 l1_4 ((rd_Maker l0 x7_1).f0) ((rd_Maker l0 x7_1).f1) ((rd_Maker l0 x7_1).f2) ((rd_Maker l0 x7_1).f3) ((rd_Maker l0 x7_1).f4)) else (spec_MakerSet.j2 kj7 l0 x5_1 false x7_1 false a1_0 a1_1 a1_2 a1_3 l1_4 ((rd_Maker l0 x7_1).f0) ((rd_Maker l0 x7_1).f1) ((rd_Maker l0 x7_1).f2) ((rd_Maker l0 x7_1).f3) ((rd_Maker l0 x7_1).f4)))) = some r := by rw [if_neg (show ¬ (false = true) by decide)] at H; exact H
          clear H
          have H := H1
          clear H1
          by_cases c30 : ((rd_Maker l0 x7_1).f0) > a1_0
          ·
           rw [if_pos c30] at H
           have c30b0 : decide (a1_0 < ((rd_Maker l0 x7_1).f0)) = true := decide_eq_true c30
           clear c30
           (first | rw [c30b0] | (simp only [i64_w, i32_w]; rw [c30b0]) | rw [c30b4] | rw [c30b3] | skip)
           have H' := Aside0.mk H
           clear H
           have hnb31 := NB409_394.out
           have hnc31 := NB394_409.out
           have hcz32_0 : wc.cell? ⟨gb409, 0, none⟩ = some (.int .i64 ((rd_Maker l0 x7_1).f0)) := bc_ BK409 0
           have hcz32_1 : wc.cell? ⟨gb409, 1, none⟩ = some (.int .i64 ((rd_Maker l0 x7_1).f1)) := bc_ BK409 1
           have hcz32_2 : wc.cell? ⟨gb409, 2, none⟩ = some (.int .i64 ((rd_Maker l0 x7_1).f2)) := bc_ BK409 2
           have hcz32_3 : wc.cell? ⟨gb409, 3, none⟩ = some (.int .i64 ((rd_Maker l0 x7_1).f3)) := bc_ BK409 3
           have hcz32_4 : wc.cell? ⟨gb409, 4, none⟩ = some (.slice A408_4 ((rd_Maker l0 x7_1).f4).length c408_4) := bc_ BK409 4
           have hfz32_0 := blk_frozen BK409.out 0
           have hfz32_1 := blk_frozen BK409.out 1
           have hfz32_2 := blk_frozen BK409.out 2
           have hfz32_3 := blk_frozen BK409.out 3
           have hfz32_4 := blk_frozen BK409.out 4
           have hcz33_0 : wc.cell? ⟨gb394, 0, none⟩ = some (.int .i64 a1_0) := bc_ BK394 0
           have hcz33_1 : wc.cell? ⟨gb394, 1, none⟩ = some (.int .i64 a1_1) := bc_ BK394 1
           have hcz33_2 : wc.cell? ⟨gb394, 2, none⟩ = some (.int .i64 a1_2) := bc_ BK394 2
           have hcz33_3 : wc.cell? ⟨gb394, 3, none⟩ = some (.int .i64 a1_3) := bc_ BK394 3
           have hcz33_4 : wc.cell? ⟨gb394, 4, none⟩ = some (.slice A1_4 l1_4.length c1_4) := bc_ BK394 4
           have hfz33_0 := blk_frozen BK394.out 0
           have hfz33_1 := blk_frozen BK394.out 1
           have hfz33_2 := blk_frozen BK394.out 2
           have hfz33_3 := blk_frozen BK394.out 3
           have hfz33_4 := blk_frozen BK394.out 4
           go_wp2
           go_meet
           case rel => exact ⟨_, (true), (qb1_), H', ⟨qb13_⟩, ⟨qb3_⟩, ⟨bq_ BK394.out⟩, ⟨bq_ BK409.out⟩, ⟨hb_ HB.out⟩⟩
          ·
           rw [if_neg c30] at H
           have c30b0 : decide (a1_0 < ((rd_Maker l0 x7_1).f0)) = false := decide_eq_false c30
           clear c30
           (first | rw [c30b0] | (simp only [i64_w, i32_w]; rw [c30b0]) | rw [c30b4] | rw [c30b3] | skip)
           by_cases c34 : ((rd_Maker l0 x7_1).f0) = a1_0
           ·
            rw [if_pos c34] at H
            have c34b0 : (((rd_Maker l0 x7_1).f0) == a1_0) = true := beq_iff_eq.mpr c34
            have c34b1 : (((rd_Maker l0 x7_1).f0) != a1_0) = false := bne_eq_false_iff_eq.mpr c34
            clear c34
            have H' := Aside0.mk H
            clear H
            have hnb35 := NB409_394.out
            have hnc35 := NB394_409.out
            have hcz36_0 : wc.cell? ⟨gb409, 0, none⟩ = some (.int .i64 ((rd_Maker l0 x7_1).f0)) := bc_ BK409 0
            have hcz36_1 : wc.cell? ⟨gb409, 1, none⟩ = some (.int .i64 ((rd_Maker l0 x7_1).f1)) := bc_ BK409 1
            have hcz36_2 : wc.cell? ⟨gb409, 2, none⟩ = some (.int .i64 ((rd_Maker l0 x7_1).f2)) := bc_ BK409 2
            have hcz36_3 : wc.cell? ⟨gb409, 3, none⟩ = some (.int .i64 ((rd_Maker l0 x7_1).f3)) := bc_ BK409 3
            have hcz36_4 : wc.cell? ⟨gb409, 4, none⟩ = some (.slice A408_4 ((rd_Maker l0 x7_1).f4).length c408_4) := bc_ BK409 4
            have hfz36_0 := blk_frozen BK409.out 0
            have hfz36_1 := blk_frozen BK409.out 1
            have hfz36_2 := blk_frozen BK409.out 2
            have hfz36_3 := blk_frozen BK409.out 3
            have hfz36_4 := blk_frozen BK409.out 4
            have hcz37_0 : wc.cell? ⟨gb394, 0, none⟩ = some (.int .i64 a1_0) := bc_ BK394 0
            have hcz37_1 : wc.cell? ⟨gb394, 1, none⟩ = some (.int .i64 a1_1) := bc_ BK394 1
            have hcz37_2 : wc.cell? ⟨gb394, 2, none⟩ = some (.int .i64 a1_2) := bc_ BK394 2
            have hcz37_3 : wc.cell? ⟨gb394, 3, none⟩ = some (.int .i64 a1_3) := bc_ BK394 3
            have hcz37_4 : wc.cell? ⟨gb394, 4, none⟩ = some (.slice A1_4 l1_4.length c1_4) := bc_ BK394 4
            have hfz37_0 := blk_frozen BK394.out 0
            have hfz37_1 := blk_frozen BK394.out 1
            have hfz37_2 := blk_frozen BK394.out 2
            have hfz37_3 := blk_frozen BK394.out 3
            have hfz37_4 := blk_frozen BK394.out 4
            go_wp2
            go_meet
            case rel => exact ⟨_, (decide (((rd_Maker l0 x7_1).f1) > a1_1)), (qb1_), H', ⟨qb13_⟩, ⟨qb3_⟩, ⟨bq_ BK394.out⟩, ⟨bq_ BK409.out⟩, ⟨hb_ HB.out⟩⟩
           ·
            rw [if_neg c34] at H
            have c34b0 : (((rd_Maker l0 x7_1).f0) == a1_0) = false := beq_eq_false_iff_ne.mpr c34
            have c34b1 : (((rd_Maker l0 x7_1).f0) != a1_0) = true := bne_iff_ne.mpr c34
            have H' := Aside0.mk H
            clear H
            have hnb38 := NB409_394.out
            have hnc38 := NB394_409.out
            have hcz39_0 : wc.cell? ⟨gb409, 0, none⟩ = some (.int .i64 ((rd_Maker l0 x7_1).f0)) := bc_ BK409 0
            have hcz39_1 : wc.cell? ⟨gb409, 1, none⟩ = some (.int .i64 ((rd_Maker l0 x7_1).f1)) := bc_ BK409 1
            have hcz39_2 : wc.cell? ⟨gb409, 2, none⟩ = some (.int .i64 ((rd_Maker l0 x7_1).f2)) := bc_ BK409 2
            have hcz39_3 : wc.cell? ⟨gb409, 3, none⟩ = some (.int .i64 ((rd_Maker l0 x7_1).f3)) := bc_ BK409 3
            have hcz39_4 : wc.cell? ⟨gb409, 4, none⟩ = some (.slice A408_4 ((rd_Maker l0 x7_1).f4).length c408_4) := bc_ BK409 4
            have hfz39_0 := blk_frozen BK409.out 0
            have hfz39_1 := blk_frozen BK409.out 1
            have hfz39_2 := blk_frozen BK409.out 2
            have hfz39_3 := blk_frozen BK409.out 3
            have hfz39_4 := blk_frozen BK409.out 4
            have hcz40_0 : wc.cell? ⟨gb394, 0, none⟩ = some (.int .i64 a1_0) := bc_ BK394 0
            have hcz40_1 : wc.cell? ⟨gb394, 1, none⟩ = some (.int .i64 a1_1) := bc_ BK394 1
            have hcz40_2 : wc.cell? ⟨gb394, 2, none⟩ = some (.int .i64 a1_2) := bc_ BK394 2
            have hcz40_3 : wc.cell? ⟨gb394, 3, none⟩ = some (.int .i64 a1_3) := bc_ BK394 3
            have hcz40_4 : wc.cell? ⟨gb394, 4, none⟩ = some (.slice A1_4 l1_4.length c1_4) := bc_ BK394 4
            have hfz40_0 := blk_frozen BK394.out 0
            have hfz40_1 := blk_frozen BK394.out 1
            have hfz40_2 := blk_frozen BK394.out 2
            have hfz40_3 := blk_frozen BK394.out 3
            have hfz40_4 := blk_frozen BK394.out 4
            go_wp2
            go_meet
            case rel => exact ⟨_, (false), (qb1_), H', ⟨qb13_⟩, ⟨qb3_⟩, ⟨bq_ BK394.out⟩, ⟨bq_ BK409.out⟩, ⟨hb_ HB.out⟩⟩
        case rest =>
         clear HC28
         (try clear c19)
         obtain ⟨kq, x61_27, rfl, HA, HJ27, HO_5, BK394, BK409, HB⟩ := hcut
         cases kq with
         | zero => exact absurd HA.out (by simp [spec_MakerSet.j2])
         | succ kj27 =>
          have H := HA.out
          clear HA
          simp only [spec_MakerSet.j2] at H
          by_cases c41 : x61_27 = true
          ·
           subst c41
           have H1 : ((spec_l4Copy.f a1_0 a1_1 a1_2 a1_3 l1_4).bind fun bt420 => (if x5_1.length < 2513169434916 then ((some (x5_1 ++ [(⟨bt420.1, bt420.2.1, bt420.2.2.1, bt420.2.2.2.1, bt420.2.2.2.2⟩ : S_Maker)] : List (S_Maker))).bind fun y427 => ((spec_l4Copy.f ((rd_Maker l0 x7_1).f0) ((rd_Maker l0 x7_1).f1) ((rd_Maker l0 x7_1).f2) ((rd_Maker l0 x7_1).f3) ((rd_Maker l0 x7_1).f4)).bind fun bt430 => (if y427.length < 2513169434916 then (spec_MakerSet.l0 kj27 l0 (y427 ++ [(⟨bt430.1, bt430.2.1, bt430.2.2.1, bt430.2.2.2.1, bt430.2.2.2.2⟩ : S_Maker)]) true (wrap64 (x7_1 + 1)) a1_0 a1_1 a1_2 a1_3 l1_4) else (none)))) else (none))) = some r := by rw [if_pos rfl] at H; exact H
           clear H
           have H := H1
           clear H1
           replace H := Option.bind_eq_some_iff.mp H
           obtain ⟨⟨t420, t421, t422, t423, t424⟩, A420, H⟩ := H
           replace H : (if x5_1.length < 2513169434916 then ((some (x5_1 ++ [(⟨t420, t421, t422, t423, t424⟩ : S_Maker)] : List (S_Maker))).bind fun y427 => ((spec_l4Copy.f ((rd_Maker l0 x7_1).f0) ((rd_Maker l0 x7_1).f1) ((rd_Maker l0 x7_1).f2) ((rd_Maker l0 x7_1).f3) ((rd_Maker l0 x7_1).f4)).bind fun bt430 => (if y427.length < 2513169434916 then (spec_MakerSet.l0 kj27 l0 (y427 ++ [(⟨bt430.1, bt430.2.1, bt430.2.2.1, bt430.2.2.2.1, bt430.2.2.2.2⟩ : S_Maker)]) true (wrap64 (x7_1 + 1)) a1_0 a1_1 a1_2 a1_3 l1_4) else (none)))) else (none)) = some r := H
           have A42 := Aside0.mk A420
           clear A420
           by_cases c43 : x5_1.length < 2513169434916
           ·
            rw [if_pos c43] at H
            have LMc43 := Aside0.mk c43
            clear c43
            obtain ⟨y427, hy427⟩ : ∃ y_ : List (S_Maker), y_ = (x5_1 ++ [(⟨t420, t421, t422, t423, t424⟩ : S_Maker)]) := ⟨_, rfl⟩
            replace H : ((spec_l4Copy.f ((rd_Maker l0 x7_1).f0) ((rd_Maker l0 x7_1).f1) ((rd_Maker l0 x7_1).f2) ((rd_Maker l0 x7_1).f3) ((rd_Maker l0 x7_1).f4)).bind fun bt430 => (if y427.length < 2513169434916 then (spec_MakerSet.l0 kj27 l0 (y427 ++ [(⟨bt430.1, bt430.2.1, bt430.2.2.1, bt430.2.2.2.1, bt430.2.2.2.2⟩ : S_Maker)]) true (wrap64 (x7_1 + 1)) a1_0 a1_1 a1_2 a1_3 l1_4) else (none))) = some r := by first | (rw [hy427]; with_reducible exact H) | (have H2_ := (Option.bind_some _ _).symm.trans H; rw [hy427]; with_reducible exact H2_) | (have H2_ := (Option.bind_some _ _).symm.trans H; with_reducible exact H2_) | with_reducible exact H | (rw [hy427]; exact H) | exact H
            have Ny427 := Aside0.mk hy427
            clear hy427
            replace H := Option.bind_eq_some_iff.mp H
            obtain ⟨⟨t430, t431, t432, t433, t434⟩, A440, H⟩ := H
            replace H : (if y427.length < 2513169434916 then (spec_MakerSet.l0 kj27 l0 (y427 ++ [(⟨t430, t431, t432, t433, t434⟩ : S_Maker)]) true (wrap64 (x7_1 + 1)) a1_0 a1_1 a1_2 a1_3 l1_4) else (none)) = some r := H
            have A44 := Aside0.mk A440
            clear A440
            by_cases c45 : y427.length < 2513169434916
            ·
             rw [if_pos c45] at H
             have LMc45 := Aside0.mk c45
             clear c45
             obtain ⟨y437, hy437⟩ : ∃ y_ : List (S_Maker), y_ = (y427 ++ [(⟨t430, t431, t432, t433, t434⟩ : S_Maker)]) := ⟨_, rfl⟩
             replace H : (spec_MakerSet.l0 kj27 l0 y437 true (wrap64 (x7_1 + 1)) a1_0 a1_1 a1_2 a1_3 l1_4) = some r := by first | (rw [hy437]; with_reducible exact H) | (have H2_ := (Option.bind_some _ _).symm.trans H; rw [hy437]; with_reducible exact H2_) | (have H2_ := (Option.bind_some _ _).symm.trans H; with_reducible exact H2_) | with_reducible exact H | (rw [hy437]; exact H) | exact H
             have Ny437 := Aside0.mk hy437
             clear hy437
             have H' := Aside0.mk H
             clear H
             have hnb46 := NB394_409.out
             have hnc46 := NB409_394.out
             have hcz47_0 : wc.cell? ⟨gb394, 0, none⟩ = some (.int .i64 a1_0) := bc_ BK394 0
             have hcz47_1 : wc.cell? ⟨gb394, 1, none⟩ = some (.int .i64 a1_1) := bc_ BK394 1
             have hcz47_2 : wc.cell? ⟨gb394, 2, none⟩ = some (.int .i64 a1_2) := bc_ BK394 2
             have hcz47_3 : wc.cell? ⟨gb394, 3, none⟩ = some (.int .i64 a1_3) := bc_ BK394 3
             have hcz47_4 : wc.cell? ⟨gb394, 4, none⟩ = some (.slice A1_4 l1_4.length c1_4) := bc_ BK394 4
             have hfz47_0 := blk_frozen BK394.out 0
             have hfz47_1 := blk_frozen BK394.out 1
             have hfz47_2 := blk_frozen BK394.out 2
             have hfz47_3 := blk_frozen BK394.out 3
             have hfz47_4 := blk_frozen BK394.out 4
             go_wp2_with (first | ((with_reducible refine gate_callee (f := 60) rfl ?_); refine goesL_ (some 64) rfl rfl Try.func60 (by kernel_rfl) rfl #[.agg #[.int .i64 a1_0, .int .i64 a1_1, .int .i64 a1_2, .int .i64 a1_3, .slice A1_4 l1_4.length c1_4]] rfl sm_ ?_; (with_reducible refine (spec_l4Copy.calls a1_0 a1_1 a1_2 a1_3 _ _ l1_4 t420 t421 t422 t423 t424 _ ?side1 ?side2 A42.out).mono ?_); (case side1 => repeat (first | exact (Kd.C_below HR1_4.out HB.out) | (with_reducible refine Kd.C_alloc ?_ _) | (with_reducible refine Kd.C_drewN ?_ _) | (with_reducible refine Kd.C_drew ?_))); (case side2 => exact HC1_4.out); rintro e w48 ⟨v425, rfl, ho0, hb⟩; refine ⟨_, rfl, ?_⟩; have HO426 := Aside0.mk (Kd.R_lower ho0 (below_size (hb_ HB.out))); replace HO_5 := Aside0.mk (Kd.S_elder' (qb3_) (Kd.R_base ho0) hb); replace BK394 := cb_ BK394 hb; replace BK409 := cb_ BK409 hb; replace HB := ch_ HB hb; (try clear hb); (try clear hb2); (try clear hk); (try clear hi); (try clear ho0); obtain ⟨Ao50, co50, eo50⟩ := Kd.R_slice HO426.out; subst eo50) | ((with_reducible refine gate_builtin (b := .append) (xs := #[.tmp 62, .tmp 65]) rfl ?_); at_builtin; refine Kd.S_append k_Maker (w0 := w) w.heap.size rfl (.tmp 62) (.tmp 65) 40 38 (.agg #[(.int .i64 0), (.int .i64 0), (.int .i64 0), (.int .i64 0), (.slice none 0 0)]) 56 rfl Try.underlying40 info38 rfl (by decide) (by omega) u5 x5_1 (⟨t420, t421, t422, t423, t424⟩ : S_Maker) [.int .i64 t420, .int .i64 t421, .int .i64 t422, .int .i64 t423, .slice Ao50 t424.length co50] (fun k_ => k_ ≠ gb394 ∧ k_ ≠ gb409) (fun k_ => some k_ = (.slice Ao50 t424.length co50 : Value).ownBlock) rfl rfl ?aP (fun k_ hk_ => ((Kd.R_mono (ok' := fun k_ => ((fun k_ => k_ ≠ gb394 ∧ k_ ≠ gb409)) k_ ∧ some k_ ≠ (u5 : Value).ownBlock) (Kd.R_types (Kd.R_types (Kd.R_apart' (HO426.out) (Kd.S_typed HO_5.out) (by decide)) BK394.out (by decide)) BK409.out (by decide)) (fun k_ hk => ⟨⟨hk.1.2, hk.2⟩, hk.1.1.2⟩))).1 k_ hk_.symm) ?aF ?aO ?aB ?aS ?aL ?_; (case aP => exact k_Maker_mkM _ _ _ (⟨t420, t421, t422, t423, t424⟩ : S_Maker) (Kd.R_mono (Kd.R_tight rfl (Kd.R_mono (ok' := fun k_ => ((fun k_ => k_ ≠ gb394 ∧ k_ ≠ gb409)) k_ ∧ some k_ ≠ (u5 : Value).ownBlock) (Kd.R_types (Kd.R_types (Kd.R_apart' (HO426.out) (Kd.S_typed HO_5.out) (by decide)) BK394.out (by decide)) BK409.out (by decide)) (fun k_ hk => ⟨⟨hk.1.2, hk.2⟩, hk.1.1.2⟩))) (fun _ h_ => h_))); (case aB => exact (hb_ HB.out)); (case aF => exact (fun k_ hk => ⟨Kd.freshB (g := gb394) (o := .cells #[.int .i64 a1_0, .int .i64 a1_1, .int .i64 a1_2, .int .i64 a1_3, .slice A1_4 l1_4.length c1_4] 38 (0, 0)) (bq_ BK394.out) k_ hk, Kd.freshB (g := gb409) (o := .cells #[.int .i64 ((rd_Maker l0 x7_1).f0), .int .i64 ((rd_Maker l0 x7_1).f1), .int .i64 ((rd_Maker l0 x7_1).f2), .int .i64 ((rd_Maker l0 x7_1).f3), .slice A408_4 ((rd_Maker l0 x7_1).f4).length c408_4] 38 (0, 0)) (bq_ BK409.out) k_ hk⟩)); (case aO => exact (qb7_)); (case aS => exact (below_size (hb_ HB.out))); (case aL => have := LMc43.out; omega); intro v428 w49 ho hb hg hat; rw [← Ny427.out] at ho; have HO429 := Aside0.mk (ho); replace BK394 := Aside0.mk (blk_grown (g := gb394) (o := .cells #[.int .i64 a1_0, .int .i64 a1_1, .int .i64 a1_2, .int .i64 a1_3, .slice A1_4 l1_4.length c1_4] 38 (0, 0)) (bq_ BK394.out) hg (Kd.S_away HO_5.out (fun _ hk => hk.1.1))); replace BK409 := Aside0.mk (blk_grown (g := gb409) (o := .cells #[.int .i64 ((rd_Maker l0 x7_1).f0), .int .i64 ((rd_Maker l0 x7_1).f1), .int .i64 ((rd_Maker l0 x7_1).f2), .int .i64 ((rd_Maker l0 x7_1).f3), .slice A408_4 ((rd_Maker l0 x7_1).f4).length c408_4] 38 (0, 0)) (bq_ BK409.out) hg (Kd.S_away HO_5.out (fun _ hk => hk.1.2))); replace HB := Aside0.mk (hb); clear HO_5 HO426; clear ho hb hg hat; have hcz51_0 : w49.cell? ⟨gb409, 0, none⟩ = some (.int .i64 ((rd_Maker l0 x7_1).f0)) := bc_ BK409 0; have hcz51_1 : w49.cell? ⟨gb409, 1, none⟩ = some (.int .i64 ((rd_Maker l0 x7_1).f1)) := bc_ BK409 1; have hcz51_2 : w49.cell? ⟨gb409, 2, none⟩ = some (.int .i64 ((rd_Maker l0 x7_1).f2)) := bc_ BK409 2; have hcz51_3 : w49.cell? ⟨gb409, 3, none⟩ = some (.int .i64 ((rd_Maker l0 x7_1).f3)) := bc_ BK409 3; have hcz51_4 : w49.cell? ⟨gb409, 4, none⟩ = some (.slice A408_4 ((rd_Maker l0 x7_1).f4).length c408_4) := bc_ BK409 4; have hfz51_0 := blk_frozen BK409.out 0; have hfz51_1 := blk_frozen BK409.out 1; have hfz51_2 := blk_frozen BK409.out 2; have hfz51_3 := blk_frozen BK409.out 3; have hfz51_4 := blk_frozen BK409.out 4) | ((with_reducible refine gate_callee (f := 60) rfl ?_); refine goesL_ (some 69) rfl rfl Try.func60 (by kernel_rfl) rfl #[.agg #[.int .i64 ((rd_Maker l0 x7_1).f0), .int .i64 ((rd_Maker l0 x7_1).f1), .int .i64 ((rd_Maker l0 x7_1).f2), .int .i64 ((rd_Maker l0 x7_1).f3), .slice A408_4 ((rd_Maker l0 x7_1).f4).length c408_4]] rfl sm_ ?_; (with_reducible refine (spec_l4Copy.calls ((rd_Maker l0 x7_1).f0) ((rd_Maker l0 x7_1).f1) ((rd_Maker l0 x7_1).f2) ((rd_Maker l0 x7_1).f3) _ _ ((rd_Maker l0 x7_1).f4) t430 t431 t432 t433 t434 _ ?side1 ?side2 A44.out).mono ?_); (case side1 => repeat (first | exact (Kd.C_below HR408_4.out HB.out) | (with_reducible refine Kd.C_alloc ?_ _) | (with_reducible refine Kd.C_drewN ?_ _) | (with_reducible refine Kd.C_drew ?_))); (case side2 => exact HC408_4.out); rintro e w52 ⟨v435, rfl, ho0, hb⟩; refine ⟨_, rfl, ?_⟩; have HO436 := Aside0.mk (Kd.R_lower ho0 (below_size (hb_ HB.out))); replace HO429 := Aside0.mk (Kd.S_elder' (by (with_reducible repeat (first | apply Kd.S_alloc | apply Kd.S_drewN | apply Kd.S_drew)); exact HO429.out) (Kd.R_base ho0) hb); replace BK394 := cb_ BK394 hb; replace BK409 := cb_ BK409 hb; replace HB := ch_ HB hb; (try clear hb); (try clear hb2); (try clear hk); (try clear hi); (try clear ho0); obtain ⟨Ao54, co54, eo54⟩ := Kd.R_slice HO436.out; subst eo54) | ((with_reducible refine gate_builtin (b := .append) (xs := #[.tmp 67, .tmp 70]) rfl ?_); at_builtin; refine Kd.S_append k_Maker (w0 := w) w.heap.size rfl (.tmp 67) (.tmp 70) 40 38 (.agg #[(.int .i64 0), (.int .i64 0), (.int .i64 0), (.int .i64 0), (.slice none 0 0)]) 56 rfl Try.underlying40 info38 rfl (by decide) (by omega) v428 y427 (⟨t430, t431, t432, t433, t434⟩ : S_Maker) [.int .i64 t430, .int .i64 t431, .int .i64 t432, .int .i64 t433, .slice Ao54 t434.length co54] (fun k_ => k_ ≠ gb394 ∧ k_ ≠ gb409) (fun k_ => some k_ = (.slice Ao54 t434.length co54 : Value).ownBlock) rfl rfl ?aP (fun k_ hk_ => ((Kd.R_mono (ok' := fun k_ => ((fun k_ => k_ ≠ gb394 ∧ k_ ≠ gb409)) k_ ∧ some k_ ≠ (v428 : Value).ownBlock) (Kd.R_types (Kd.R_types (Kd.R_apart' (HO436.out) (Kd.S_typed HO429.out) (by decide)) BK394.out (by decide)) BK409.out (by decide)) (fun k_ hk => ⟨⟨hk.1.2, hk.2⟩, hk.1.1.2⟩))).1 k_ hk_.symm) ?aF ?aO ?aB ?aS ?aL ?_; (case aP => exact k_Maker_mkM _ _ _ (⟨t430, t431, t432, t433, t434⟩ : S_Maker) (Kd.R_mono (Kd.R_tight rfl (Kd.R_mono (ok' := fun k_ => ((fun k_ => k_ ≠ gb394 ∧ k_ ≠ gb409)) k_ ∧ some k_ ≠ (v428 : Value).ownBlock) (Kd.R_types (Kd.R_types (Kd.R_apart' (HO436.out) (Kd.S_typed HO429.out) (by decide)) BK394.out (by decide)) BK409.out (by decide)) (fun k_ hk => ⟨⟨hk.1.2, hk.2⟩, hk.1.1.2⟩))) (fun _ h_ => h_))); (case aB => exact (hb_ HB.out)); (case aF => exact (fun k_ hk => ⟨Kd.freshB (g := gb394) (o := .cells #[.int .i64 a1_0, .int .i64 a1_1, .int .i64 a1_2, .int .i64 a1_3, .slice A1_4 l1_4.length c1_4] 38 (0, 0)) (bq_ BK394.out) k_ hk, Kd.freshB (g := gb409) (o := .cells #[.int .i64 ((rd_Maker l0 x7_1).f0), .int .i64 ((rd_Maker l0 x7_1).f1), .int .i64 ((rd_Maker l0 x7_1).f2), .int .i64 ((rd_Maker l0 x7_1).f3), .slice A408_4 ((rd_Maker l0 x7_1).f4).length c408_4] 38 (0, 0)) (bq_ BK409.out) k_ hk⟩)); (case aO => exact (by (with_reducible repeat (first | apply Kd.S_alloc | apply Kd.S_drewN | apply Kd.S_drew)); exact Kd.S_mono HO429.out (fun k_ hk => ⟨⟨hk.1.1, hk.1.2⟩, fun e_ => hk.2 e_⟩))); (case aS => exact (below_size (hb_ HB.out))); (case aL => have := LMc45.out; omega); intro v438 w53 ho hb hg hat; rw [← Ny437.out] at ho; have HO439 := Aside0.mk (ho); replace BK394 := Aside0.mk (blk_grown (g := gb394) (o := .cells #[.int .i64 a1_0, .int .i64 a1_1, .int .i64 a1_2, .int .i64 a1_3, .slice A1_4 l1_4.length c1_4] 38 (0, 0)) (bq_ BK394.out) hg (Kd.S_away HO429.out (fun _ hk => hk.1.1))); replace BK409 := Aside0.mk (blk_grown (g := gb409) (o := .cells #[.int .i64 ((rd_Maker l0 x7_1).f0), .int .i64 ((rd_Maker l0 x7_1).f1), .int .i64 ((rd_Maker l0 x7_1).f2), .int .i64 ((rd_Maker l0 x7_1).f3), .slice A408_4 ((rd_Maker l0 x7_1).f4).length c408_4] 38 (0, 0)) (bq_ BK409.out) hg (Kd.S_away HO429.out (fun _ hk => hk.1.2))); replace HB := Aside0.mk (hb); clear HO429 HO436; clear ho hb hg hat))
             go_roundg kj27
             case measure => have := HK1.out; have := HJ7.out; have := HJ27.out; omega
             case rel => exact ⟨(y437), (true), (wrap64 (x7_1 + 1)), (qb1_), (qb1_), H', ⟨by have := HK1.out; have := HJ7.out; have := HJ27.out; omega⟩, ⟨by (with_reducible repeat (first | apply Kd.S_alloc | apply Kd.S_drewN | apply Kd.S_drew)); exact Kd.S_mono HO439.out (fun _ hk => hk.1)⟩, ⟨bq_ BK394.out⟩, ⟨hb_ HB.out⟩⟩
            ·
             rw [if_neg c45] at H
             exact absurd H (by simp)
           ·
            rw [if_neg c43] at H
            exact absurd H (by simp)
          ·
           replace c41 := Bool.eq_false_iff.mpr c41
           subst c41
           have H1 : ((spec_l4Copy.f ((rd_Maker l0 x7_1).f0) ((rd_Maker l0 x7_1).f1) ((rd_Maker l0 x7_1).f2) ((rd_Maker l0 x7_1).f3) ((rd_Maker l0 x7_1).f4)).bind fun bt440 => (if x5_1.length < 2513169434916 then (spec_MakerSet.l0 kj27 l0 (x5_1 ++ [(⟨bt440.1, bt440.2.1, bt440.2.2.1, bt440.2.2.2.1, bt440.2.2.2.2⟩ : S_Maker)]) x6_1 (wrap64 (x7_1 + 1)) a1_0 a1_1 a1_2 a1_3 l1_4) else (none))) = some r := by rw [if_neg (show ¬ (false = true) by decide)] at H; exact H
           clear H
           have H := H1
           clear H1
           replace H := Option.bind_eq_some_iff.mp H
           obtain ⟨⟨t440, t441, t442, t443, t444⟩, A550, H⟩ := H
           replace H : (if x5_1.length < 2513169434916 then (spec_MakerSet.l0 kj27 l0 (x5_1 ++ [(⟨t440, t441, t442, t443, t444⟩ : S_Maker)]) x6_1 (wrap64 (x7_1 + 1)) a1_0 a1_1 a1_2 a1_3 l1_4) else (none)) = some r := H
           have A55 := Aside0.mk A550
           clear A550
           by_cases c56 : x5_1.length < 2513169434916
           ·
            rw [if_pos c56] at H
            have LMc56 := Aside0.mk c56
            clear c56
            obtain ⟨y447, hy447⟩ : ∃ y_ : List (S_Maker), y_ = (x5_1 ++ [(⟨t440, t441, t442, t443, t444⟩ : S_Maker)]) := ⟨_, rfl⟩
            replace H : (spec_MakerSet.l0 kj27 l0 y447 x6_1 (wrap64 (x7_1 + 1)) a1_0 a1_1 a1_2 a1_3 l1_4) = some r := by first | (rw [hy447]; with_reducible exact H) | (have H2_ := (Option.bind_some _ _).symm.trans H; rw [hy447]; with_reducible exact H2_) | (have H2_ := (Option.bind_some _ _).symm.trans H; with_reducible exact H2_) | with_reducible exact H | (rw [hy447]; exact H) | exact H
            have Ny447 := Aside0.mk hy447
            clear hy447
            have H' := Aside0.mk H
            clear H
            have hnb57 := NB409_394.out
            have hnc57 := NB394_409.out
            have hcz58_0 : wc.cell? ⟨gb409, 0, none⟩ = some (.int .i64 ((rd_Maker l0 x7_1).f0)) := bc_ BK409 0
            have hcz58_1 : wc.cell? ⟨gb409, 1, none⟩ = some (.int .i64 ((rd_Maker l0 x7_1).f1)) := bc_ BK409 1
            have hcz58_2 : wc.cell? ⟨gb409, 2, none⟩ = some (.int .i64 ((rd_Maker l0 x7_1).f2)) := bc_ BK409 2
            have hcz58_3 : wc.cell? ⟨gb409, 3, none⟩ = some (.int .i64 ((rd_Maker l0 x7_1).f3)) := bc_ BK409 3
            have hcz58_4 : wc.cell? ⟨gb409, 4, none⟩ = some (.slice A408_4 ((rd_Maker l0 x7_1).f4).length c408_4) := bc_ BK409 4
            have hfz58_0 := blk_frozen BK409.out 0
            have hfz58_1 := blk_frozen BK409.out 1
            have hfz58_2 := blk_frozen BK409.out 2
            have hfz58_3 := blk_frozen BK409.out 3
            have hfz58_4 := blk_frozen BK409.out 4
            go_wp2_with (first | ((with_reducible refine gate_callee (f := 60) rfl ?_); refine goesL_ (some 69) rfl rfl Try.func60 (by kernel_rfl) rfl #[.agg #[.int .i64 ((rd_Maker l0 x7_1).f0), .int .i64 ((rd_Maker l0 x7_1).f1), .int .i64 ((rd_Maker l0 x7_1).f2), .int .i64 ((rd_Maker l0 x7_1).f3), .slice A408_4 ((rd_Maker l0 x7_1).f4).length c408_4]] rfl sm_ ?_; (with_reducible refine (spec_l4Copy.calls ((rd_Maker l0 x7_1).f0) ((rd_Maker l0 x7_1).f1) ((rd_Maker l0 x7_1).f2) ((rd_Maker l0 x7_1).f3) _ _ ((rd_Maker l0 x7_1).f4) t440 t441 t442 t443 t444 _ ?side1 ?side2 A55.out).mono ?_); (case side1 => repeat (first | exact (Kd.C_below HR408_4.out HB.out) | (with_reducible refine Kd.C_alloc ?_ _) | (with_reducible refine Kd.C_drewN ?_ _) | (with_reducible refine Kd.C_drew ?_))); (case side2 => exact HC408_4.out); rintro e w59 ⟨v445, rfl, ho0, hb⟩; refine ⟨_, rfl, ?_⟩; have HO446 := Aside0.mk (Kd.R_lower ho0 (below_size (hb_ HB.out))); replace HO_5 := Aside0.mk (Kd.S_elder' (qb3_) (Kd.R_base ho0) hb); replace BK394 := cb_ BK394 hb; replace BK409 := cb_ BK409 hb; replace HB := ch_ HB hb; (try clear hb); (try clear hb2); (try clear hk); (try clear hi); (try clear ho0); obtain ⟨Ao61, co61, eo61⟩ := Kd.R_slice HO446.out; subst eo61) | ((with_reducible refine gate_builtin (b := .append) (xs := #[.tmp 67, .tmp 70]) rfl ?_); at_builtin; refine Kd.S_append k_Maker (w0 := w) w.heap.size rfl (.tmp 67) (.tmp 70) 40 38 (.agg #[(.int .i64 0), (.int .i64 0), (.int .i64 0), (.int .i64 0), (.slice none 0 0)]) 56 rfl Try.underlying40 info38 rfl (by decide) (by omega) u5 x5_1 (⟨t440, t441, t442, t443, t444⟩ : S_Maker) [.int .i64 t440, .int .i64 t441, .int .i64 t442, .int .i64 t443, .slice Ao61 t444.length co61] (fun k_ => k_ ≠ gb394 ∧ k_ ≠ gb409) (fun k_ => some k_ = (.slice Ao61 t444.length co61 : Value).ownBlock) rfl rfl ?aP (fun k_ hk_ => ((Kd.R_mono (ok' := fun k_ => ((fun k_ => k_ ≠ gb394 ∧ k_ ≠ gb409)) k_ ∧ some k_ ≠ (u5 : Value).ownBlock) (Kd.R_types (Kd.R_types (Kd.R_apart' (HO446.out) (Kd.S_typed HO_5.out) (by decide)) BK394.out (by decide)) BK409.out (by decide)) (fun k_ hk => ⟨⟨hk.1.2, hk.2⟩, hk.1.1.2⟩))).1 k_ hk_.symm) ?aF ?aO ?aB ?aS ?aL ?_; (case aP => exact k_Maker_mkM _ _ _ (⟨t440, t441, t442, t443, t444⟩ : S_Maker) (Kd.R_mono (Kd.R_tight rfl (Kd.R_mono (ok' := fun k_ => ((fun k_ => k_ ≠ gb394 ∧ k_ ≠ gb409)) k_ ∧ some k_ ≠ (u5 : Value).ownBlock) (Kd.R_types (Kd.R_types (Kd.R_apart' (HO446.out) (Kd.S_typed HO_5.out) (by decide)) BK394.out (by decide)) BK409.out (by decide)) (fun k_ hk => ⟨⟨hk.1.2, hk.2⟩, hk.1.1.2⟩))) (fun _ h_ => h_))); (case aB => exact (hb_ HB.out)); (case aF => exact (fun k_ hk => ⟨Kd.freshB (g := gb394) (o := .cells #[.int .i64 a1_0, .int .i64 a1_1, .int .i64 a1_2, .int .i64 a1_3, .slice A1_4 l1_4.length c1_4] 38 (0, 0)) (bq_ BK394.out) k_ hk, Kd.freshB (g := gb409) (o := .cells #[.int .i64 ((rd_Maker l0 x7_1).f0), .int .i64 ((rd_Maker l0 x7_1).f1), .int .i64 ((rd_Maker l0 x7_1).f2), .int .i64 ((rd_Maker l0 x7_1).f3), .slice A408_4 ((rd_Maker l0 x7_1).f4).length c408_4] 38 (0, 0)) (bq_ BK409.out) k_ hk⟩)); (case aO => exact (qb7_)); (case aS => exact (below_size (hb_ HB.out))); (case aL => have := LMc56.out; omega); intro v448 w60 ho hb hg hat; rw [← Ny447.out] at ho; have HO449 := Aside0.mk (ho); replace BK394 := Aside0.mk (blk_grown (g := gb394) (o := .cells #[.int .i64 a1_0, .int .i64 a1_1, .int .i64 a1_2, .int .i64 a1_3, .slice A1_4 l1_4.length c1_4] 38 (0, 0)) (bq_ BK394.out) hg (Kd.S_away HO_5.out (fun _ hk => hk.1.1))); replace BK409 := Aside0.mk (blk_grown (g := gb409) (o := .cells #[.int .i64 ((rd_Maker l0 x7_1).f0), .int .i64 ((rd_Maker l0 x7_1).f1), .int .i64 ((rd_Maker l0 x7_1).f2), .int .i64 ((rd_Maker l0 x7_1).f3), .slice A408_4 ((rd_Maker l0 x7_1).f4).length c408_4] 38 (0, 0)) (bq_ BK409.out) hg (Kd.S_away HO_5.out (fun _ hk => hk.1.2))); replace HB := Aside0.mk (hb); clear HO_5 HO446; clear ho hb hg hat))
            go_roundg kj27
            case measure => have := HK1.out; have := HJ7.out; have := HJ27.out; omega
            case rel => exact ⟨(y447), (x6_1), (wrap64 (x7_1 + 1)), (qb1_), (qb1_), H', ⟨by have := HK1.out; have := HJ7.out; have := HJ27.out; omega⟩, ⟨by (with_reducible repeat (first | apply Kd.S_alloc | apply Kd.S_drewN | apply Kd.S_drew)); exact Kd.S_mono HO449.out (fun _ hk => hk.1)⟩, ⟨bq_ BK394.out⟩, ⟨hb_ HB.out⟩⟩
           ·
            rw [if_neg c56] at H
            exact absurd H (by simp)
    ·
     rw [if_neg c7] at H
     exact absurd H (by simp)
   ·
    rw [if_neg c6] at H
    have c6b0 : decide (x7_1 < (l0.length : Int)) = false := decide_eq_false c6
    clear c6
    by_cases c62 : x6_1 = true
    ·
     subst c62
     have H1 : (some x5_1) = some r := by rw [if_pos rfl] at H; exact H
     clear H
     have H := H1
     clear H1
     obtain rfl := Option.some.inj H
     go_wp2
     go_ret
     exact ⟨_, er_, by (with_reducible repeat (first | apply Kd.S_alloc | apply Kd.S_drewN | apply Kd.S_drew)); exact Kd.S_mono HO_5.out (fun _ hk => trivial), hb_ HB.out⟩
    ·
     replace c62 := Bool.eq_false_iff.mpr c62
     subst c62
     have H1 : ((spec_l4Copy.f a1_0 a1_1 a1_2 a1_3 l1_4).bind fun bt398 => (if x5_1.length < 2513169434916 then (some (x5_1 ++ [(⟨bt398.1, bt398.2.1, bt398.2.2.1, bt398.2.2.2.1, bt398.2.2.2.2⟩ : S_Maker)])) else (none))) = some r := by rw [if_neg (show ¬ (false = true) by decide)] at H; exact H
     clear H
     have H := H1
     clear H1
     replace H := Option.bind_eq_some_iff.mp H
     obtain ⟨⟨t398, t399, t400, t401, t402⟩, A630, H⟩ := H
     replace H : (if x5_1.length < 2513169434916 then (some (x5_1 ++ [(⟨t398, t399, t400, t401, t402⟩ : S_Maker)])) else (none)) = some r := H
     have A63 := Aside0.mk A630
     clear A630
     by_cases c64 : x5_1.length < 2513169434916
     ·
      rw [if_pos c64] at H
      have LMc64 := Aside0.mk c64
      clear c64
      obtain ⟨y405, hy405⟩ : ∃ y_ : List (S_Maker), y_ = (x5_1 ++ [(⟨t398, t399, t400, t401, t402⟩ : S_Maker)]) := ⟨_, rfl⟩
      replace H : (some y405) = some r := by first | (rw [hy405]; with_reducible exact H) | (have H2_ := (Option.bind_some _ _).symm.trans H; rw [hy405]; with_reducible exact H2_) | (have H2_ := (Option.bind_some _ _).symm.trans H; with_reducible exact H2_) | with_reducible exact H | (rw [hy405]; exact H) | exact H
      have Ny405 := Aside0.mk hy405
      clear hy405
      obtain rfl := Option.some.inj H
      have hcz65_0 : wr.cell? ⟨gb394, 0, none⟩ = some (.int .i64 a1_0) := bc_ BK394 0
      have hcz65_1 : wr.cell? ⟨gb394, 1, none⟩ = some (.int .i64 a1_1) := bc_ BK394 1
      have hcz65_2 : wr.cell? ⟨gb394, 2, none⟩ = some (.int .i64 a1_2) := bc_ BK394 2
      have hcz65_3 : wr.cell? ⟨gb394, 3, none⟩ = some (.int .i64 a1_3) := bc_ BK394 3
      have hcz65_4 : wr.cell? ⟨gb394, 4, none⟩ = some (.slice A1_4 l1_4.length c1_4) := bc_ BK394 4
      have hfz65_0 := blk_frozen BK394.out 0
      have hfz65_1 := blk_frozen BK394.out 1
      have hfz65_2 := blk_frozen BK394.out 2
      have hfz65_3 := blk_frozen BK394.out 3
      have hfz65_4 := blk_frozen BK394.out 4
      go_wp2_with (first | ((with_reducible refine gate_callee (f := 60) rfl ?_); refine goesL_ (some 76) rfl rfl Try.func60 (by kernel_rfl) rfl #[.agg #[.int .i64 a1_0, .int .i64 a1_1, .int .i64 a1_2, .int .i64 a1_3, .slice A1_4 l1_4.length c1_4]] rfl sm_ ?_; (with_reducible refine (spec_l4Copy.calls a1_0 a1_1 a1_2 a1_3 _ _ l1_4 t398 t399 t400 t401 t402 _ ?side1 ?side2 A63.out).mono ?_); (case side1 => repeat (first | exact (Kd.C_below HR1_4.out HB.out) | (with_reducible refine Kd.C_alloc ?_ _) | (with_reducible refine Kd.C_drewN ?_ _) | (with_reducible refine Kd.C_drew ?_))); (case side2 => exact HC1_4.out); rintro e w66 ⟨v403, rfl, ho0, hb⟩; refine ⟨_, rfl, ?_⟩; have HO404 := Aside0.mk (Kd.R_lower ho0 (below_size (hb_ HB.out))); replace HO_5 := Aside0.mk (Kd.S_elder' (qb3_) (Kd.R_base ho0) hb); replace BK394 := cb_ BK394 hb; replace HB := ch_ HB hb; (try clear hb); (try clear hb2); (try clear hk); (try clear hi); (try clear ho0); obtain ⟨Ao68, co68, eo68⟩ := Kd.R_slice HO404.out; subst eo68) | ((with_reducible refine gate_builtin (b := .append) (xs := #[.tmp 74, .tmp 77]) rfl ?_); at_builtin; refine Kd.S_append k_Maker (w0 := w) w.heap.size rfl (.tmp 74) (.tmp 77) 40 38 (.agg #[(.int .i64 0), (.int .i64 0), (.int .i64 0), (.int .i64 0), (.slice none 0 0)]) 56 rfl Try.underlying40 info38 rfl (by decide) (by omega) u5 x5_1 (⟨t398, t399, t400, t401, t402⟩ : S_Maker) [.int .i64 t398, .int .i64 t399, .int .i64 t400, .int .i64 t401, .slice Ao68 t402.length co68] (fun k_ => k_ ≠ gb394) (fun k_ => some k_ = (.slice Ao68 t402.length co68 : Value).ownBlock) rfl rfl ?aP (fun k_ hk_ => ((Kd.R_mono (ok' := fun k_ => ((fun k_ => k_ ≠ gb394)) k_ ∧ some k_ ≠ (u5 : Value).ownBlock) (Kd.R_types (Kd.R_apart' (HO404.out) (Kd.S_typed HO_5.out) (by decide)) BK394.out (by decide)) (fun k_ hk => ⟨hk.2, hk.1.2⟩))).1 k_ hk_.symm) ?aF ?aO ?aB ?aS ?aL ?_; (case aP => exact k_Maker_mkM _ _ _ (⟨t398, t399, t400, t401, t402⟩ : S_Maker) (Kd.R_mono (Kd.R_tight rfl (Kd.R_mono (ok' := fun k_ => ((fun k_ => k_ ≠ gb394)) k_ ∧ some k_ ≠ (u5 : Value).ownBlock) (Kd.R_types (Kd.R_apart' (HO404.out) (Kd.S_typed HO_5.out) (by decide)) BK394.out (by decide)) (fun k_ hk => ⟨hk.2, hk.1.2⟩))) (fun _ h_ => h_))); (case aB => exact (hb_ HB.out)); (case aF => exact (fun k_ hk => Kd.freshB (g := gb394) (o := .cells #[.int .i64 a1_0, .int .i64 a1_1, .int .i64 a1_2, .int .i64 a1_3, .slice A1_4 l1_4.length c1_4] 38 (0, 0)) (bq_ BK394.out) k_ hk)); (case aO => exact (by (with_reducible repeat (first | apply Kd.S_alloc | apply Kd.S_drewN | apply Kd.S_drew)); exact Kd.S_mono HO_5.out (fun k_ hk => ⟨hk.1, fun e_ => hk.2 e_⟩))); (case aS => exact (below_size (hb_ HB.out))); (case aL => have := LMc64.out; omega); intro v406 w67 ho hb hg hat; rw [← Ny405.out] at ho; have HO407 := Aside0.mk (ho); replace BK394 := Aside0.mk (blk_grown (g := gb394) (o := .cells #[.int .i64 a1_0, .int .i64 a1_1, .int .i64 a1_2, .int .i64 a1_3, .slice A1_4 l1_4.length c1_4] 38 (0, 0)) (bq_ BK394.out) hg (Kd.S_away HO_5.out (fun _ hk => hk.1))); replace HB := Aside0.mk (hb); clear HO_5 HO404; clear ho hb hg hat))
      go_ret
      exact ⟨_, er_, by (with_reducible repeat (first | apply Kd.S_alloc | apply Kd.S_drewN | apply Kd.S_drew)); exact Kd.S_mono HO407.out (fun _ hk => trivial), hb_ HB.out⟩
     ·
      rw [if_neg c64] at H
      exact absurd H (by simp)
/-! ### impl_copyMakers: function 67 -/
def impl_copyMakers.l0 : Nat → List (S_Maker) → List (S_Maker) → Int → Int → Option ((List (S_Maker)))
  | 0, _, _, _, _ => none
  | k + 1, x3, x6, x7, x8 => if x8 < x7 then (if 0 ≤ x8 then (if x8 < (x6.length : Int) then ((impl_copyMaker.f ((rd_Maker x6 x8).f0) ((rd_Maker x6 x8).f1) ((rd_Maker x6 x8).f2) ((rd_Maker x6 x8).f3) ((rd_Maker x6 x8).f4)).bind fun bt452 => (if x3.length < 2513169434916 then (impl_copyMakers.l0 k (x3 ++ [(⟨bt452.1, bt452.2.1, bt452.2.2.1, bt452.2.2.2.1, bt452.2.2.2.2⟩ : S_Maker)]) x6 x7 (wrap64 (x8 + 1))) else (none))) else (none)) else (none)) else (some x3)
def impl_copyMakers.f (k : Nat) (l0 : List (S_Maker)) : Option ((List (S_Maker))) := impl_copyMakers.l0 k ([] : List (S_Maker)) l0 (l0.length : Int) 0
theorem impl_copyMakers.mono_l : ∀ k, (∀ y0 y1 y2 y3, LeO (impl_copyMakers.l0 k y0 y1 y2 y3) (impl_copyMakers.l0 (k + 1) y0 y1 y2 y3))
  | 0 => fun _ _ _ _ r h => by simp [impl_copyMakers.l0] at h
  | k + 1 => by
    have ih0 := impl_copyMakers.mono_l k
    · intro y0 y1 y2 y3
      unfold impl_copyMakers.l0
      exact qbh2_
theorem impl_copyMakers.mono : ∀ a0 k, LeO (impl_copyMakers.f k a0) (impl_copyMakers.f (k + 1) a0) := by
  intro a0 k
  have ih0 := impl_copyMakers.mono_l k
  unfold impl_copyMakers.f
  exact qbh2_
set_option maxHeartbeats 8000000 in
set_option maxRecDepth 100000 in
theorem impl_copyMakers.calls (k : Nat) (A0 : Option Addr) (c0 : Nat) (l0 : List (S_Maker)) (r : List (S_Maker)) (w : World) (hr0 : Kd.C k_Maker w A0 l0.length l0) (hc0 : l0.length ≤ c0) (h : impl_copyMakers.f k l0 = some r) :
    Calls Try.prog 67 #[.slice A0 l0.length c0] w fun e w' => ∃ v0_ : Value, e = .returned (v0_) ∧ Kd.S k_Maker 38 w' w.heap.size (fun _ => True) v0_ r ∧ Below w.heap.size w w' := by
  have hu38 := Try.underlying38
  have HR0 := Aside0.mk hr0
  have HC0 := Aside0.mk hc0
  clear hr0 hc0
  have HB := Aside0.mk (Below.refl w.heap.size w)
  have H : (impl_copyMakers.l0 k ([] : List (S_Maker)) l0 (l0.length : Int) 0) = some r := h
  clear h
  have H' := Aside0.mk H
  clear H
  go_enter Try.func67, Try.ntmps67
  go_wp2
  go_loopg [3, 8] k (fun kq v3 v8 w' => ∃ (x3_1 : List (S_Maker)) (x8_1 : Int), v8 = .int .i64 x8_1 ∧ Aside0 (impl_copyMakers.l0 kq x3_1 l0 (l0.length : Int) x8_1 = some r) ∧ Aside0 (kq ≤ k) ∧ Aside0 (Kd.S k_Maker 38 w' w.heap.size (fun _ => True) v3 x3_1) ∧ Aside0 (Below w.heap.size w w'))
  case atStart => exact ⟨(([] : List (S_Maker))), (0), (qb1_), H', ⟨Nat.le_refl _⟩, ⟨by first | exact Kd.S_nil _ _ _ _ _ | exact Kd.N_nil _ _ _ _ _ | exact Kd.V_nil _ _ _ _ _ | exact Kd.Q_nil _ _ _ _ _ | exact Kd.R_nil _ _ _ _ _⟩, ⟨qb0_⟩⟩
  case round =>
    clear H'
    obtain ⟨x3_1, x8_1, rfl, HA, HK1, HO_3, HB⟩ := hrel
    cases gk with
    | zero => exact absurd HA.out (by simp [impl_copyMakers.l0])
    | succ k1 =>
      have H := HA.out
      clear HA
      simp only [impl_copyMakers.l0] at H
      by_cases c2 : x8_1 < (l0.length : Int)
      · rw [if_pos c2] at H
        have c2b0 : decide (x8_1 < (l0.length : Int)) = true := decide_eq_true c2
        clear c2
        by_cases c3 : 0 ≤ x8_1
        · rw [if_pos c3] at H
          have c3b0 : decide (0 ≤ x8_1) = true := decide_eq_true c3
          clear c3
          by_cases c4 : x8_1 < (l0.length : Int)
          · rw [if_pos c4] at H
            have c4b0 : decide (x8_1 < (l0.length : Int)) = true := decide_eq_true c4
            clear c4
            replace H := Option.bind_eq_some_iff.mp H
            obtain ⟨⟨t452, t453, t454, t455, t456⟩, A50, H⟩ := H
            replace H : (if x3_1.length < 2513169434916 then (impl_copyMakers.l0 k1 (x3_1 ++ [(⟨t452, t453, t454, t455, t456⟩ : S_Maker)]) l0 (l0.length : Int) (wrap64 (x8_1 + 1))) else (none)) = some r := H
            have A5 := Aside0.mk A50
            clear A50
            by_cases c6 : x3_1.length < 2513169434916
            · rw [if_pos c6] at H
              have LMc6 := Aside0.mk c6
              clear c6
              obtain ⟨y459, hy459⟩ : ∃ y_ : List (S_Maker), y_ = (x3_1 ++ [(⟨t452, t453, t454, t455, t456⟩ : S_Maker)]) := ⟨_, rfl⟩
              replace H : (impl_copyMakers.l0 k1 y459 l0 (l0.length : Int) (wrap64 (x8_1 + 1))) = some r := by first | (rw [hy459]; with_reducible exact H) | (have H2_ := (Option.bind_some _ _).symm.trans H; rw [hy459]; with_reducible exact H2_) | (have H2_ := (Option.bind_some _ _).symm.trans H; with_reducible exact H2_) | with_reducible exact H | (rw [hy459]; exact H) | exact H
              have Ny459 := Aside0.mk hy459
              clear hy459
              have H' := Aside0.mk H
              clear H
              have p450 : 0 ≤ (x8_1 : Int) := of_decide_eq_true dt_
              have q450 : x8_1 < (l0.length : Int) := of_decide_eq_true dt_
              obtain ⟨ad450, A450_4, c450_4, e450, hx450_0, hx450_1, hx450_2, hx450_3, hx450_4, hl450_4, hi450_4⟩ := at_Maker HR0.out x8_1 p450 q450
              cases e450
              replace hx450_0 := hc_ HB hx450_0
              replace hx450_1 := hc_ HB hx450_1
              replace hx450_2 := hc_ HB hx450_2
              replace hx450_3 := hc_ HB hx450_3
              replace hx450_4 := hc_ HB hx450_4
              have HR450_4 := Aside0.mk hi450_4
              have HC450_4 := Aside0.mk hl450_4
              clear hi450_4 hl450_4
              replace p450 := eq_true p450
              replace q450 := eq_true q450
              go_wp2_with (first | ((with_reducible refine gate_dst (N := 5) rfl ?_); refine box_event ?hg (N := 5) ?hd (cs := #[.int .i64 0, .int .i64 0, .int .i64 0, .int .i64 0, .slice none 0 0]) (t := 38) ?hr ?_; (case hd => rfl); (case hg => rfl); (case hr => first | (go_simp; done) | (go_simp; rfl)); intro gb451 hg w7 hbox hb; have BK451 := Aside0.mk (hbox); have GW451 := Aside0.mk ((by rw [hg]; exact (below_size (qb0_)) : w.heap.size ≤ gb451)); have GE451 := Aside0.mk ((by rw [hg]; exact (below_size (qb0_)) : w.heap.size ≤ gb451)); replace HO_3 := Aside0.mk (Kd.S_below (Kd.S_elderB (qb5_) gb451 (Nat.le_of_eq hg.symm)) hb); replace HB := Aside0.mk (below_step (qb0_) hb); clear hb hbox hg; have hcz8_0 : w7.cell? ⟨gb451, 0, none⟩ = some (.int .i64 0) := bc_ BK451 0; have hcz8_1 : w7.cell? ⟨gb451, 1, none⟩ = some (.int .i64 0) := bc_ BK451 1; have hcz8_2 : w7.cell? ⟨gb451, 2, none⟩ = some (.int .i64 0) := bc_ BK451 2; have hcz8_3 : w7.cell? ⟨gb451, 3, none⟩ = some (.int .i64 0) := bc_ BK451 3; have hcz8_4 : w7.cell? ⟨gb451, 4, none⟩ = some (.slice none 0 0) := bc_ BK451 4; have hfz8_0 := blk_frozen BK451.out 0; have hfz8_1 := blk_frozen BK451.out 1; have hfz8_2 := blk_frozen BK451.out 2; have hfz8_3 := blk_frozen BK451.out 3; have hfz8_4 := blk_frozen BK451.out 4) | ((with_reducible refine gate_callee (f := 61) rfl ?_); refine goesL_ (some 14) rfl rfl Try.func61 (by kernel_rfl) rfl #[.agg #[.int .i64 ((rd_Maker l0 x8_1).f0), .int .i64 ((rd_Maker l0 x8_1).f1), .int .i64 ((rd_Maker l0 x8_1).f2), .int .i64 ((rd_Maker l0 x8_1).f3), .slice A450_4 ((rd_Maker l0 x8_1).f4).length c450_4]] rfl (qb10_) ?_; (with_reducible refine (impl_copyMaker.calls ((rd_Maker l0 x8_1).f0) ((rd_Maker l0 x8_1).f1) ((rd_Maker l0 x8_1).f2) ((rd_Maker l0 x8_1).f3) _ _ ((rd_Maker l0 x8_1).f4) t452 t453 t454 t455 t456 _ ?side1 ?side2 A5.out).mono ?_); (case side1 => exact Kd.C_below HR450_4.out (qb2_)); (case side2 => exact HC450_4.out); rintro e w9 ⟨v457, rfl, ho0, hb⟩; refine ⟨_, rfl, ?_⟩; have HO458 := Aside0.mk (Kd.R_lower ho0 (below_size (qb2_))); replace HO_3 := Aside0.mk (Kd.S_elder' (by (with_reducible repeat (first | apply Kd.S_alloc | apply Kd.S_drewN | apply Kd.S_drew)); exact (Kd.S_mono (Kd.S_far (p := ⟨gb451, 4, none⟩) (Kd.S_far (p := ⟨gb451, 3, none⟩) (Kd.S_far (p := ⟨gb451, 2, none⟩) (Kd.S_far (p := ⟨gb451, 1, none⟩) (Kd.S_far (p := ⟨gb451, 0, none⟩) (Kd.S_mono HO_3.out (fun k_ hk => (⟨hk, hk.2⟩ : _ ∧ k_ ≠ gb451))) (fun _ hk => hk.2) (.int .i64 ((rd_Maker l0 x8_1).f0))) (fun _ hk => hk.2) (.int .i64 ((rd_Maker l0 x8_1).f1))) (fun _ hk => hk.2) (.int .i64 ((rd_Maker l0 x8_1).f2))) (fun _ hk => hk.2) (.int .i64 ((rd_Maker l0 x8_1).f3))) (fun _ hk => hk.2) (.slice A450_4 ((rd_Maker l0 x8_1).f4).length c450_4)) (fun _ h_ => h_.1))) (Kd.R_base ho0) hb); replace BK451 := Aside0.mk (blk_below (g := gb451) (o := .cells #[.int .i64 ((rd_Maker l0 x8_1).f0), .int .i64 ((rd_Maker l0 x8_1).f1), .int .i64 ((rd_Maker l0 x8_1).f2), .int .i64 ((rd_Maker l0 x8_1).f3), .slice A450_4 ((rd_Maker l0 x8_1).f4).length c450_4] 38 (0, 0)) (bp_ BK451.out) hb); replace HB := Aside0.mk (below_step (qb2_) hb); (try clear hb); (try clear hb2); (try clear hk); (try clear hi); (try clear ho0); obtain ⟨Ao11, co11, eo11⟩ := Kd.R_slice HO458.out; subst eo11) | ((with_reducible refine gate_builtin (b := .append) (xs := #[.tmp 12, .tmp 15]) rfl ?_); at_builtin; refine Kd.S_append k_Maker (w0 := w) w.heap.size rfl (.tmp 12) (.tmp 15) 40 38 (.agg #[(.int .i64 0), (.int .i64 0), (.int .i64 0), (.int .i64 0), (.slice none 0 0)]) 56 rfl Try.underlying40 info38 rfl (by decide) (by omega) u3 x3_1 (⟨t452, t453, t454, t455, t456⟩ : S_Maker) [.int .i64 t452, .int .i64 t453, .int .i64 t454, .int .i64 t455, .slice Ao11 t456.length co11] (fun k_ => k_ ≠ gb451) (fun k_ => some k_ = (.slice Ao11 t456.length co11 : Value).ownBlock) rfl rfl ?aP (fun k_ hk_ => ((Kd.R_mono (ok' := fun k_ => ((fun k_ => k_ ≠ gb451)) k_ ∧ some k_ ≠ (u3 : Value).ownBlock) (Kd.R_types (Kd.R_apart' (HO458.out) (Kd.S_typed HO_3.out) (by decide)) BK451.out (by decide)) (fun k_ hk => ⟨hk.2, hk.1.2⟩))).1 k_ hk_.symm) ?aF ?aO ?aB ?aS ?aL ?_; (case aP => exact k_Maker_mkM _ _ _ (⟨t452, t453, t454, t455, t456⟩ : S_Maker) (Kd.R_mono (Kd.R_tight rfl (Kd.R_mono (ok' := fun k_ => ((fun k_ => k_ ≠ gb451)) k_ ∧ some k_ ≠ (u3 : Value).ownBlock) (Kd.R_types (Kd.R_apart' (HO458.out) (Kd.S_typed HO_3.out) (by decide)) BK451.out (by decide)) (fun k_ hk => ⟨hk.2, hk.1.2⟩))) (fun _ h_ => h_))); (case aB => exact (qb2_)); (case aF => exact (fun k_ hk => Kd.freshB (g := gb451) (o := .cells #[.int .i64 ((rd_Maker l0 x8_1).f0), .int .i64 ((rd_Maker l0 x8_1).f1), .int .i64 ((rd_Maker l0 x8_1).f2), .int .i64 ((rd_Maker l0 x8_1).f3), .slice A450_4 ((rd_Maker l0 x8_1).f4).length c450_4] 38 (0, 0)) (bq_ BK451.out) k_ hk)); (case aO => exact (by (with_reducible repeat (first | apply Kd.S_alloc | apply Kd.S_drewN | apply Kd.S_drew)); exact Kd.S_mono HO_3.out (fun k_ hk => ⟨hk.1.2, fun e_ => hk.2 e_⟩))); (case aS => exact (below_size (qb2_))); (case aL => have := LMc6.out; omega); intro v460 w10 ho hb hg hat; rw [← Ny459.out] at ho; have HO461 := Aside0.mk (ho); replace BK451 := Aside0.mk (blk_grown (g := gb451) (o := .cells #[.int .i64 ((rd_Maker l0 x8_1).f0), .int .i64 ((rd_Maker l0 x8_1).f1), .int .i64 ((rd_Maker l0 x8_1).f2), .int .i64 ((rd_Maker l0 x8_1).f3), .slice A450_4 ((rd_Maker l0 x8_1).f4).length c450_4] 38 (0, 0)) (bq_ BK451.out) hg (Kd.S_away HO_3.out (fun _ hk => hk.1.2))); replace HB := Aside0.mk (hb); clear HO_3 HO458; clear ho hb hg hat))
              go_roundg k1
              case measure => have := HK1.out; omega
              case rel => exact ⟨(y459), (wrap64 (x8_1 + 1)), (qb1_), H', ⟨by have := HK1.out; omega⟩, ⟨by (with_reducible repeat (first | apply Kd.S_alloc | apply Kd.S_drewN | apply Kd.S_drew)); exact Kd.S_mono HO461.out (fun _ hk => trivial)⟩, ⟨qb2_⟩⟩
            · rw [if_neg c6] at H
              exact absurd H (by simp)
          · rw [if_neg c4] at H
            exact absurd H (by simp)
        · rw [if_neg c3] at H
          exact absurd H (by simp)
      · rw [if_neg c2] at H
        have c2b0 : decide (x8_1 < (l0.length : Int)) = false := decide_eq_false c2
        clear c2
        obtain rfl := Option.some.inj H
        go_wp2
        go_ret
        exact ⟨_, qb9_, qb5_, qb0_⟩

/-! ### laws_markMakerS: function 21 -/
def laws_markMakerS.l0 : Nat → List (S_Maker) → Int → Int → Option (Int × (List (S_Maker)))
  | 0, _, _, _ => none
  | k + 1, x0, x1, x5 => if x5 < (x0.length : Int) then (if 0 ≤ x5 then ((laws_markMarkS.f k ((rd_Maker x0 x5).f4) (wrap64 (wrap64 (wrap64 (wrap64 (x1 + 1) + 1) + 1) + 1))).bind fun b0 => laws_markMakerS.l0 k (x0.set (x5 : Int).toNat (⟨x1, (wrap64 (x1 + 1)), (wrap64 (wrap64 (x1 + 1) + 1)), (wrap64 (wrap64 (wrap64 (x1 + 1) + 1) + 1)), b0.2⟩ : S_Maker)) b0.1 (wrap64 (x5 + 1))) else (none)) else (some (x1, x0))
def laws_markMakerS.f (k : Nat) (l0 : List (S_Maker)) (a1 : Int) : Option (Int × (List (S_Maker))) := laws_markMakerS.l0 k l0 a1 0
theorem laws_markMakerS.mono_l : ∀ k, (∀ y0 y1 y2, LeO (laws_markMakerS.l0 k y0 y1 y2) (laws_markMakerS.l0 (k + 1) y0 y1 y2))
  | 0 => fun _ _ _ r h => by simp [laws_markMakerS.l0] at h
  | k + 1 => by
    have ih0 := laws_markMakerS.mono_l k
    intro y0 y1 y2
    unfold laws_markMakerS.l0
    refine LeO.ite (LeO.ite ?_ (LeO.none _)) (LeO.refl _)
    refine LeO.bind (laws_markMarkS.mono _ _ _) (fun _ => ?_)
    exact ih0 _ _ _
theorem laws_markMakerS.mono : ∀ a0 a1 k, LeO (laws_markMakerS.f k a0 a1) (laws_markMakerS.f (k + 1) a0 a1) := fun a0 a1 k => laws_markMakerS.mono_l k _ _ _
set_option maxHeartbeats 16000000 in
set_option maxRecDepth 100000 in
theorem laws_markMakerS.calls0 (k : Nat) (P0_ : Nat → Prop) (u9000_ : Value) (l0 : List (S_Maker)) (a1 : Int) (r1 : Int) (r2 : List (S_Maker)) (w0 w : World) (hB : Below w0.heap.size w0 w) (ho0 : Kd.S k_Maker 38 w w0.heap.size P0_ u9000_ l0) (h : laws_markMakerS.f k l0 a1 = some (r1, r2)) :
    Calls Try.prog 21 #[u9000_, .int .i64 a1] w fun e w' => e = .returned (.int .i64 r1) ∧ Kd.S k_Maker 38 w' w0.heap.size P0_ u9000_ r2 ∧ Below w0.heap.size w0 w' ∧ Kept w w' (fun k_ => P0_ k_) := by
  have hu := Try.underlying38
  have HO := Aside0.mk (show Kd.S k_Maker 38 w w0.heap.size P0_ u9000_ l0 from ho0)
  have HK := Aside0.mk (Kept.refl w (fun k_ => P0_ k_))
  have HB := Aside0.mk hB
  have H' : Aside0 (laws_markMakerS.l0 k l0 a1 0 = some (r1, r2)) := ⟨h⟩
  obtain ⟨A0, c0, e0⟩ := Kd.S_slice ho0
  subst e0
  clear h hB ho0
  go_enter Try.func21, Try.ntmps21
  go_wp2
  go_loopg [1, 5] k (fun kq v1 v5 w' => ∃ (x0 : List (S_Maker)) (x1 x5 : Int), v1 = .int .i64 x1 ∧ v5 = .int .i64 x5 ∧ Aside0 (laws_markMakerS.l0 kq x0 x1 x5 = some (r1, r2)) ∧ Aside0 (kq ≤ k) ∧ Aside0 (Kd.S k_Maker 38 w' w0.heap.size P0_ (.slice A0 l0.length c0) x0) ∧ Aside0 (Kept w w' (fun k_ => P0_ k_)) ∧ Aside0 (Below w0.heap.size w0 w'))
  case atStart => exact ⟨l0, a1, 0, rfl, rfl, H', ⟨Nat.le_refl _⟩, HO, HK, HB⟩
  case round =>
    clear H' HO HK HB
    obtain ⟨x0, x1, x5, rfl, rfl, HA, HK1, HO, HK, HB⟩ := hrel
    cases gk with
    | zero => exact absurd HA.out (by simp [laws_markMakerS.l0])
    | succ k1 =>
      have H := HA.out
      clear HA
      simp only [laws_markMakerS.l0] at H
      have hlen := (Kd.S_reads' HO.out).1
      by_cases c1 : x5 < (x0.length : Int)
      · rw [if_pos c1] at H
        by_cases c2 : 0 ≤ x5
        · rw [if_pos c2] at H
          obtain ⟨⟨s0, m0⟩, Q0, H⟩ := Option.bind_eq_some_iff.mp H
          have Q0 := Aside0.mk Q0
          have H' := Aside0.mk H
          clear H
          have hlt : x5 < (l0.length : Int) := by omega
          have c1d : decide (x5 < (l0.length : Int)) = true := decide_eq_true hlt
          have c2d : decide (0 ≤ x5) = true := decide_eq_true c2
          obtain ⟨g, cap, eg, gb, gl, cl, HG⟩ := Kd.S_form HO.out (by omega)
          injection eg with ea_ en_ ec_
          subst ea_
          subst ec_
          clear en_ hlen
          obtain ⟨oki, ce, hcl, hM, hcc, hfr, hoki, hH⟩ := Kd.S_elem HO.out z_Maker x5 c2 hlt
          change k_Maker.M wr w0.heap.size oki (rd_Maker x0 x5) ce at hM
          obtain ⟨v4, rfl, R4⟩ := k_Maker_openM hM
          obtain ⟨A4, d4, rfl⟩ := Kd.R_slice R4
          have GP : Aside0 (P0_ g ∨ w.heap.size ≤ g) := ⟨.inl ((Kd.S_R HO.out).1 g (by simp [Value.ownBlock]))⟩
          have GB := Aside0.mk gb
          have HI := Aside0.mk hoki
          have hz : ∀ {W : World} {c' : List Value}, Kd.H k_Maker 38 W w0.heap.size P0_ (.slice (some ⟨g, 0, none⟩) l0.length c0) x0 x5 oki c' → (∀ j u, c'[j]? = some u → W.cell? ⟨g, x5.toNat * 5 + j, none⟩ = some u) ∧ ∀ j, W.frozen? ⟨g, x5.toNat * 5 + j, none⟩ = false := fun hH_ => by
            obtain ⟨_, _, _, _, _, hc_, _⟩ := Kd.H_raw hH_ c2 hlt
            obtain ⟨_, _, hR_⟩ := hH_
            obtain ⟨_, _, _, _, hf_⟩ := Kd.R_elem hR_ (z_Maker, 0) x5 c2 hlt
            exact ⟨hc_, hf_⟩
          have HZ := Aside0.mk (@hz)
          have HH := Aside0.mk hH
          have RR4 := Aside0.mk R4
          have hx_0 : wr.cell? ⟨g, x5.toNat * 5, none⟩ = some (.int .i64 (rd_Maker x0 x5).f0) := hcc 0 _ rfl
          have hf_0 : wr.frozen? ⟨g, x5.toNat * 5, none⟩ = false := hfr 0
          clear hcl hM hcc hfr hoki hH gb gl HG hz R4
          go_wp2_with (first | ((with_reducible refine gate_store (t := 3) (p := 16) rfl ?_); refine store_event (t := 3) (p := 16) (v := ?vo_ws0) (w1 := (wr.setCell ⟨g, x5.toNat * 5, none⟩ (.int .i64 x1))) ?hg ?ho ?hn ?hr ?_; (case ho => rfl); (case hg => rfl); (case hn => rfl); (case hr => first | (go_simp; done) | (go_simp; rfl)); intro ws0 hw; have hs_ := Kd.H_seg HH.out c2 hlt (seg := [.int .i64 x1]) (j := 0) (show 1 ≤ 5 from by decide) (qb15_); have hh_ : Kd.H k_Maker 38 ws0 w0.heap.size P0_ (.slice (some ⟨g, 0, none⟩) l0.length c0) x0 x5 oki [.int .i64 x1, .int .i64 (rd_Maker x0 x5).f1, .int .i64 (rd_Maker x0 x5).f2, .int .i64 (rd_Maker x0 x5).f3, .slice A4 (rd_Maker x0 x5).f4.length d4] := (by rw [hw]; exact hs_.1); have hg_ : wr.grownBy ws0 (some g) := (by rw [hw]; exact hs_.2); have r4_ := Aside0.mk (Kd.R_grown RR4.out hg_ (fun k_ hk_ he_ => (HI.out k_ hk_).2 (by injection he_))); have b_ : Aside0 (Below w0.heap.size w0 ws0) := ⟨qb17_⟩; have k_ := Aside0.mk (Kept.of_grown (S := (fun k_ => P0_ k_)) hg_ HK.out (fun k_ e_ => by cases e_; exact GP.out)); clear hs_ hx_0 hf_0 HH HB HK RR4; have HH := Aside0.mk hh_; have HB := b_; have HK := k_; have RR4 := r4_; clear hh_ hg_ b_ k_ hw r4_; have hx_0 : ws0.cell? ⟨g, x5.toNat * 5 + 1, none⟩ = some (.int .i64 (rd_Maker x0 x5).f1) := (HZ.out HH.out).1 1 _ rfl; have hf_0 : ws0.frozen? ⟨g, x5.toNat * 5 + 1, none⟩ = false := (HZ.out HH.out).2 1) | ((with_reducible refine gate_store (t := 3) (p := 23) rfl ?_); refine store_event (t := 3) (p := 23) (v := ?vo_ws1) (w1 := (ws0.setCell ⟨g, x5.toNat * 5 + 1, none⟩ (.int .i64 (wrap64 (x1 + 1))))) ?hg ?ho ?hn ?hr ?_; (case ho => rfl); (case hg => rfl); (case hn => rfl); (case hr => first | (go_simp; done) | (go_simp; rfl)); intro ws1 hw; have hs_ := Kd.H_seg HH.out c2 hlt (seg := [.int .i64 (wrap64 (x1 + 1))]) (j := 1) (show 2 ≤ 5 from by decide) (qb15_); have hh_ : Kd.H k_Maker 38 ws1 w0.heap.size P0_ (.slice (some ⟨g, 0, none⟩) l0.length c0) x0 x5 oki [.int .i64 x1, .int .i64 (wrap64 (x1 + 1)), .int .i64 (rd_Maker x0 x5).f2, .int .i64 (rd_Maker x0 x5).f3, .slice A4 (rd_Maker x0 x5).f4.length d4] := (by rw [hw]; exact hs_.1); have hg_ : ws0.grownBy ws1 (some g) := (by rw [hw]; exact hs_.2); have r4_ := Aside0.mk (Kd.R_grown RR4.out hg_ (fun k_ hk_ he_ => (HI.out k_ hk_).2 (by injection he_))); have b_ : Aside0 (Below w0.heap.size w0 ws1) := ⟨qb17_⟩; have k_ := Aside0.mk (Kept.of_grown (S := (fun k_ => P0_ k_)) hg_ HK.out (fun k_ e_ => by cases e_; exact GP.out)); clear hs_ hx_0 hf_0 HH HB HK RR4; have HH := Aside0.mk hh_; have HB := b_; have HK := k_; have RR4 := r4_; clear hh_ hg_ b_ k_ hw r4_; have hx_0 : ws1.cell? ⟨g, x5.toNat * 5 + 2, none⟩ = some (.int .i64 (rd_Maker x0 x5).f2) := (HZ.out HH.out).1 2 _ rfl; have hf_0 : ws1.frozen? ⟨g, x5.toNat * 5 + 2, none⟩ = false := (HZ.out HH.out).2 2) | ((with_reducible refine gate_store (t := 3) (p := 30) rfl ?_); refine store_event (t := 3) (p := 30) (v := ?vo_ws2) (w1 := (ws1.setCell ⟨g, x5.toNat * 5 + 2, none⟩ (.int .i64 (wrap64 (wrap64 (x1 + 1) + 1))))) ?hg ?ho ?hn ?hr ?_; (case ho => rfl); (case hg => rfl); (case hn => rfl); (case hr => first | (go_simp; done) | (go_simp; rfl)); intro ws2 hw; have hs_ := Kd.H_seg HH.out c2 hlt (seg := [.int .i64 (wrap64 (wrap64 (x1 + 1) + 1))]) (j := 2) (show 3 ≤ 5 from by decide) (qb15_); have hh_ : Kd.H k_Maker 38 ws2 w0.heap.size P0_ (.slice (some ⟨g, 0, none⟩) l0.length c0) x0 x5 oki [.int .i64 x1, .int .i64 (wrap64 (x1 + 1)), .int .i64 (wrap64 (wrap64 (x1 + 1) + 1)), .int .i64 (rd_Maker x0 x5).f3, .slice A4 (rd_Maker x0 x5).f4.length d4] := (by rw [hw]; exact hs_.1); have hg_ : ws1.grownBy ws2 (some g) := (by rw [hw]; exact hs_.2); have r4_ := Aside0.mk (Kd.R_grown RR4.out hg_ (fun k_ hk_ he_ => (HI.out k_ hk_).2 (by injection he_))); have b_ : Aside0 (Below w0.heap.size w0 ws2) := ⟨qb17_⟩; have k_ := Aside0.mk (Kept.of_grown (S := (fun k_ => P0_ k_)) hg_ HK.out (fun k_ e_ => by cases e_; exact GP.out)); clear hs_ hx_0 hf_0 HH HB HK RR4; have HH := Aside0.mk hh_; have HB := b_; have HK := k_; have RR4 := r4_; clear hh_ hg_ b_ k_ hw r4_; have hx_0 : ws2.cell? ⟨g, x5.toNat * 5 + 3, none⟩ = some (.int .i64 (rd_Maker x0 x5).f3) := (HZ.out HH.out).1 3 _ rfl; have hf_0 : ws2.frozen? ⟨g, x5.toNat * 5 + 3, none⟩ = false := (HZ.out HH.out).2 3) | ((with_reducible refine gate_store (t := 3) (p := 37) rfl ?_); refine store_event (t := 3) (p := 37) (v := ?vo_ws3) (w1 := (ws2.setCell ⟨g, x5.toNat * 5 + 3, none⟩ (.int .i64 (wrap64 (wrap64 (wrap64 (x1 + 1) + 1) + 1))))) ?hg ?ho ?hn ?hr ?_; (case ho => rfl); (case hg => rfl); (case hn => rfl); (case hr => first | (go_simp; done) | (go_simp; rfl)); intro ws3 hw; have hs_ := Kd.H_seg HH.out c2 hlt (seg := [.int .i64 (wrap64 (wrap64 (wrap64 (x1 + 1) + 1) + 1))]) (j := 3) (show 4 ≤ 5 from by decide) (qb15_); have hh_ : Kd.H k_Maker 38 ws3 w0.heap.size P0_ (.slice (some ⟨g, 0, none⟩) l0.length c0) x0 x5 oki [.int .i64 x1, .int .i64 (wrap64 (x1 + 1)), .int .i64 (wrap64 (wrap64 (x1 + 1) + 1)), .int .i64 (wrap64 (wrap64 (wrap64 (x1 + 1) + 1) + 1)), .slice A4 (rd_Maker x0 x5).f4.length d4] := (by rw [hw]; exact hs_.1); have hg_ : ws2.grownBy ws3 (some g) := (by rw [hw]; exact hs_.2); have r4_ := Aside0.mk (Kd.R_grown RR4.out hg_ (fun k_ hk_ he_ => (HI.out k_ hk_).2 (by injection he_))); have b_ : Aside0 (Below w0.heap.size w0 ws3) := ⟨qb17_⟩; have k_ := Aside0.mk (Kept.of_grown (S := (fun k_ => P0_ k_)) hg_ HK.out (fun k_ e_ => by cases e_; exact GP.out)); clear hs_ hx_0 hf_0 HH HB HK RR4; have HH := Aside0.mk hh_; have HB := b_; have HK := k_; have RR4 := r4_; clear hh_ hg_ b_ k_ hw r4_; have hx_0 : ws3.cell? ⟨g, x5.toNat * 5 + 4, none⟩ = some (.slice A4 (rd_Maker x0 x5).f4.length d4) := (HZ.out HH.out).1 4 _ rfl; have hf_0 : ws3.frozen? ⟨g, x5.toNat * 5 + 4, none⟩ = false := (HZ.out HH.out).2 4) | (go_at_call 63; (with_reducible refine (laws_markMarkS.calls k1 oki (.slice A4 (rd_Maker x0 x5).f4.length d4) ((rd_Maker x0 x5).f4) (wrap64 (wrap64 (wrap64 (wrap64 (x1 + 1) + 1) + 1) + 1)) s0 m0 w0 _ HB.out RR4.out Q0.out).mono ?_); rintro e wc0 ⟨rfl, hr_, hb_, hk_⟩; have r_ := Aside0.mk (Kd.R_mono (Kd.R_tight rfl hr_) (fun k_ hk_ => RR4.out.1 k_ hk_.symm)); have hh_ := Kd.H_step HH.out (fun k_ _ hn_ hl_ => hk_.2 k_ hl_ (fun hk_h => hn_ (hk_h))); have kk_ := Aside0.mk (Kept.then_ HK.out hk_ (fun k_ hk_h => .inl (HI.out k_ (hk_h)).1)); have bb_ := Aside0.mk hb_; clear hk_ hb_ hr_ HH HK HB RR4 hx_0 hf_0; have HH := Aside0.mk hh_; have HK := kk_; have HB := bb_; have RR4 := r_; clear hh_ kk_ bb_ r_))
          have HM : Aside0 (Kd.S k_Maker 38 wc0 w0.heap.size P0_ (.slice (some ⟨g, 0, none⟩) l0.length c0) (x0.set x5.toNat (⟨x1, wrap64 (x1 + 1), wrap64 (wrap64 (x1 + 1) + 1), wrap64 (wrap64 (wrap64 (x1 + 1) + 1) + 1), m0⟩ : S_Maker))) := by
            obtain ⟨_, _, ev0⟩ := Kd.R_slice RR4.out
            have el0 : m0.length = (rd_Maker x0 x5).f4.length := by injection ev0 with _ h_ _; exact h_.symm
            exact ⟨Kd.H_back HH.out (okp := oki) (k_Maker_mkM _ _ _ (⟨x1, wrap64 (x1 + 1), wrap64 (wrap64 (x1 + 1) + 1), wrap64 (wrap64 (wrap64 (x1 + 1) + 1) + 1), m0⟩ : S_Maker) RR4.out) (fun _ hk_ => hk_)⟩
          clear HH RR4 HI HZ GP GB
          go_roundg k1
          case measure => have := HK1.out; omega
          case rel => exact ⟨_, _, _, by first | rfl | (simp; done), by first | rfl | (simp; done), H', ⟨by have := HK1.out; omega⟩, HM, HK, HB⟩
        · rw [if_neg c2] at H
          exact absurd H (by simp)
      · rw [if_neg c1] at H
        have c1d : decide (x5 < (l0.length : Int)) = false := decide_eq_false (by omega)
        clear hlen
        have E := Aside0.mk (Option.some.inj H)
        clear H c1
        go_wp2
        go_ret
        obtain ⟨rfl, rfl⟩ : x1 = r1 ∧ x0 = r2 := by have h_ := E.out; simpa using h_
        exact ⟨by first | rfl | simp, HO.out, HB.out, HK.out⟩
theorem laws_markMakerS.calls (k : Nat) (P0_ : Nat → Prop) (u9000_ : Value) (l0 : List (S_Maker)) (a1 : Int) (r1 : Int) (r2 : List (S_Maker)) (w0 w : World) (hB : Below w0.heap.size w0 w) (ho0 : Kd.S k_Maker 38 w w0.heap.size P0_ u9000_ l0) (h : laws_markMakerS.f k l0 a1 = some (r1, r2)) :
    Calls Try.prog 21 #[u9000_, .int .i64 a1] w fun e w' => e = .returned (.int .i64 r1) ∧ Kd.S k_Maker 38 w' w0.heap.size (fun k_ => (P0_ k_ ∨ w.heap.size ≤ k_)) u9000_ r2 ∧ Below w0.heap.size w0 w' ∧ Kept w w' (fun k_ => P0_ k_) :=
  (laws_markMakerS.calls0 k P0_ u9000_ l0 a1 r1 r2 w0 w hB ho0 h).mono (fun _ _ hx => ⟨hx.1, Kd.S_mono hx.2.1 (fun _ hk => .inl hk), hx.2.2.1, hx.2.2.2⟩)

/-! ### impl_MakerSet: function 27 -/
/-- is it the place of the same row and client -/
def setE (a x : S_Maker) : Bool := (x.f0 == a.f0) && (x.f1 == a.f1)
/-- is the new maker put ahead of x -/
def setC (a x : S_Maker) (p : Bool) : Bool := !p && (setE a x || (decide (x.f0 > a.f0) || ((x.f0 == a.f0) && decide (x.f1 > a.f1))))
def setL (a : S_Maker) : List S_Maker → Bool → List S_Maker
  | [], p => if p = true then [] else [a]
  | x :: t, p => (if setC a x p = true then [a] else []) ++ ((if setE a x = true then [] else [x]) ++ setL a t (p || setC a x p))
def impl_MakerSet.f (k : Nat) (l0 : List (S_Maker)) (a1_0 : Int) (a1_1 : Int) (a1_2 : Int) (a1_3 : Int) (l1_4 : List (S_Mark)) : Option (List (S_Maker)) :=
  (impl_copyMakers.f k l0).bind fun c => (impl_copyMaker.f a1_0 a1_1 a1_2 a1_3 l1_4).bind fun b => if c.length < 1000000000000 then some (setL ⟨b.1, b.2.1, b.2.2.1, b.2.2.2.1, b.2.2.2.2⟩ c false) else none
theorem impl_MakerSet.mono : ∀ a0 a1 a2 a3 a4 a5 k, LeO (impl_MakerSet.f k a0 a1 a2 a3 a4 a5) (impl_MakerSet.f (k + 1) a0 a1 a2 a3 a4 a5) := fun _ _ _ _ _ _ _ => LeO.bind (impl_copyMakers.mono _ _) (fun _ => LeO.refl _)
/-- a block that the answer's rows may be: of the copied list's, only what stood ahead of place i -/
def setOk (f : Nat → Nat) (N0 N1 : Nat) (vT : Value) (g3 i : Nat) (k : Nat) : Prop := (N0 ≤ k → k < N1 → some k ≠ vT.ownBlock ∧ f k < i) ∧ k ≠ g3
/-- what is known of memory while makers are set -/
structure SetS (w W : World) (N0 N1 : Nat) (f : Nat → Nat) (g3 : Nat) (c3 : Array Value) (vT : Value) (c : List S_Maker) (i : Nat) (vO : Value) (acc : List S_Maker) : Prop where
  below : Below w.heap.size w W
  n : w.heap.size ≤ N0 ∧ N0 ≤ N1 ∧ N1 ≤ W.heap.size
  b3 : W.heap[g3]? = some (.cells c3 38 (0, 0))
  ge3 : w.heap.size ≤ g3 ∧ g3 < N0
  tmp : (Kd.tag f k_Maker).R 38 W w.heap.size (fun k => N0 ≤ k ∧ k < N1) vT c.zipIdx
  out : Kd.S k_Maker 38 W w.heap.size (setOk f N0 N1 vT g3 i) vO acc
  ob : ∀ k, vO.ownBlock = some k → k < N0 ∨ N1 ≤ k
section
variable {w W W1 : World} {N0 N1 : Nat} {f : Nat → Nat} {g3 : Nat} {c3 : Array Value} {vT : Value} {c : List S_Maker} {i : Nat} {vO : Value} {acc : List S_Maker}
theorem SetS.step (h : SetS w W N0 N1 f g3 c3 vT c i vO acc) (hb : Below W.heap.size W W1) : SetS w W1 N0 N1 f g3 c3 vT c i vO acc :=
  ⟨below_step h.below hb, ⟨h.n.1, h.n.2.1, Nat.le_trans h.n.2.2 hb.size⟩, blk_below h.b3 hb, h.ge3, Kd.R_below h.tmp hb, Kd.S_below h.out hb, h.ob⟩
theorem SetS.next (h : SetS w W N0 N1 f g3 c3 vT c i vO acc) : SetS w W N0 N1 f g3 c3 vT c (i + 1) vO acc :=
  ⟨h.below, h.n, h.b3, h.ge3, h.tmp, Kd.S_mono h.out (fun k hk => ⟨fun h0 h1 => ⟨(hk.1 h0 h1).1, by have := (hk.1 h0 h1).2; omega⟩, hk.2⟩), h.ob⟩
theorem SetS.app (h : SetS w W N0 N1 f g3 c3 vT c i vO acc) {v1 : Value} {p : S_Maker} {j : Nat} (hS : Kd.S k_Maker 38 W1 w.heap.size (setOk f N0 N1 vT g3 j) v1 (acc ++ [p])) (hb : Below w.heap.size w W1) (hg : W.grownBy W1 vO.ownBlock) (hat : v1.ownBlock = vO.ownBlock ∨ ∃ b, v1.ownBlock = some b ∧ W.heap.size ≤ b) :
    SetS w W1 N0 N1 f g3 c3 vT c j v1 (acc ++ [p]) := by
  refine ⟨hb, ⟨h.n.1, h.n.2.1, Nat.le_trans h.n.2.2 hg.size⟩, blk_grown h.b3 hg (fun e => (((Kd.S_R h.out).1 g3 e.symm).2) rfl), h.ge3, Kd.R_grown h.tmp hg (fun k hk e => ?_), hS, fun k hk => ?_⟩
  · rcases h.ob k e.symm with h1 | h1
    · omega
    · omega
  · rcases hat with e | ⟨b, e, hle⟩
    · exact h.ob k (e ▸ hk)
    · rw [e] at hk
      injection hk with hk
      have := h.n.2.2
      exact .inr (by omega)
theorem SetS.give_new (h : SetS w W N0 N1 f g3 c3 vT c i vO acc) (hb : Below W.heap.size W W1) {v5 : Value} {a0 a1 a2 a3 : Int} {b4 : List S_Mark} (hr : Kd.R k_Mark 110 W1 W.heap.size (fun _ => True) v5 b4) :
    k_Maker.M W1 w.heap.size (fun k => some k = v5.ownBlock) ⟨a0, a1, a2, a3, b4⟩ [.int .i64 a0, .int .i64 a1, .int .i64 a2, .int .i64 a3, v5] ∧ (∀ k, some k = v5.ownBlock → setOk f N0 N1 vT g3 i k ∧ some k ≠ vO.ownBlock) ∧ (∀ k, W1.heap.size ≤ k → setOk f N0 N1 vT g3 i k) ∧ Kd.S k_Maker 38 W1 w.heap.size (fun k => setOk f N0 N1 vT g3 i k ∧ ¬ some k = v5.ownBlock) vO acc := by
  have hn := h.n
  have h3 := h.ge3
  have hs := hb.size
  have fresh : ∀ k, W.heap.size ≤ k → setOk f N0 N1 vT g3 i k := fun k hk => ⟨fun _ h1 => by omega, by omega⟩
  refine ⟨k_Maker_mkM _ _ _ ⟨a0, a1, a2, a3, b4⟩ (Kd.R_lower (Kd.R_tight rfl hr) (by omega)), fun k hk => ?_, fun k hk => fresh k (by omega), ?_⟩
  · have hk2 := Kd.R_base hr k hk.symm
    exact ⟨fresh k hk2, fun e => by have := Kd.S_lt h.out k e.symm; omega⟩
  · exact Kd.S_mono (Kd.S_old h.out hb) (fun k hk => ⟨hk.1, fun e => by have := Kd.R_base hr k e.symm; have := hk.2; omega⟩)
theorem SetS.elem (h : SetS w W N0 N1 f g3 c3 vT c i vO acc) (hi : i < c.length) : ∃ (gT : Nat) (cap : Nat), vT = .slice (some ⟨gT, 0, none⟩) c.length cap ∧ ∃ v4 : Value, Kd.R k_Mark 110 W w.heap.size (fun k => (N0 ≤ k ∧ k < N1) ∧ some k ≠ vT.ownBlock ∧ f k = i) v4 (rd_Maker c (i : Int)).f4 ∧
    W.cell? ⟨gT, i * 5, none⟩ = some (.int .i64 (rd_Maker c (i : Int)).f0) ∧ W.cell? ⟨gT, i * 5 + 1, none⟩ = some (.int .i64 (rd_Maker c (i : Int)).f1) ∧ W.cell? ⟨gT, i * 5 + 2, none⟩ = some (.int .i64 (rd_Maker c (i : Int)).f2) ∧ W.cell? ⟨gT, i * 5 + 3, none⟩ = some (.int .i64 (rd_Maker c (i : Int)).f3) ∧ W.cell? ⟨gT, i * 5 + 4, none⟩ = some v4 := by
  have hz : c.zipIdx.length = c.length := List.length_zipIdx
  obtain ⟨gT, cap, e, _, _, _, _⟩ := Kd.R_form h.tmp (by omega)
  subst e
  obtain ⟨ce, hcl, hM, hcc, _⟩ := Kd.R_elem h.tmp (z_Maker, i) (i : Int) (by omega) (by omega)
  have hg : (c.zipIdx.getD (i : Int).toNat (z_Maker, i)) = (rd_Maker c (i : Int), i) := by
    rw [Int.toNat_natCast, List.getD_eq_getElem?_getD, List.getElem?_zipIdx, Nat.zero_add, List.getElem?_eq_getElem hi]
    simp [rd_Maker, List.getD_eq_getElem?_getD, List.getElem?_eq_getElem hi]
  rw [hg] at hM
  obtain ⟨v4, rfl, R4⟩ := k_Maker_openM (show k_Maker.M W w.heap.size (fun k => ((N0 ≤ k ∧ k < N1) ∧ k ≠ gT) ∧ f k = i) (rd_Maker c (i : Int)) ce from hM)
  refine ⟨gT, cap, by rw [hz], v4, Kd.R_mono R4 (fun k hk => ⟨hk.1.1, fun e => hk.1.2 (by simpa [Value.ownBlock] using e), hk.2⟩), ?_⟩
  simp only [Int.toNat_natCast] at hcc
  exact ⟨hcc 0 _ rfl, hcc 1 _ rfl, hcc 2 _ rfl, hcc 3 _ rfl, hcc 4 _ rfl⟩
theorem SetS.give_elem (h : SetS w W N0 N1 f g3 c3 vT c i vO acc) {v4 : Value} {a0 a1 a2 a3 : Int} {m : List S_Mark} (hr : Kd.R k_Mark 110 W w.heap.size (fun k => (N0 ≤ k ∧ k < N1) ∧ some k ≠ vT.ownBlock ∧ f k = i) v4 m) :
    k_Maker.M W w.heap.size (fun k => (N0 ≤ k ∧ k < N1) ∧ some k ≠ vT.ownBlock ∧ f k = i) ⟨a0, a1, a2, a3, m⟩ [.int .i64 a0, .int .i64 a1, .int .i64 a2, .int .i64 a3, v4] ∧ (∀ k, ((N0 ≤ k ∧ k < N1) ∧ some k ≠ vT.ownBlock ∧ f k = i) → setOk f N0 N1 vT g3 (i + 1) k ∧ some k ≠ vO.ownBlock) ∧ (∀ k, W.heap.size ≤ k → setOk f N0 N1 vT g3 (i + 1) k) ∧ Kd.S k_Maker 38 W w.heap.size (fun k => setOk f N0 N1 vT g3 (i + 1) k ∧ ¬ ((N0 ≤ k ∧ k < N1) ∧ some k ≠ vT.ownBlock ∧ f k = i)) vO acc := by
  have hn := h.n
  have h3 := h.ge3
  refine ⟨k_Maker_mkM _ _ _ ⟨a0, a1, a2, a3, m⟩ hr, fun k hk => ⟨⟨fun _ _ => ⟨hk.2.1, by have := hk.2.2; omega⟩, by omega⟩, fun e => ?_⟩, fun k hk => ⟨fun _ h1 => by omega, by omega⟩, Kd.S_mono h.out (fun k hk => ⟨⟨fun h0 h1 => ⟨(hk.1 h0 h1).1, by have := (hk.1 h0 h1).2; omega⟩, hk.2⟩, fun q => by have := (hk.1 q.1.1 q.1.2).2; omega⟩)⟩
  rcases h.ob k e.symm with h1 | h1
  · omega
  · omega
end
set_option maxHeartbeats 32000000 in
set_option maxRecDepth 100000 in
theorem impl_MakerSet.calls (k : Nat) (A0 : Option Addr) (c0 : Nat) (l0 : List (S_Maker)) (a1_0 : Int) (a1_1 : Int) (a1_2 : Int) (a1_3 : Int) (A1_4 : Option Addr) (c1_4 : Nat) (l1_4 : List (S_Mark)) (r : List (S_Maker)) (w : World) (hr0 : Kd.C k_Maker w A0 l0.length l0) (hc0 : l0.length ≤ c0) (hr1_4 : Kd.C k_Mark w A1_4 l1_4.length l1_4) (hc1_4 : l1_4.length ≤ c1_4) (h : impl_MakerSet.f k l0 a1_0 a1_1 a1_2 a1_3 l1_4 = some r) :
    Calls Try.prog 27 #[.slice A0 l0.length c0, .agg #[.int .i64 a1_0, .int .i64 a1_1, .int .i64 a1_2, .int .i64 a1_3, .slice A1_4 l1_4.length c1_4]] w fun e w' => ∃ v0_ : Value, e = .returned (v0_) ∧ Kd.S k_Maker 38 w' w.heap.size (fun _ => True) v0_ r ∧ Below w.heap.size w w' := by
  have hu38 := Try.underlying38
  have HR0 := Aside0.mk hr0
  have HC0 := Aside0.mk hc0
  have HR1 := Aside0.mk hr1_4
  have HC1 := Aside0.mk hc1_4
  clear hr0 hc0 hr1_4 hc1_4
  unfold impl_MakerSet.f at h
  obtain ⟨c, QL, h1⟩ := Option.bind_eq_some_iff.mp h
  clear h
  obtain ⟨⟨b0, b1, b2, b3, b4⟩, QM, h⟩ := Option.bind_eq_some_iff.mp h1
  clear h1
  have QL := Aside0.mk QL
  obtain ⟨rfl, rfl, rfl, rfl⟩ : b0 = a1_0 ∧ b1 = a1_1 ∧ b2 = a1_2 ∧ b3 = a1_3 := by
    have q_ := QM
    unfold impl_copyMaker.f at q_
    split at q_
    · simp only [Option.some.injEq, Prod.mk.injEq] at q_
      exact ⟨q_.1.symm, q_.2.1.symm, q_.2.2.1.symm, q_.2.2.2.1.symm⟩
    · cases q_
  have QM := Aside0.mk QM
  change (if c.length < 1000000000000 then some (setL ⟨b0, b1, b2, b3, b4⟩ c false) else none) = some r at h
  by_cases hc : c.length < 1000000000000
  · rw [if_pos hc] at h
    have HCL := Aside0.mk hc
    have HE : Aside0 (setL ⟨b0, b1, b2, b3, b4⟩ c false = r) := ⟨Option.some.inj h⟩
    clear h hc
    go_enter Try.func27, Try.ntmps27
    go_wp2_with (first | ((with_reducible refine gate_dst (N := 3) rfl ?_); refine box_event ?hg (N := 3) ?hd (cs := #[.int .i64 b0, .int .i64 b1, .int .i64 b2, .int .i64 b3, .slice A1_4 l1_4.length c1_4]) (t := 38) ?hr ?_; (case hd => rfl); (case hg => rfl); (case hr => first | (go_simp; done) | (go_simp; rfl)); intro g3 hg w3 hbox hb; have K3 := Aside0.mk hbox; have E3 := Aside0.mk (Nat.le_of_eq hg.symm); have B3 := Aside0.mk hb; clear hb hbox hg) | ((with_reducible refine gate_dst (N := 10) rfl ?_); refine Kd.S_lit k_Maker _ 38 ?hg (N := 10) ?hd (xs := ([] : List (S_Maker))) (inner := []) (ok := fun _ => True) (okp := fun _ => True) ?hr ?hp (fun _ hk => hk) trivial (Below.refl _ _) (Nat.le_refl _) (by simp) ?_; (case hd => rfl); (case hg => rfl); (case hr => first | (go_simp; done) | (go_simp; rfl)); (case hp => exact (Reps.none _ _)); intro vO w4 ho hb hg_ hnew_; clear hg_ hnew_; have S4 := Aside0.mk (Kd.S_lower (Kd.S_newB ho K3.out) B3.out.size); have K4 := Aside0.mk (blk_below K3.out hb); have B4 := Aside0.mk (below_step B3.out hb); clear hb ho K3 B3) | ((with_reducible refine gate_callee (f := 67) rfl ?_); refine goesL_ (some 12) rfl rfl Try.func67 (by kernel_rfl) rfl #[.slice A0 l0.length c0] rfl (qb11_) ?_; (with_reducible refine (impl_copyMakers.calls k A0 c0 l0 c _ (Kd.C_below HR0.out B4.out) HC0.out QL.out).mono ?_); rintro e w12 ⟨vT, rfl, hs, hb⟩; refine ⟨_, rfl, ?_⟩; obtain ⟨f, hf⟩ := (Kd.S_lower (Kd.S_mono (Kd.S_bound hs) (fun k_ hk_ => (show w4.heap.size ≤ k_ ∧ k_ < w12.heap.size from ⟨hk_.2.1, hk_.2.2.1⟩))) B4.out.size); have ST : Aside0 (SetS w w12 w4.heap.size w12.heap.size f g3 #[.int .i64 b0, .int .i64 b1, .int .i64 b2, .int .i64 b3, .slice A1_4 l1_4.length c1_4] vT c 0 vO []) := ⟨⟨below_step B4.out hb, ⟨B4.out.size, hb.size, Nat.le_refl _⟩, blk_below K4.out hb, ⟨E3.out, blk_lt K4.out⟩, hf, Kd.S_mono (Kd.S_old S4.out hb) (fun k_ hk_ => ⟨fun h0_ h1_ => by have := hk_.2; omega, hk_.1.2⟩), fun k_ hk_ => .inl (Kd.S_lt S4.out k_ hk_)⟩⟩; obtain ⟨AT, cT, rfl⟩ := Kd.S_slice hs; clear hs hb hf S4 K4 B4 E3))
    generalize w4.heap.size = N0 at *
    generalize w12.heap.size = N1 at *
    go_loopg [5, 6, 8, 9, 14] c.length (fun gg v5 v6 _ _ v14 wr => ∃ (i : Nat) (p : Bool) (acc : List S_Maker), v6 = .bool p ∧ v14 = .int .i64 i ∧ i ≤ c.length ∧ c.length - i ≤ gg ∧ Aside0 (SetS w wr N0 N1 f g3 #[.int .i64 b0, .int .i64 b1, .int .i64 b2, .int .i64 b3, .slice A1_4 l1_4.length c1_4] (.slice AT c.length cT) c i v5 acc) ∧ Aside0 (acc.length ≤ 2 * i) ∧ Aside0 (acc ++ setL ⟨b0, b1, b2, b3, b4⟩ (c.drop i) p = r))
    case atStart => exact ⟨0, false, [], rfl, rfl, Nat.zero_le _, by omega, ST, ⟨by simp⟩, ⟨by rw [List.drop_zero]; exact HE.out⟩⟩
    case round =>
      obtain ⟨i, p, acc, rfl, rfl, hic, hgg, S, HN, HA⟩ := hrel
      clear ST HE
      have hcl := HCL.out
      by_cases hlt : i < c.length
      · have hltz : (i : Int) < (c.length : Int) := by omega
        obtain ⟨gT, cap, eT, v4, R4, h0, h1, h2, h3, h4⟩ := S.out.elem hlt
        injection eT with eT1 eT2 eT3
        subst eT1
        subst eT3
        clear eT2
        have hd : c.drop i = rd_Maker c (i : Int) :: c.drop (i + 1) := by
          rw [List.drop_eq_getElem_cons hlt]
          simp [rd_Maker, List.getD_eq_getElem?_getD, List.getElem?_eq_getElem hlt]
        have HA2 := HA.out
        rw [hd, setL] at HA2
        have HA2 := Aside0.mk HA2
        generalize hx : rd_Maker c (i : Int) = x at *
        clear HA hd hx
        obtain ⟨A4, n4, rfl⟩ := Kd.R_slice R4
        have RR := Aside0.mk R4
        clear R4
        go_upto_region 6 with (fail)
        have K9 : Aside0 ((wr.alloc (.cells #[.int .i64 x.f0, .int .i64 x.f1, .int .i64 x.f2, .int .i64 x.f3, .slice A4 x.f4.length n4] 38 (0, 0))).heap[wr.heap.size]? = some (.cells #[.int .i64 x.f0, .int .i64 x.f1, .int .i64 x.f2, .int .i64 x.f3, .slice A4 x.f4.length n4] 38 (0, 0))) := ⟨blk_new _ _⟩
        have B9 : Below wr.heap.size wr (wr.alloc (.cells #[.int .i64 x.f0, .int .i64 x.f1, .int .i64 x.f2, .int .i64 x.f3, .slice A4 x.f4.length n4] 38 (0, 0))) := below_alloc (Below.refl _ _) _
        have S9 := Aside0.mk (S.out.step B9)
        have RR9 := Aside0.mk (Kd.R_below RR.out B9)
        have N8 : Aside0 (g3 ≠ wr.heap.size) := ⟨Nat.ne_of_lt (blk_lt S.out.b3)⟩
        have O8 : Aside0 (some wr.heap.size ≠ u5.ownBlock) := ⟨fun e_ => by have := Kd.S_lt S.out.out _ e_.symm; omega⟩
        have NN8 : Aside0 (N1 ≤ wr.heap.size) := ⟨S.out.n.2.2⟩
        clear S RR B9 h0 h1 h2 h3 h4
        generalize wr.alloc (.cells #[.int .i64 x.f0, .int .i64 x.f1, .int .i64 x.f2, .int .i64 x.f3, .slice A4 x.f4.length n4] 38 (0, 0)) = w9 at *
        generalize wr.heap.size = g8 at *
        (try simp only [Act.put, List.setIfInBounds_toArray, List.set_cons_zero, List.set_cons_succ])
        go_cut [9] (fun v9 wc => v9 = .bool (setE ⟨b0, b1, b2, b3, b4⟩ x) ∧ wc = w9)
        case first =>
          have hx8_0 : w9.cell? ⟨g8, 0, none⟩ = some (.int .i64 x.f0) := (blk_cell K9.out 0).trans rfl
          have hx8_1 : w9.cell? ⟨g8, 1, none⟩ = some (.int .i64 x.f1) := (blk_cell K9.out 1).trans rfl
          have hm_0 : w9.cell? ⟨g3, 0, none⟩ = some (.int .i64 b0) := (blk_cell S9.out.b3 0).trans rfl
          have hm_1 : w9.cell? ⟨g3, 1, none⟩ = some (.int .i64 b1) := (blk_cell S9.out.b3 1).trans rfl
          by_cases e0 : x.f0 = b0
          · have E0 : (x.f0 == b0) = true := by simpa using e0
            clear e0
            by_cases e1 : x.f1 = b1
            · have E1 : (x.f1 == b1) = true := by simpa using e1
              clear e1
              go_wp2
              go_meet
              case rel => exact ⟨by simp [setE, *], rfl⟩
            · have E1 : (x.f1 == b1) = false := by simpa using e1
              clear e1
              go_wp2
              go_meet
              case rel => exact ⟨by simp [setE, *], rfl⟩
          · have E0 : (x.f0 == b0) = false := by simpa using e0
            clear e0
            go_wp2
            go_meet
            case rel => exact ⟨by simp [setE, *], rfl⟩
        case rest =>
         obtain ⟨rfl, rfl⟩ := hcut
         go_upto_region 7 with (fail)
         (try simp only [Act.put, List.setIfInBounds_toArray, List.set_cons_zero, List.set_cons_succ])
         go_cut [9, 55] (fun v9 v55 wd => v9 = .bool (setE ⟨b0, b1, b2, b3, b4⟩ x) ∧ v55 = .bool (setC ⟨b0, b1, b2, b3, b4⟩ x p) ∧ wd = wc)
         case first =>
          have hx8_0 : wc.cell? ⟨g8, 0, none⟩ = some (.int .i64 x.f0) := (blk_cell K9.out 0).trans rfl
          have hx8_1 : wc.cell? ⟨g8, 1, none⟩ = some (.int .i64 x.f1) := (blk_cell K9.out 1).trans rfl
          have hm_0 : wc.cell? ⟨g3, 0, none⟩ = some (.int .i64 b0) := (blk_cell S9.out.b3 0).trans rfl
          have hm_1 : wc.cell? ⟨g3, 1, none⟩ = some (.int .i64 b1) := (blk_cell S9.out.b3 1).trans rfl
          cases p with
          | true =>
            go_wp2
            go_meet
            case rel => exact ⟨by first | rfl | simp [*], by simp [setC, setE, *], rfl⟩
          | false =>
            by_cases e0 : x.f0 = b0
            · have E0 : (x.f0 == b0) = true := by simpa using e0
              have G0 : decide (x.f0 > b0) = false := decide_eq_false (by omega)
              clear e0
              by_cases e1 : x.f1 = b1
              · have E1 : (x.f1 == b1) = true := by simpa using e1
                have ES : setE ⟨b0, b1, b2, b3, b4⟩ x = true := by simp [setE, *]
                clear e1
                go_wp2
                go_meet
                case rel => exact ⟨by first | rfl | simp [*], by simp [setC, setE, *], rfl⟩
              · have E1 : (x.f1 == b1) = false := by simpa using e1
                have ES : setE ⟨b0, b1, b2, b3, b4⟩ x = false := by simp [setE, *]
                clear e1
                by_cases q1 : x.f1 > b1
                · have G1 : decide (x.f1 > b1) = true := decide_eq_true q1
                  clear q1
                  go_wp2
                  go_meet
                  case rel => exact ⟨by first | rfl | simp [*], by simp [setC, setE, *], rfl⟩
                · have G1 : decide (x.f1 > b1) = false := decide_eq_false q1
                  clear q1
                  go_wp2
                  go_meet
                  case rel => exact ⟨by first | rfl | simp [*], by simp [setC, setE, *], rfl⟩
            · have E0 : (x.f0 == b0) = false := by simpa using e0
              have ES : setE ⟨b0, b1, b2, b3, b4⟩ x = false := by simp [setE, *]
              clear e0
              by_cases q0 : x.f0 > b0
              · have G0 : decide (x.f0 > b0) = true := decide_eq_true q0
                clear q0
                go_wp2
                go_meet
                case rel => exact ⟨by first | rfl | simp [*], by simp [setC, setE, *], rfl⟩
              · have G0 : decide (x.f0 > b0) = false := decide_eq_false q0
                clear q0
                go_wp2
                go_meet
                case rel => exact ⟨by first | rfl | simp [*], by simp [setC, setE, *], rfl⟩
         case rest =>
          obtain ⟨rfl, rfl, rfl⟩ := hcut
          cases hC : setC ⟨b0, b1, b2, b3, b4⟩ x p with
          | true =>
            cases hE : setE ⟨b0, b1, b2, b3, b4⟩ x with
            | true =>
              have hm_0 : wc.cell? ⟨g3, 0, none⟩ = some (.int .i64 b0) := (blk_cell S9.out.b3 0).trans rfl
              have hm_1 : wc.cell? ⟨g3, 1, none⟩ = some (.int .i64 b1) := (blk_cell S9.out.b3 1).trans rfl
              have hm_2 : wc.cell? ⟨g3, 2, none⟩ = some (.int .i64 b2) := (blk_cell S9.out.b3 2).trans rfl
              have hm_3 : wc.cell? ⟨g3, 3, none⟩ = some (.int .i64 b3) := (blk_cell S9.out.b3 3).trans rfl
              have hm_4 : wc.cell? ⟨g3, 4, none⟩ = some (.slice A1_4 l1_4.length c1_4) := (blk_cell S9.out.b3 4).trans rfl
              go_wp2_with (first | ((with_reducible refine gate_callee (f := 61) rfl ?_); refine goesL_ (some 58) rfl rfl Try.func61 (by kernel_rfl) rfl #[.agg #[.int .i64 b0, .int .i64 b1, .int .i64 b2, .int .i64 b3, .slice A1_4 l1_4.length c1_4]] rfl (qb11_) ?_; (with_reducible refine (impl_copyMaker.calls b0 b1 b2 b3 A1_4 c1_4 l1_4 b0 b1 b2 b3 b4 _ (Kd.C_below HR1.out S9.out.below) HC1.out QM.out).mono ?_); rintro e wm9 ⟨v5, rfl, hr, hb⟩; refine ⟨_, rfl, ?_⟩; have SN9 := Aside0.mk (S9.out.step hb); have GN9 := Aside0.mk (S9.out.give_new (a0 := b0) (a1 := b1) (a2 := b2) (a3 := b3) hb hr); have K9m := Aside0.mk (blk_below K9.out hb); have RR9m := Aside0.mk (Kd.R_below RR9.out hb); obtain ⟨A5, c5, rfl⟩ := Kd.R_slice hr; clear hr hb hm_0 hm_1 hm_2 hm_3 hm_4) | ((with_reducible refine gate_builtin (b := .append) (xs := #[.tmp 56, .tmp 59]) rfl ?_); at_builtin; refine Kd.S_append k_Maker (w0 := w) w.heap.size rfl (.tmp 56) (.tmp 59) 40 38 (.agg #[(.int .i64 0), (.int .i64 0), (.int .i64 0), (.int .i64 0), (.slice none 0 0)]) 56 rfl Try.underlying40 info38 rfl (by decide) (by omega) u5 acc (⟨b0, b1, b2, b3, b4⟩ : S_Maker) [.int .i64 b0, .int .i64 b1, .int .i64 b2, .int .i64 b3, .slice A5 b4.length c5] (setOk f N0 N1 (.slice (some ⟨gT, 0, none⟩) c.length cT) g3 i) (fun k_ => some k_ = (Value.slice A5 b4.length c5).ownBlock) rfl rfl GN9.out.1 GN9.out.2.1 GN9.out.2.2.1 GN9.out.2.2.2 SN9.out.below SN9.out.below.size (by have := HN.out; have := HCL.out; omega) ?_; intro v1 w1 hS hb hg hat; have SA := Aside0.mk (SN9.out.app hS hb hg hat); have O8n : Aside0 (some g8 ≠ v1.ownBlock) := ⟨fun e_ => by rcases hat with q_ | ⟨b_, q_, hle_⟩; (exact O8.out (e_.trans q_)); (rw [q_] at e_; injection e_ with e_; have := blk_lt K9m.out; omega)⟩; have K9n := Aside0.mk (blk_grown K9m.out hg O8.out); have RR9n := Aside0.mk (Kd.R_grown RR9m.out hg (fun k_ hk_ e_ => by have := hk_.1; rcases SN9.out.ob k_ e_.symm with h_ | h_ <;> omega)); have hx_0 : w1.cell? ⟨g8, 0, none⟩ = some (.int .i64 x.f0) := (blk_cell K9n.out 0).trans rfl; have hx_1 : w1.cell? ⟨g8, 1, none⟩ = some (.int .i64 x.f1) := (blk_cell K9n.out 1).trans rfl; have hx_2 : w1.cell? ⟨g8, 2, none⟩ = some (.int .i64 x.f2) := (blk_cell K9n.out 2).trans rfl; have hx_3 : w1.cell? ⟨g8, 3, none⟩ = some (.int .i64 x.f3) := (blk_cell K9n.out 3).trans rfl; have hx_4 : w1.cell? ⟨g8, 4, none⟩ = some (.slice A4 x.f4.length n4) := (blk_cell K9n.out 4).trans rfl; clear hS hb hg hat SN9 GN9))
              go_roundg (c.length - (i + 1))
              case measure => omega
              case rel => exact ⟨i + 1, true, acc ++ [⟨b0, b1, b2, b3, b4⟩], by first | rfl | simp, by go_num, by omega, Nat.le_refl _, ⟨SA.out.next⟩, ⟨qb12_⟩, ⟨qb16_⟩⟩
            | false =>
              have hm_0 : wc.cell? ⟨g3, 0, none⟩ = some (.int .i64 b0) := (blk_cell S9.out.b3 0).trans rfl
              have hm_1 : wc.cell? ⟨g3, 1, none⟩ = some (.int .i64 b1) := (blk_cell S9.out.b3 1).trans rfl
              have hm_2 : wc.cell? ⟨g3, 2, none⟩ = some (.int .i64 b2) := (blk_cell S9.out.b3 2).trans rfl
              have hm_3 : wc.cell? ⟨g3, 3, none⟩ = some (.int .i64 b3) := (blk_cell S9.out.b3 3).trans rfl
              have hm_4 : wc.cell? ⟨g3, 4, none⟩ = some (.slice A1_4 l1_4.length c1_4) := (blk_cell S9.out.b3 4).trans rfl
              go_wp2_with (first | ((with_reducible refine gate_callee (f := 61) rfl ?_); refine goesL_ (some 58) rfl rfl Try.func61 (by kernel_rfl) rfl #[.agg #[.int .i64 b0, .int .i64 b1, .int .i64 b2, .int .i64 b3, .slice A1_4 l1_4.length c1_4]] rfl (qb11_) ?_; (with_reducible refine (impl_copyMaker.calls b0 b1 b2 b3 A1_4 c1_4 l1_4 b0 b1 b2 b3 b4 _ (Kd.C_below HR1.out S9.out.below) HC1.out QM.out).mono ?_); rintro e wm9 ⟨v5, rfl, hr, hb⟩; refine ⟨_, rfl, ?_⟩; have SN9 := Aside0.mk (S9.out.step hb); have GN9 := Aside0.mk (S9.out.give_new (a0 := b0) (a1 := b1) (a2 := b2) (a3 := b3) hb hr); have K9m := Aside0.mk (blk_below K9.out hb); have RR9m := Aside0.mk (Kd.R_below RR9.out hb); obtain ⟨A5, c5, rfl⟩ := Kd.R_slice hr; clear hr hb hm_0 hm_1 hm_2 hm_3 hm_4) | ((with_reducible refine gate_builtin (b := .append) (xs := #[.tmp 56, .tmp 59]) rfl ?_); at_builtin; refine Kd.S_append k_Maker (w0 := w) w.heap.size rfl (.tmp 56) (.tmp 59) 40 38 (.agg #[(.int .i64 0), (.int .i64 0), (.int .i64 0), (.int .i64 0), (.slice none 0 0)]) 56 rfl Try.underlying40 info38 rfl (by decide) (by omega) u5 acc (⟨b0, b1, b2, b3, b4⟩ : S_Maker) [.int .i64 b0, .int .i64 b1, .int .i64 b2, .int .i64 b3, .slice A5 b4.length c5] (setOk f N0 N1 (.slice (some ⟨gT, 0, none⟩) c.length cT) g3 i) (fun k_ => some k_ = (Value.slice A5 b4.length c5).ownBlock) rfl rfl GN9.out.1 GN9.out.2.1 GN9.out.2.2.1 GN9.out.2.2.2 SN9.out.below SN9.out.below.size (by have := HN.out; have := HCL.out; omega) ?_; intro v1 w1 hS hb hg hat; have SA := Aside0.mk (SN9.out.app hS hb hg hat); have O8n : Aside0 (some g8 ≠ v1.ownBlock) := ⟨fun e_ => by rcases hat with q_ | ⟨b_, q_, hle_⟩; (exact O8.out (e_.trans q_)); (rw [q_] at e_; injection e_ with e_; have := blk_lt K9m.out; omega)⟩; have K9n := Aside0.mk (blk_grown K9m.out hg O8.out); have RR9n := Aside0.mk (Kd.R_grown RR9m.out hg (fun k_ hk_ e_ => by have := hk_.1; rcases SN9.out.ob k_ e_.symm with h_ | h_ <;> omega)); have hx_0 : w1.cell? ⟨g8, 0, none⟩ = some (.int .i64 x.f0) := (blk_cell K9n.out 0).trans rfl; have hx_1 : w1.cell? ⟨g8, 1, none⟩ = some (.int .i64 x.f1) := (blk_cell K9n.out 1).trans rfl; have hx_2 : w1.cell? ⟨g8, 2, none⟩ = some (.int .i64 x.f2) := (blk_cell K9n.out 2).trans rfl; have hx_3 : w1.cell? ⟨g8, 3, none⟩ = some (.int .i64 x.f3) := (blk_cell K9n.out 3).trans rfl; have hx_4 : w1.cell? ⟨g8, 4, none⟩ = some (.slice A4 x.f4.length n4) := (blk_cell K9n.out 4).trans rfl; clear hS hb hg hat SN9 GN9) | ((with_reducible refine gate_builtin (b := .append) (xs := #[.tmp 63, .tmp 65]) rfl ?_); at_builtin; have GE := SA.out.give_elem (a0 := x.f0) (a1 := x.f1) (a2 := x.f2) (a3 := x.f3) RR9n.out; refine Kd.S_append k_Maker (w0 := w) w.heap.size rfl (.tmp 63) (.tmp 65) 40 38 (.agg #[(.int .i64 0), (.int .i64 0), (.int .i64 0), (.int .i64 0), (.slice none 0 0)]) 56 rfl Try.underlying40 info38 rfl (by decide) (by omega) v1 (acc ++ [⟨b0, b1, b2, b3, b4⟩]) (⟨x.f0, x.f1, x.f2, x.f3, x.f4⟩ : S_Maker) [.int .i64 x.f0, .int .i64 x.f1, .int .i64 x.f2, .int .i64 x.f3, .slice A4 x.f4.length n4] (setOk f N0 N1 (.slice (some ⟨gT, 0, none⟩) c.length cT) g3 (i + 1)) (fun k_ => (N0 ≤ k_ ∧ k_ < N1) ∧ some k_ ≠ (Value.slice (some ⟨gT, 0, none⟩) c.length cT).ownBlock ∧ f k_ = i) rfl rfl GE.1 GE.2.1 GE.2.2.1 GE.2.2.2 SA.out.below SA.out.below.size (by (try simp only [List.length_append, List.length_singleton]); have := HN.out; have := HCL.out; omega) ?_; intro v2 w2 hS hb hg hat; have SE := Aside0.mk (SA.out.app hS hb hg hat); clear hS hb hg hat GE))
              go_roundg (c.length - (i + 1))
              case measure => omega
              case rel => exact ⟨i + 1, true, (acc ++ [⟨b0, b1, b2, b3, b4⟩]) ++ [(⟨x.f0, x.f1, x.f2, x.f3, x.f4⟩ : S_Maker)], by first | rfl | simp, by go_num, by omega, Nat.le_refl _, SE, ⟨qb12_⟩, ⟨qb16_⟩⟩
          | false =>
            cases hE : setE ⟨b0, b1, b2, b3, b4⟩ x with
            | true =>
              go_wp2
              go_roundg (c.length - (i + 1))
              case measure => omega
              case rel => exact ⟨i + 1, p, acc, by first | rfl | simp, by go_num, by omega, Nat.le_refl _, ⟨S9.out.next⟩, ⟨qb12_⟩, ⟨qb16_⟩⟩
            | false =>
              have hx_0 : wc.cell? ⟨g8, 0, none⟩ = some (.int .i64 x.f0) := (blk_cell K9.out 0).trans rfl
              have hx_1 : wc.cell? ⟨g8, 1, none⟩ = some (.int .i64 x.f1) := (blk_cell K9.out 1).trans rfl
              have hx_2 : wc.cell? ⟨g8, 2, none⟩ = some (.int .i64 x.f2) := (blk_cell K9.out 2).trans rfl
              have hx_3 : wc.cell? ⟨g8, 3, none⟩ = some (.int .i64 x.f3) := (blk_cell K9.out 3).trans rfl
              have hx_4 : wc.cell? ⟨g8, 4, none⟩ = some (.slice A4 x.f4.length n4) := (blk_cell K9.out 4).trans rfl
              go_wp2_with (first | ((with_reducible refine gate_builtin (b := .append) (xs := #[.tmp 63, .tmp 65]) rfl ?_); at_builtin; have GE := S9.out.give_elem (a0 := x.f0) (a1 := x.f1) (a2 := x.f2) (a3 := x.f3) RR9.out; refine Kd.S_append k_Maker (w0 := w) w.heap.size rfl (.tmp 63) (.tmp 65) 40 38 (.agg #[(.int .i64 0), (.int .i64 0), (.int .i64 0), (.int .i64 0), (.slice none 0 0)]) 56 rfl Try.underlying40 info38 rfl (by decide) (by omega) u5 (acc) (⟨x.f0, x.f1, x.f2, x.f3, x.f4⟩ : S_Maker) [.int .i64 x.f0, .int .i64 x.f1, .int .i64 x.f2, .int .i64 x.f3, .slice A4 x.f4.length n4] (setOk f N0 N1 (.slice (some ⟨gT, 0, none⟩) c.length cT) g3 (i + 1)) (fun k_ => (N0 ≤ k_ ∧ k_ < N1) ∧ some k_ ≠ (Value.slice (some ⟨gT, 0, none⟩) c.length cT).ownBlock ∧ f k_ = i) rfl rfl GE.1 GE.2.1 GE.2.2.1 GE.2.2.2 S9.out.below S9.out.below.size (by (try simp only [List.length_append, List.length_singleton]); have := HN.out; have := HCL.out; omega) ?_; intro v2 w2 hS hb hg hat; have SE := Aside0.mk (S9.out.app hS hb hg hat); clear hS hb hg hat GE))
              go_roundg (c.length - (i + 1))
              case measure => omega
              case rel => exact ⟨i + 1, p, (acc) ++ [(⟨x.f0, x.f1, x.f2, x.f3, x.f4⟩ : S_Maker)], by first | rfl | simp, by go_num, by omega, Nat.le_refl _, SE, ⟨qb12_⟩, ⟨qb16_⟩⟩
      · obtain rfl : i = c.length := by omega
        have hltz : ¬ (c.length : Int) < (c.length : Int) := by omega
        have HA2 := HA.out
        rw [List.drop_length, setL] at HA2
        have HA2 := Aside0.mk HA2
        clear HA
        cases p with
        | true =>
          go_wp2
          go_ret
          exact ⟨_, rfl, by have h_ := HA2.out; simp at h_; rw [← h_]; exact Kd.S_mono S.out.out (fun _ _ => trivial), S.out.below⟩
        | false =>
          have hm_0 : wr.cell? ⟨g3, 0, none⟩ = some (.int .i64 b0) := (blk_cell S.out.b3 0).trans rfl
          have hm_1 : wr.cell? ⟨g3, 1, none⟩ = some (.int .i64 b1) := (blk_cell S.out.b3 1).trans rfl
          have hm_2 : wr.cell? ⟨g3, 2, none⟩ = some (.int .i64 b2) := (blk_cell S.out.b3 2).trans rfl
          have hm_3 : wr.cell? ⟨g3, 3, none⟩ = some (.int .i64 b3) := (blk_cell S.out.b3 3).trans rfl
          have hm_4 : wr.cell? ⟨g3, 4, none⟩ = some (.slice A1_4 l1_4.length c1_4) := (blk_cell S.out.b3 4).trans rfl
          have S9 := S
          go_wp2_with (first | ((with_reducible refine gate_callee (f := 61) rfl ?_); refine goesL_ (some 72) rfl rfl Try.func61 (by kernel_rfl) rfl #[.agg #[.int .i64 b0, .int .i64 b1, .int .i64 b2, .int .i64 b3, .slice A1_4 l1_4.length c1_4]] rfl (qb11_) ?_; (with_reducible refine (impl_copyMaker.calls b0 b1 b2 b3 A1_4 c1_4 l1_4 b0 b1 b2 b3 b4 _ (Kd.C_below HR1.out S9.out.below) HC1.out QM.out).mono ?_); rintro e wm9 ⟨v5, rfl, hr, hb⟩; refine ⟨_, rfl, ?_⟩; have SN9 := Aside0.mk (S9.out.step hb); have GN9 := Aside0.mk (S9.out.give_new (a0 := b0) (a1 := b1) (a2 := b2) (a3 := b3) hb hr); obtain ⟨A5, c5, rfl⟩ := Kd.R_slice hr; clear hr hb hm_0 hm_1 hm_2 hm_3 hm_4) | ((with_reducible refine gate_builtin (b := .append) (xs := #[.tmp 70, .tmp 73]) rfl ?_); at_builtin; refine Kd.S_append k_Maker (w0 := w) w.heap.size rfl (.tmp 70) (.tmp 73) 40 38 (.agg #[(.int .i64 0), (.int .i64 0), (.int .i64 0), (.int .i64 0), (.slice none 0 0)]) 56 rfl Try.underlying40 info38 rfl (by decide) (by omega) u5 acc (⟨b0, b1, b2, b3, b4⟩ : S_Maker) [.int .i64 b0, .int .i64 b1, .int .i64 b2, .int .i64 b3, .slice A5 b4.length c5] (setOk f N0 N1 (.slice AT c.length cT) g3 c.length) (fun k_ => some k_ = (Value.slice A5 b4.length c5).ownBlock) rfl rfl GN9.out.1 GN9.out.2.1 GN9.out.2.2.1 GN9.out.2.2.2 SN9.out.below SN9.out.below.size (by have := HN.out; have := HCL.out; omega) ?_; intro v1 w1 hS hb hg hat; have SA := Aside0.mk (SN9.out.app hS hb hg hat); clear hS hb hg hat SN9 GN9))
          go_ret
          exact ⟨_, rfl, by have h_ := HA2.out; simp at h_; rw [← h_]; exact Kd.S_mono SA.out.out (fun _ _ => trivial), SA.out.below⟩
  · rw [if_neg hc] at h
    cases h
end Go.Proofs.Ythmjhhkheohgfaa.Q
