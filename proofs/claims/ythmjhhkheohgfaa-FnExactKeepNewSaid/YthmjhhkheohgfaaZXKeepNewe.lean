/- Made by a program of ours out of the print of the loaded functions: for each of some functions a plain function, and the walk that shows that a call comes to what it says. No condition but those of each theorem. -/
import Derived.Test.YthmjhhkheohgfaaZXKeepNew0
import Derived.Test.YthmjhhkheohgfaaZXKeepNewd
namespace Go.Proofs.Ythmjhhkheohgfaa.Q
open Go.RowKit Go.Proofs.YthmjhhkheohgfaaW.PrintWords Go.Proofs.YthmjhhkheohgfaaW.PrintLast Go.Proofs.YthmjhhkheohgfaaW.PrintMore
attribute [local go_sem] max2_int min2_int max_two min_two max_three min_three max_four min_four   -- for this text's walks alone
set_option linter.unusedVariables false
set_option linter.unusedSimpArgs false
theorem qe0_ {P : Prop} (h : P := by repeat (first | (with_reducible first | exact HB.out | apply below_alloc | apply pw_below_drewN | apply below_drew1) | exact HB.out)) : P := h
theorem qe1_ {P : Prop} (h : P := by repeat (first | (with_reducible first | exact HK.out | apply Kept.alloc | apply Kept.drewN | apply Kept.drew) | exact HK.out)) : P := h
theorem qe2_ {P : Prop} (h : P := by (try simp only [List.map_toArray, List.map_cons, List.map_nil]); first | done | rfl | (simp only [List.length_drop, List.length_take]; rfl)) : P := h
theorem qe3_ {P : Prop} (h : P := by first | rfl | (simp; done) | (simp [*]; done)) : P := h
theorem qe4_ {P : Prop} (h : P := by (with_reducible repeat (first | apply Kd.R_alloc | apply Kd.R_drewN | apply Kd.R_drew)); exact HO_0.out) : P := h
theorem qe5_ {P : Prop} (h : P := by repeat (first | exact Drawn0.refl _ | apply Drawn0.step)) : P := h
theorem qe6_ {P : Prop} (h : P := by first | rfl | (simp [errW_none, errW_some] <;> rfl) | (simp [*, errW_none, errW_some] <;> rfl)) : P := h
theorem qe7_ {P : Prop} (h : P := by (with_reducible repeat (first | apply Kd.R_alloc | apply Kd.R_drewN | apply Kd.R_drew)); exact HO0.out) : P := h
theorem qeh0_ {P : Prop} (h : P := by repeat' first | (with_reducible exact ih0 _ _ _) | (with_reducible exact laws_markText.mono _ _) | (with_reducible exact LeO.refl _) | (with_reducible exact LeO.none _) | (with_reducible refine LeO.ite ?_ ?_) | (with_reducible refine LeO.bind ?_ (fun _ => ?_)) | exact ih0 _ _ _ | exact laws_markText.mono _ _ | exact LeO.none _ | refine LeO.ite ?_ ?_ | refine LeO.bind ?_ (fun _ => ?_)) : P := h
theorem qeh1_ {P : Prop} (h : P := by repeat' first | (with_reducible exact ih0 _ _ _) | (with_reducible exact LeO.refl _) | (with_reducible exact LeO.none _) | (with_reducible refine LeO.ite ?_ ?_) | (with_reducible refine LeO.bind ?_ (fun _ => ?_)) | exact ih0 _ _ _ | exact LeO.none _ | refine LeO.ite ?_ ?_ | refine LeO.bind ?_ (fun _ => ?_)) : P := h
theorem qeh2_ {P : Prop} (h : P := by repeat' first | (with_reducible exact ih0 _ _ _) | (with_reducible exact laws_heldMarkS.mono _ _ _) | (with_reducible exact LeO.refl _) | (with_reducible exact LeO.none _) | (with_reducible refine LeO.ite ?_ ?_) | (with_reducible refine LeO.bind ?_ (fun _ => ?_)) | exact ih0 _ _ _ | exact laws_heldMarkS.mono _ _ _ | exact LeO.none _ | refine LeO.ite ?_ ?_ | refine LeO.bind ?_ (fun _ => ?_)) : P := h
theorem qeh3_ {P : Prop} (h : P := by repeat' first | (with_reducible exact ih0 _ _ _) | (with_reducible exact ih1 _ _ _) | (with_reducible exact ih2 _ _ _) | (with_reducible exact ih3 _ _ _) | (with_reducible exact ih4 _ _ _) | (with_reducible exact laws_markText.mono _ _) | (with_reducible exact LeO.refl _) | (with_reducible exact LeO.none _) | (with_reducible refine LeO.ite ?_ ?_) | (with_reducible refine LeO.bind ?_ (fun _ => ?_)) | exact ih0 _ _ _ | exact ih1 _ _ _ | exact ih2 _ _ _ | exact ih3 _ _ _ | exact ih4 _ _ _ | exact laws_markText.mono _ _ | exact LeO.none _ | refine LeO.ite ?_ ?_ | refine LeO.bind ?_ (fun _ => ?_)) : P := h
theorem qeh4_ {P : Prop} (h : P := by repeat' first | (with_reducible exact ih0 _ _ _) | (with_reducible exact laws_heldItemS.mono _ _ _) | (with_reducible exact LeO.refl _) | (with_reducible exact LeO.none _) | (with_reducible refine LeO.ite ?_ ?_) | (with_reducible refine LeO.bind ?_ (fun _ => ?_)) | exact ih0 _ _ _ | exact laws_heldItemS.mono _ _ _ | exact LeO.none _ | refine LeO.ite ?_ ?_ | refine LeO.bind ?_ (fun _ => ?_)) : P := h
theorem qeh5_ {P : Prop} (h : P := by repeat' first | (with_reducible exact ih0 _ _ _) | (with_reducible exact laws_heldIntS.mono _ _ _) | (with_reducible exact LeO.refl _) | (with_reducible exact LeO.none _) | (with_reducible refine LeO.ite ?_ ?_) | (with_reducible refine LeO.bind ?_ (fun _ => ?_)) | exact ih0 _ _ _ | exact laws_heldIntS.mono _ _ _ | exact LeO.none _ | refine LeO.ite ?_ ?_ | refine LeO.bind ?_ (fun _ => ?_)) : P := h

/-! ### laws_markItemS: function 71 -/
def laws_markItemS.l0 : Nat → List (S_Item) → Int → Int → Option (Int × (List (S_Item)))
  | 0, _, _, _ => none
  | k + 1, x0, x1, x5 => if x5 < (x0.length : Int) then (if 0 ≤ x5 then ((some (x0.set (x5 : Int).toNat (⟨x1, (rd_Item x0 x5).f1, (rd_Item x0 x5).f2, (rd_Item x0 x5).f3, (rd_Item x0 x5).f4⟩ : S_Item) : List (S_Item))).bind fun y225 => ((laws_markText.f k (wrap64 (x1 + 1))).bind fun t226 => ((some (y225.set (x5 : Int).toNat (⟨(rd_Item y225 x5).f0, t226, (rd_Item y225 x5).f2, (rd_Item y225 x5).f3, (rd_Item y225 x5).f4⟩ : S_Item) : List (S_Item))).bind fun y227 => ((laws_markText.f k (wrap64 ((wrap64 (x1 + 1)) + 1))).bind fun t228 => ((some (y227.set (x5 : Int).toNat (⟨(rd_Item y227 x5).f0, (rd_Item y227 x5).f1, t228, (rd_Item y227 x5).f3, (rd_Item y227 x5).f4⟩ : S_Item) : List (S_Item))).bind fun y229 => ((some (y229.set (x5 : Int).toNat (⟨(rd_Item y229 x5).f0, (rd_Item y229 x5).f1, (rd_Item y229 x5).f2, wrap64 ((wrap64 ((wrap64 (x1 + 1)) + 1)) + 1), (rd_Item y229 x5).f4⟩ : S_Item) : List (S_Item))).bind fun y230 => (laws_markItemS.l0 k (y230.set (x5 : Int).toNat (⟨(rd_Item y230 x5).f0, (rd_Item y230 x5).f1, (rd_Item y230 x5).f2, (rd_Item y230 x5).f3, wrap64 ((wrap64 ((wrap64 ((wrap64 (x1 + 1)) + 1)) + 1)) + 1)⟩ : S_Item)) (wrap64 ((wrap64 ((wrap64 ((wrap64 ((wrap64 (x1 + 1)) + 1)) + 1)) + 1)) + 1)) (wrap64 (x5 + 1))))))))) else (none)) else (some (x1, x0))
def laws_markItemS.f (k : Nat) (l0 : List (S_Item)) (a1 : Int) : Option (Int × (List (S_Item))) := laws_markItemS.l0 k l0 a1 0
theorem laws_markItemS.mono_l : ∀ k, (∀ y0 y1 y2, LeO (laws_markItemS.l0 k y0 y1 y2) (laws_markItemS.l0 (k + 1) y0 y1 y2))
  | 0 => fun _ _ _ r h => by simp [laws_markItemS.l0] at h
  | k + 1 => by
    have ih0 := laws_markItemS.mono_l k
    · intro y0 y1 y2
      unfold laws_markItemS.l0
      exact qeh0_
theorem laws_markItemS.mono : ∀ a0 a1 k, LeO (laws_markItemS.f k a0 a1) (laws_markItemS.f (k + 1) a0 a1) := by
  intro a0 a1 k
  have ih0 := laws_markItemS.mono_l k
  unfold laws_markItemS.f
  exact qeh0_
set_option maxHeartbeats 8000000 in
set_option maxRecDepth 100000 in
theorem laws_markItemS.calls (k : Nat) (P0_ : Nat → Prop) (u9000_ : Value) (l0 : List (S_Item)) (a1 : Int) (r1 : Int) (r2 : List (S_Item)) (w0 w : World) (hB : Below w0.heap.size w0 w) (ho0 : Kd.R k_Item 33 w w0.heap.size P0_ u9000_ l0) (h : laws_markItemS.f k l0 a1 = some (r1, r2)) :
    Calls Try.prog 71 #[u9000_, .int .i64 a1] w fun e w' => e = .returned (.int .i64 r1) ∧ Kd.R k_Item 33 w' w0.heap.size (fun k_ => (P0_ k_ ∨ w.heap.size ≤ k_)) u9000_ r2 ∧ Below w0.heap.size w0 w' ∧ Kept w w' (fun k_ => P0_ k_) := by
  have HO0 := Aside0.mk (show Kd.R k_Item 33 w w0.heap.size (fun k_ => (P0_ k_ ∨ w.heap.size ≤ k_)) u9000_ l0 from Kd.R_mono ho0 (fun k_ hk => (.inl hk)))
  have HK := Aside0.mk (Kept.refl w (fun k_ => P0_ k_))
  have HW0 := Aside0.mk hB.size
  have HB := Aside0.mk hB
  clear hB
  have H : (laws_markItemS.l0 k l0 a1 0) = some (r1, r2) := h
  clear h
  have H' := Aside0.mk H
  clear H
  go_enter Try.func71, Try.ntmps71
  go_wp2
  go_loopg [1, 5] k (fun kq v1 v5 w' => ∃ (x0_1 : List (S_Item)) (x1_1 : Int) (x5_1 : Int), v1 = .int .i64 x1_1 ∧ v5 = .int .i64 x5_1 ∧ Aside0 (laws_markItemS.l0 kq x0_1 x1_1 x5_1 = some (r1, r2)) ∧ Aside0 (kq ≤ k) ∧ Aside0 (Kd.R k_Item 33 w' w0.heap.size (fun k_ => (P0_ k_ ∨ w.heap.size ≤ k_)) u9000_ x0_1) ∧ Aside0 (Kept w w' (fun k_ => P0_ k_)) ∧ Aside0 (Below w0.heap.size w0 w'))
  case atStart => exact ⟨(l0), (a1), (0), (qe3_), (qe3_), H', ⟨Nat.le_refl _⟩, ⟨qe7_⟩, ⟨qe1_⟩, ⟨qe0_⟩⟩
  case round =>
    clear H'
    try clear p2
    obtain ⟨x0_1, x1_1, x5_1, rfl, rfl, HA, HK1, HO_0, HK, HB⟩ := hrel
    cases gk with
    | zero => exact absurd HA.out (by simp [laws_markItemS.l0])
    | succ k1 =>
      have H := HA.out
      clear HA
      simp only [laws_markItemS.l0] at H
      by_cases c3 : x5_1 < (x0_1.length : Int)
      · rw [if_pos c3] at H
        have c3b0 : decide (x5_1 < (x0_1.length : Int)) = true := decide_eq_true c3
        clear c3
        by_cases c4 : 0 ≤ x5_1
        · rw [if_pos c4] at H
          have c4b0 : decide (0 ≤ x5_1) = true := decide_eq_true c4
          clear c4
          obtain ⟨y225, hy225⟩ : ∃ y_ : List (S_Item), y_ = (x0_1.set (x5_1 : Int).toNat (⟨x1_1, (rd_Item x0_1 x5_1).f1, (rd_Item x0_1 x5_1).f2, (rd_Item x0_1 x5_1).f3, (rd_Item x0_1 x5_1).f4⟩ : S_Item)) := ⟨_, rfl⟩
          replace H : ((laws_markText.f k1 (wrap64 (x1_1 + 1))).bind fun t226 => ((some (y225.set (x5_1 : Int).toNat (⟨(rd_Item y225 x5_1).f0, t226, (rd_Item y225 x5_1).f2, (rd_Item y225 x5_1).f3, (rd_Item y225 x5_1).f4⟩ : S_Item) : List (S_Item))).bind fun y227 => ((laws_markText.f k1 (wrap64 ((wrap64 (x1_1 + 1)) + 1))).bind fun t228 => ((some (y227.set (x5_1 : Int).toNat (⟨(rd_Item y227 x5_1).f0, (rd_Item y227 x5_1).f1, t228, (rd_Item y227 x5_1).f3, (rd_Item y227 x5_1).f4⟩ : S_Item) : List (S_Item))).bind fun y229 => ((some (y229.set (x5_1 : Int).toNat (⟨(rd_Item y229 x5_1).f0, (rd_Item y229 x5_1).f1, (rd_Item y229 x5_1).f2, wrap64 ((wrap64 ((wrap64 (x1_1 + 1)) + 1)) + 1), (rd_Item y229 x5_1).f4⟩ : S_Item) : List (S_Item))).bind fun y230 => (laws_markItemS.l0 k1 (y230.set (x5_1 : Int).toNat (⟨(rd_Item y230 x5_1).f0, (rd_Item y230 x5_1).f1, (rd_Item y230 x5_1).f2, (rd_Item y230 x5_1).f3, wrap64 ((wrap64 ((wrap64 ((wrap64 (x1_1 + 1)) + 1)) + 1)) + 1)⟩ : S_Item)) (wrap64 ((wrap64 ((wrap64 ((wrap64 ((wrap64 (x1_1 + 1)) + 1)) + 1)) + 1)) + 1)) (wrap64 (x5_1 + 1)))))))) = some (r1, r2) := by first | (rw [hy225]; with_reducible exact H) | (have H2_ := (Option.bind_some _ _).symm.trans H; rw [hy225]; with_reducible exact H2_) | (have H2_ := (Option.bind_some _ _).symm.trans H; with_reducible exact H2_) | with_reducible exact H | (rw [hy225]; exact H) | exact H
          have Ny225 := Aside0.mk hy225
          clear hy225
          replace H := Option.bind_eq_some_iff.mp H
          obtain ⟨t226, A60, H⟩ := H
          replace H : ((some (y225.set (x5_1 : Int).toNat (⟨(rd_Item y225 x5_1).f0, t226, (rd_Item y225 x5_1).f2, (rd_Item y225 x5_1).f3, (rd_Item y225 x5_1).f4⟩ : S_Item) : List (S_Item))).bind fun y227 => ((laws_markText.f k1 (wrap64 ((wrap64 (x1_1 + 1)) + 1))).bind fun t228 => ((some (y227.set (x5_1 : Int).toNat (⟨(rd_Item y227 x5_1).f0, (rd_Item y227 x5_1).f1, t228, (rd_Item y227 x5_1).f3, (rd_Item y227 x5_1).f4⟩ : S_Item) : List (S_Item))).bind fun y229 => ((some (y229.set (x5_1 : Int).toNat (⟨(rd_Item y229 x5_1).f0, (rd_Item y229 x5_1).f1, (rd_Item y229 x5_1).f2, wrap64 ((wrap64 ((wrap64 (x1_1 + 1)) + 1)) + 1), (rd_Item y229 x5_1).f4⟩ : S_Item) : List (S_Item))).bind fun y230 => (laws_markItemS.l0 k1 (y230.set (x5_1 : Int).toNat (⟨(rd_Item y230 x5_1).f0, (rd_Item y230 x5_1).f1, (rd_Item y230 x5_1).f2, (rd_Item y230 x5_1).f3, wrap64 ((wrap64 ((wrap64 ((wrap64 (x1_1 + 1)) + 1)) + 1)) + 1)⟩ : S_Item)) (wrap64 ((wrap64 ((wrap64 ((wrap64 ((wrap64 (x1_1 + 1)) + 1)) + 1)) + 1)) + 1)) (wrap64 (x5_1 + 1))))))) = some (r1, r2) := H
          have A6 := Aside0.mk A60
          clear A60
          obtain ⟨y227, hy227⟩ : ∃ y_ : List (S_Item), y_ = (y225.set (x5_1 : Int).toNat (⟨(rd_Item y225 x5_1).f0, t226, (rd_Item y225 x5_1).f2, (rd_Item y225 x5_1).f3, (rd_Item y225 x5_1).f4⟩ : S_Item)) := ⟨_, rfl⟩
          replace H : ((laws_markText.f k1 (wrap64 ((wrap64 (x1_1 + 1)) + 1))).bind fun t228 => ((some (y227.set (x5_1 : Int).toNat (⟨(rd_Item y227 x5_1).f0, (rd_Item y227 x5_1).f1, t228, (rd_Item y227 x5_1).f3, (rd_Item y227 x5_1).f4⟩ : S_Item) : List (S_Item))).bind fun y229 => ((some (y229.set (x5_1 : Int).toNat (⟨(rd_Item y229 x5_1).f0, (rd_Item y229 x5_1).f1, (rd_Item y229 x5_1).f2, wrap64 ((wrap64 ((wrap64 (x1_1 + 1)) + 1)) + 1), (rd_Item y229 x5_1).f4⟩ : S_Item) : List (S_Item))).bind fun y230 => (laws_markItemS.l0 k1 (y230.set (x5_1 : Int).toNat (⟨(rd_Item y230 x5_1).f0, (rd_Item y230 x5_1).f1, (rd_Item y230 x5_1).f2, (rd_Item y230 x5_1).f3, wrap64 ((wrap64 ((wrap64 ((wrap64 (x1_1 + 1)) + 1)) + 1)) + 1)⟩ : S_Item)) (wrap64 ((wrap64 ((wrap64 ((wrap64 ((wrap64 (x1_1 + 1)) + 1)) + 1)) + 1)) + 1)) (wrap64 (x5_1 + 1)))))) = some (r1, r2) := by first | (rw [hy227]; with_reducible exact H) | (have H2_ := (Option.bind_some _ _).symm.trans H; rw [hy227]; with_reducible exact H2_) | (have H2_ := (Option.bind_some _ _).symm.trans H; with_reducible exact H2_) | with_reducible exact H | (rw [hy227]; exact H) | exact H
          have Ny227 := Aside0.mk hy227
          clear hy227
          replace H := Option.bind_eq_some_iff.mp H
          obtain ⟨t228, A80, H⟩ := H
          replace H : ((some (y227.set (x5_1 : Int).toNat (⟨(rd_Item y227 x5_1).f0, (rd_Item y227 x5_1).f1, t228, (rd_Item y227 x5_1).f3, (rd_Item y227 x5_1).f4⟩ : S_Item) : List (S_Item))).bind fun y229 => ((some (y229.set (x5_1 : Int).toNat (⟨(rd_Item y229 x5_1).f0, (rd_Item y229 x5_1).f1, (rd_Item y229 x5_1).f2, wrap64 ((wrap64 ((wrap64 (x1_1 + 1)) + 1)) + 1), (rd_Item y229 x5_1).f4⟩ : S_Item) : List (S_Item))).bind fun y230 => (laws_markItemS.l0 k1 (y230.set (x5_1 : Int).toNat (⟨(rd_Item y230 x5_1).f0, (rd_Item y230 x5_1).f1, (rd_Item y230 x5_1).f2, (rd_Item y230 x5_1).f3, wrap64 ((wrap64 ((wrap64 ((wrap64 (x1_1 + 1)) + 1)) + 1)) + 1)⟩ : S_Item)) (wrap64 ((wrap64 ((wrap64 ((wrap64 ((wrap64 (x1_1 + 1)) + 1)) + 1)) + 1)) + 1)) (wrap64 (x5_1 + 1))))) = some (r1, r2) := H
          have A8 := Aside0.mk A80
          clear A80
          obtain ⟨y229, hy229⟩ : ∃ y_ : List (S_Item), y_ = (y227.set (x5_1 : Int).toNat (⟨(rd_Item y227 x5_1).f0, (rd_Item y227 x5_1).f1, t228, (rd_Item y227 x5_1).f3, (rd_Item y227 x5_1).f4⟩ : S_Item)) := ⟨_, rfl⟩
          replace H : ((some (y229.set (x5_1 : Int).toNat (⟨(rd_Item y229 x5_1).f0, (rd_Item y229 x5_1).f1, (rd_Item y229 x5_1).f2, wrap64 ((wrap64 ((wrap64 (x1_1 + 1)) + 1)) + 1), (rd_Item y229 x5_1).f4⟩ : S_Item) : List (S_Item))).bind fun y230 => (laws_markItemS.l0 k1 (y230.set (x5_1 : Int).toNat (⟨(rd_Item y230 x5_1).f0, (rd_Item y230 x5_1).f1, (rd_Item y230 x5_1).f2, (rd_Item y230 x5_1).f3, wrap64 ((wrap64 ((wrap64 ((wrap64 (x1_1 + 1)) + 1)) + 1)) + 1)⟩ : S_Item)) (wrap64 ((wrap64 ((wrap64 ((wrap64 ((wrap64 (x1_1 + 1)) + 1)) + 1)) + 1)) + 1)) (wrap64 (x5_1 + 1)))) = some (r1, r2) := by first | (rw [hy229]; with_reducible exact H) | (have H2_ := (Option.bind_some _ _).symm.trans H; rw [hy229]; with_reducible exact H2_) | (have H2_ := (Option.bind_some _ _).symm.trans H; with_reducible exact H2_) | with_reducible exact H | (rw [hy229]; exact H) | exact H
          have Ny229 := Aside0.mk hy229
          clear hy229
          obtain ⟨y230, hy230⟩ : ∃ y_ : List (S_Item), y_ = (y229.set (x5_1 : Int).toNat (⟨(rd_Item y229 x5_1).f0, (rd_Item y229 x5_1).f1, (rd_Item y229 x5_1).f2, wrap64 ((wrap64 ((wrap64 (x1_1 + 1)) + 1)) + 1), (rd_Item y229 x5_1).f4⟩ : S_Item)) := ⟨_, rfl⟩
          replace H : (laws_markItemS.l0 k1 (y230.set (x5_1 : Int).toNat (⟨(rd_Item y230 x5_1).f0, (rd_Item y230 x5_1).f1, (rd_Item y230 x5_1).f2, (rd_Item y230 x5_1).f3, wrap64 ((wrap64 ((wrap64 ((wrap64 (x1_1 + 1)) + 1)) + 1)) + 1)⟩ : S_Item)) (wrap64 ((wrap64 ((wrap64 ((wrap64 ((wrap64 (x1_1 + 1)) + 1)) + 1)) + 1)) + 1)) (wrap64 (x5_1 + 1))) = some (r1, r2) := by first | (rw [hy230]; with_reducible exact H) | (have H2_ := (Option.bind_some _ _).symm.trans H; rw [hy230]; with_reducible exact H2_) | (have H2_ := (Option.bind_some _ _).symm.trans H; with_reducible exact H2_) | with_reducible exact H | (rw [hy230]; exact H) | exact H
          have Ny230 := Aside0.mk hy230
          clear hy230
          obtain ⟨y231, hy231⟩ : ∃ y_ : List (S_Item), y_ = (y230.set (x5_1 : Int).toNat (⟨(rd_Item y230 x5_1).f0, (rd_Item y230 x5_1).f1, (rd_Item y230 x5_1).f2, (rd_Item y230 x5_1).f3, wrap64 ((wrap64 ((wrap64 ((wrap64 (x1_1 + 1)) + 1)) + 1)) + 1)⟩ : S_Item)) := ⟨_, rfl⟩
          replace H : (laws_markItemS.l0 k1 y231 (wrap64 ((wrap64 ((wrap64 ((wrap64 ((wrap64 (x1_1 + 1)) + 1)) + 1)) + 1)) + 1)) (wrap64 (x5_1 + 1))) = some (r1, r2) := by first | (rw [hy231]; with_reducible exact H) | (have H2_ := (Option.bind_some _ _).symm.trans H; rw [hy231]; with_reducible exact H2_) | (have H2_ := (Option.bind_some _ _).symm.trans H; with_reducible exact H2_) | with_reducible exact H | (rw [hy231]; exact H) | exact H
          have Ny231 := Aside0.mk hy231
          clear hy231
          have H' := Aside0.mk H
          clear H
          obtain ⟨Ao12, co12, eo12⟩ := Kd.R_slice HO_0.out
          subst eo12
          have p5 : 0 ≤ (x5_1 : Int) := of_decide_eq_true dt_
          have q5 : (x5_1 : Int) < ((x0_1.length : Int) : Int) := of_decide_eq_true dt_
          obtain ⟨go5, co5, eo5, gb5, gl5, cl5, HG5⟩ := Kd.R_form HO_0.out (by omega)
          (first | cases eo5 | (injection eo5 with ea_ en_ ec_; (first | subst ea_ | (injection ea_ with ea_; subst ea_)); subst ec_; clear en_))
          have GB5 := Aside0.mk gb5
          have GG5 := Aside0.mk HG5
          clear gb5 gl5 HG5
          have HMgo5 := Aside0.mk (show (P0_ go5 ∨ w.heap.size ≤ go5) from (HO_0.out.1 _ rfl))
          obtain ⟨ce5, hcl5, hM5, hcc5, hfr5⟩ := Kd.R_elem HO_0.out z_Item (x5_1 : Int) p5 q5
          obtain rfl := k_Item_openM hM5
          have hx5_0 : wr.cell? ⟨go5, (x5_1 : Int).toNat * 5, none⟩ = some (.int .i64 ((rd_Item x0_1 x5_1).f0)) := hcc5 0 _ rfl
          have hx5_1 : wr.cell? ⟨go5, (x5_1 : Int).toNat * 5 + 1, none⟩ = some (.string ((rd_Item x0_1 x5_1).f1)) := hcc5 1 _ rfl
          have hx5_2 : wr.cell? ⟨go5, (x5_1 : Int).toNat * 5 + 2, none⟩ = some (.string ((rd_Item x0_1 x5_1).f2)) := hcc5 2 _ rfl
          have hx5_3 : wr.cell? ⟨go5, (x5_1 : Int).toNat * 5 + 3, none⟩ = some (.int .i64 ((rd_Item x0_1 x5_1).f3)) := hcc5 3 _ rfl
          have hx5_4 : wr.cell? ⟨go5, (x5_1 : Int).toNat * 5 + 4, none⟩ = some (.int .i64 ((rd_Item x0_1 x5_1).f4)) := hcc5 4 _ rfl
          have hf5_0 : wr.frozen? ⟨go5, (x5_1 : Int).toNat * 5, none⟩ = false := hfr5 0
          have hf5_1 : wr.frozen? ⟨go5, (x5_1 : Int).toNat * 5 + 1, none⟩ = false := hfr5 1
          have hf5_2 : wr.frozen? ⟨go5, (x5_1 : Int).toNat * 5 + 2, none⟩ = false := hfr5 2
          have hf5_3 : wr.frozen? ⟨go5, (x5_1 : Int).toNat * 5 + 3, none⟩ = false := hfr5 3
          have hf5_4 : wr.frozen? ⟨go5, (x5_1 : Int).toNat * 5 + 4, none⟩ = false := hfr5 4
          clear hcl5 hcc5 hfr5 hM5
          replace p5 := eq_true p5
          replace q5 := eq_true q5
          have HX13 := Aside0.mk (show Kd.R k_Item 33 wr w0.heap.size (fun k_ => (P0_ k_ ∨ w.heap.size ≤ k_)) (.slice (some ⟨go5, 0, none⟩) x0_1.length co12) x0_1 from (qe4_))
          obtain ⟨ce13, hcl13, hM13, hcc13, hfr13⟩ := Kd.R_elem HX13.out z_Item (x5_1 : Int) (of_decide_eq_true dt_) (by have h_ : (x5_1 : Int) < ((x0_1.length : Int) : Int) := of_decide_eq_true dt_; first | exact h_ | (have e_ := (Kd.R_reads' HO_0.out).1; omega) | simpa using h_)
          obtain rfl := k_Item_openM hM13
          have HP13 := Kd.R_seg HX13.out (x5_1 : Int) (of_decide_eq_true dt_) (by have h_ : (x5_1 : Int) < ((x0_1.length : Int) : Int) := of_decide_eq_true dt_; first | exact h_ | (have e_ := (Kd.R_reads' HO_0.out).1; omega) | simpa using h_) (seg := [.int .i64 x1_1]) (j := 0) hcl13 hcc13 (show 1 ≤ 5 from by decide) (x' := (⟨x1_1, (rd_Item x0_1 x5_1).f1, (rd_Item x0_1 x5_1).f2, (rd_Item x0_1 x5_1).f3, (rd_Item x0_1 x5_1).f4⟩ : S_Item)) (k_Item_mkM _ _ _ (⟨x1_1, (rd_Item x0_1 x5_1).f1, (rd_Item x0_1 x5_1).f2, (rd_Item x0_1 x5_1).f3, (rd_Item x0_1 x5_1).f4⟩ : S_Item) ) (fun _ hk => hk)
          have hx13_0 := hcc13 0 _ rfl
          (try simp only [show (k_Item).sz = 5 from rfl, Nat.mul_one, Nat.add_zero] at hx13_0)
          have hf13_0 := hfr13 0
          (try simp only [show (k_Item).sz = 5 from rfl, Nat.mul_one, Nat.add_zero] at hf13_0)
          clear hcl13 hcc13 hfr13 hM13
          go_wp2_with (first | ((with_reducible refine gate_store (t := 3) (p := 16) rfl ?_); refine store_event (t := 3) (p := 16) (v := ?vo_w14) (w1 := (wr.setCell ⟨go5, (x5_1 : Int).toNat * 5, none⟩ (.int .i64 x1_1))) ?hg ?ho ?hn ?hr ?_; (case ho => rfl); (case hg => rfl); (case hn => rfl); (case hr => first | (go_simp; done) | (go_simp; rfl)); intro w14 hw; have hg : wr.grownBy w14 (some go5) := (by rw [hw]; exact HP13.2); have hp_ : Kd.R k_Item 33 w14 w0.heap.size (fun k_ => (P0_ k_ ∨ w.heap.size ≤ k_)) (.slice (some ⟨go5, 0, none⟩) x0_1.length co12) y225 := (by rw [hw, Ny225.out]; exact HP13.1); clear HP13; replace HB := Aside0.mk ((by rw [hw]; exact below_set (HB.out) GB5.out : Below w0.heap.size w0 w14)); replace HK := Aside0.mk (Kept.of_grown (S := (fun k_ => P0_ k_)) hg (qe1_) (fun k_ e_ => (HO_0.out.1 k_ e_))); replace HO_0 := Aside0.mk (hp_); clear hg hw hp_) | ((with_reducible refine gate_callee (f := 106) rfl ?_); refine goesL_ (some 22) rfl rfl Try.func106 (by kernel_rfl) rfl #[.int .i64 (wrap64 (x1_1 + 1))] rfl (qe2_) ?_; (with_reducible refine (laws_markText.calls k1 (wrap64 (x1_1 + 1)) t226 _ A6.out).mono ?_); rintro e w15 ⟨rfl, hb⟩; refine ⟨_, rfl, ?_⟩; replace HO_0 := Aside0.mk (Kd.R_below (qe4_) hb); replace HK := Aside0.mk (Kept.below (S := (fun k_ => P0_ k_)) (qe1_) hb); replace HB := Aside0.mk (below_step (qe0_) hb); (try clear hb); (try clear hb2); (try clear hk); (try clear hi); have p7 : 0 ≤ (x5_1 : Int) := of_decide_eq_true dt_; have q7 : (x5_1 : Int) < ((x0_1.length : Int) : Int) := of_decide_eq_true dt_; obtain ⟨ce7, hcl7, hM7, hcc7, hfr7⟩ := Kd.R_elem HO_0.out z_Item (x5_1 : Int) p7 q7; obtain rfl := k_Item_openM hM7; have hx7_0 : w15.cell? ⟨go5, (x5_1 : Int).toNat * 5, none⟩ = some (.int .i64 ((rd_Item y225 x5_1).f0)) := hcc7 0 _ rfl; have hx7_1 : w15.cell? ⟨go5, (x5_1 : Int).toNat * 5 + 1, none⟩ = some (.string ((rd_Item y225 x5_1).f1)) := hcc7 1 _ rfl; have hx7_2 : w15.cell? ⟨go5, (x5_1 : Int).toNat * 5 + 2, none⟩ = some (.string ((rd_Item y225 x5_1).f2)) := hcc7 2 _ rfl; have hx7_3 : w15.cell? ⟨go5, (x5_1 : Int).toNat * 5 + 3, none⟩ = some (.int .i64 ((rd_Item y225 x5_1).f3)) := hcc7 3 _ rfl; have hx7_4 : w15.cell? ⟨go5, (x5_1 : Int).toNat * 5 + 4, none⟩ = some (.int .i64 ((rd_Item y225 x5_1).f4)) := hcc7 4 _ rfl; have hf7_0 : w15.frozen? ⟨go5, (x5_1 : Int).toNat * 5, none⟩ = false := hfr7 0; have hf7_1 : w15.frozen? ⟨go5, (x5_1 : Int).toNat * 5 + 1, none⟩ = false := hfr7 1; have hf7_2 : w15.frozen? ⟨go5, (x5_1 : Int).toNat * 5 + 2, none⟩ = false := hfr7 2; have hf7_3 : w15.frozen? ⟨go5, (x5_1 : Int).toNat * 5 + 3, none⟩ = false := hfr7 3; have hf7_4 : w15.frozen? ⟨go5, (x5_1 : Int).toNat * 5 + 4, none⟩ = false := hfr7 4; clear hcl7 hcc7 hfr7 hM7; replace p7 := eq_true p7; replace q7 := eq_true q7; have HX16 := Aside0.mk (show Kd.R k_Item 33 w15 w0.heap.size (fun k_ => (P0_ k_ ∨ w.heap.size ≤ k_)) (.slice (some ⟨go5, 0, none⟩) x0_1.length co12) y225 from (qe4_)); obtain ⟨ce16, hcl16, hM16, hcc16, hfr16⟩ := Kd.R_elem HX16.out z_Item (x5_1 : Int) (of_decide_eq_true dt_) (by have h_ : (x5_1 : Int) < ((x0_1.length : Int) : Int) := of_decide_eq_true dt_; first | exact h_ | (have e_ := (Kd.R_reads' HO_0.out).1; omega) | simpa using h_); obtain rfl := k_Item_openM hM16; have HP16 := Kd.R_seg HX16.out (x5_1 : Int) (of_decide_eq_true dt_) (by have h_ : (x5_1 : Int) < ((x0_1.length : Int) : Int) := of_decide_eq_true dt_; first | exact h_ | (have e_ := (Kd.R_reads' HO_0.out).1; omega) | simpa using h_) (seg := [.string t226]) (j := 1) hcl16 hcc16 (show 2 ≤ 5 from by decide) (x' := (⟨(rd_Item y225 x5_1).f0, t226, (rd_Item y225 x5_1).f2, (rd_Item y225 x5_1).f3, (rd_Item y225 x5_1).f4⟩ : S_Item)) (k_Item_mkM _ _ _ (⟨(rd_Item y225 x5_1).f0, t226, (rd_Item y225 x5_1).f2, (rd_Item y225 x5_1).f3, (rd_Item y225 x5_1).f4⟩ : S_Item) ) (fun _ hk => hk); have hx16_1 := hcc16 1 _ rfl; (try simp only [show (k_Item).sz = 5 from rfl, Nat.mul_one, Nat.add_zero] at hx16_1); have hf16_1 := hfr16 1; (try simp only [show (k_Item).sz = 5 from rfl, Nat.mul_one, Nat.add_zero] at hf16_1); clear hcl16 hcc16 hfr16 hM16) | ((with_reducible refine gate_store (t := 9) (p := 24) rfl ?_); refine store_event (t := 9) (p := 24) (v := ?vo_w17) (w1 := (w15.setCell ⟨go5, (x5_1 : Int).toNat * 5 + 1, none⟩ (.string t226))) ?hg ?ho ?hn ?hr ?_; (case ho => rfl); (case hg => rfl); (case hn => rfl); (case hr => first | (go_simp; done) | (go_simp; rfl)); intro w17 hw; have hg : w15.grownBy w17 (some go5) := (by rw [hw]; exact HP16.2); have hp_ : Kd.R k_Item 33 w17 w0.heap.size (fun k_ => (P0_ k_ ∨ w.heap.size ≤ k_)) (.slice (some ⟨go5, 0, none⟩) x0_1.length co12) y227 := (by rw [hw, Ny227.out]; exact HP16.1); clear HP16; replace HB := Aside0.mk ((by rw [hw]; exact below_set (HB.out) GB5.out : Below w0.heap.size w0 w17)); replace HK := Aside0.mk (Kept.of_grown (S := (fun k_ => P0_ k_)) hg (qe1_) (fun k_ e_ => (HO_0.out.1 k_ e_))); replace HO_0 := Aside0.mk (hp_); clear hg hw hp_) | ((with_reducible refine gate_callee (f := 106) rfl ?_); refine goesL_ (some 30) rfl rfl Try.func106 (by kernel_rfl) rfl #[.int .i64 (wrap64 ((wrap64 (x1_1 + 1)) + 1))] rfl (qe2_) ?_; (with_reducible refine (laws_markText.calls k1 (wrap64 ((wrap64 (x1_1 + 1)) + 1)) t228 _ A8.out).mono ?_); rintro e w18 ⟨rfl, hb⟩; refine ⟨_, rfl, ?_⟩; replace HO_0 := Aside0.mk (Kd.R_below (qe4_) hb); replace HK := Aside0.mk (Kept.below (S := (fun k_ => P0_ k_)) (qe1_) hb); replace HB := Aside0.mk (below_step (qe0_) hb); (try clear hb); (try clear hb2); (try clear hk); (try clear hi); have p9 : 0 ≤ (x5_1 : Int) := of_decide_eq_true dt_; have q9 : (x5_1 : Int) < ((x0_1.length : Int) : Int) := of_decide_eq_true dt_; obtain ⟨ce9, hcl9, hM9, hcc9, hfr9⟩ := Kd.R_elem HO_0.out z_Item (x5_1 : Int) p9 q9; obtain rfl := k_Item_openM hM9; have hx9_0 : w18.cell? ⟨go5, (x5_1 : Int).toNat * 5, none⟩ = some (.int .i64 ((rd_Item y227 x5_1).f0)) := hcc9 0 _ rfl; have hx9_1 : w18.cell? ⟨go5, (x5_1 : Int).toNat * 5 + 1, none⟩ = some (.string ((rd_Item y227 x5_1).f1)) := hcc9 1 _ rfl; have hx9_2 : w18.cell? ⟨go5, (x5_1 : Int).toNat * 5 + 2, none⟩ = some (.string ((rd_Item y227 x5_1).f2)) := hcc9 2 _ rfl; have hx9_3 : w18.cell? ⟨go5, (x5_1 : Int).toNat * 5 + 3, none⟩ = some (.int .i64 ((rd_Item y227 x5_1).f3)) := hcc9 3 _ rfl; have hx9_4 : w18.cell? ⟨go5, (x5_1 : Int).toNat * 5 + 4, none⟩ = some (.int .i64 ((rd_Item y227 x5_1).f4)) := hcc9 4 _ rfl; have hf9_0 : w18.frozen? ⟨go5, (x5_1 : Int).toNat * 5, none⟩ = false := hfr9 0; have hf9_1 : w18.frozen? ⟨go5, (x5_1 : Int).toNat * 5 + 1, none⟩ = false := hfr9 1; have hf9_2 : w18.frozen? ⟨go5, (x5_1 : Int).toNat * 5 + 2, none⟩ = false := hfr9 2; have hf9_3 : w18.frozen? ⟨go5, (x5_1 : Int).toNat * 5 + 3, none⟩ = false := hfr9 3; have hf9_4 : w18.frozen? ⟨go5, (x5_1 : Int).toNat * 5 + 4, none⟩ = false := hfr9 4; clear hcl9 hcc9 hfr9 hM9; replace p9 := eq_true p9; replace q9 := eq_true q9; have HX19 := Aside0.mk (show Kd.R k_Item 33 w18 w0.heap.size (fun k_ => (P0_ k_ ∨ w.heap.size ≤ k_)) (.slice (some ⟨go5, 0, none⟩) x0_1.length co12) y227 from (qe4_)); obtain ⟨ce19, hcl19, hM19, hcc19, hfr19⟩ := Kd.R_elem HX19.out z_Item (x5_1 : Int) (of_decide_eq_true dt_) (by have h_ : (x5_1 : Int) < ((x0_1.length : Int) : Int) := of_decide_eq_true dt_; first | exact h_ | (have e_ := (Kd.R_reads' HO_0.out).1; omega) | simpa using h_); obtain rfl := k_Item_openM hM19; have HP19 := Kd.R_seg HX19.out (x5_1 : Int) (of_decide_eq_true dt_) (by have h_ : (x5_1 : Int) < ((x0_1.length : Int) : Int) := of_decide_eq_true dt_; first | exact h_ | (have e_ := (Kd.R_reads' HO_0.out).1; omega) | simpa using h_) (seg := [.string t228]) (j := 2) hcl19 hcc19 (show 3 ≤ 5 from by decide) (x' := (⟨(rd_Item y227 x5_1).f0, (rd_Item y227 x5_1).f1, t228, (rd_Item y227 x5_1).f3, (rd_Item y227 x5_1).f4⟩ : S_Item)) (k_Item_mkM _ _ _ (⟨(rd_Item y227 x5_1).f0, (rd_Item y227 x5_1).f1, t228, (rd_Item y227 x5_1).f3, (rd_Item y227 x5_1).f4⟩ : S_Item) ) (fun _ hk => hk); have hx19_2 := hcc19 2 _ rfl; (try simp only [show (k_Item).sz = 5 from rfl, Nat.mul_one, Nat.add_zero] at hx19_2); have hf19_2 := hfr19 2; (try simp only [show (k_Item).sz = 5 from rfl, Nat.mul_one, Nat.add_zero] at hf19_2); clear hcl19 hcc19 hfr19 hM19) | ((with_reducible refine gate_store (t := 9) (p := 32) rfl ?_); refine store_event (t := 9) (p := 32) (v := ?vo_w20) (w1 := (w18.setCell ⟨go5, (x5_1 : Int).toNat * 5 + 2, none⟩ (.string t228))) ?hg ?ho ?hn ?hr ?_; (case ho => rfl); (case hg => rfl); (case hn => rfl); (case hr => first | (go_simp; done) | (go_simp; rfl)); intro w20 hw; have hg : w18.grownBy w20 (some go5) := (by rw [hw]; exact HP19.2); have hp_ : Kd.R k_Item 33 w20 w0.heap.size (fun k_ => (P0_ k_ ∨ w.heap.size ≤ k_)) (.slice (some ⟨go5, 0, none⟩) x0_1.length co12) y229 := (by rw [hw, Ny229.out]; exact HP19.1); clear HP19; replace HB := Aside0.mk ((by rw [hw]; exact below_set (HB.out) GB5.out : Below w0.heap.size w0 w20)); replace HK := Aside0.mk (Kept.of_grown (S := (fun k_ => P0_ k_)) hg (qe1_) (fun k_ e_ => (HO_0.out.1 k_ e_))); replace HO_0 := Aside0.mk (hp_); clear hg hw hp_; have p10 : 0 ≤ (x5_1 : Int) := of_decide_eq_true dt_; have q10 : (x5_1 : Int) < ((x0_1.length : Int) : Int) := of_decide_eq_true dt_; obtain ⟨ce10, hcl10, hM10, hcc10, hfr10⟩ := Kd.R_elem HO_0.out z_Item (x5_1 : Int) p10 q10; obtain rfl := k_Item_openM hM10; have hx10_0 : w20.cell? ⟨go5, (x5_1 : Int).toNat * 5, none⟩ = some (.int .i64 ((rd_Item y229 x5_1).f0)) := hcc10 0 _ rfl; have hx10_1 : w20.cell? ⟨go5, (x5_1 : Int).toNat * 5 + 1, none⟩ = some (.string ((rd_Item y229 x5_1).f1)) := hcc10 1 _ rfl; have hx10_2 : w20.cell? ⟨go5, (x5_1 : Int).toNat * 5 + 2, none⟩ = some (.string ((rd_Item y229 x5_1).f2)) := hcc10 2 _ rfl; have hx10_3 : w20.cell? ⟨go5, (x5_1 : Int).toNat * 5 + 3, none⟩ = some (.int .i64 ((rd_Item y229 x5_1).f3)) := hcc10 3 _ rfl; have hx10_4 : w20.cell? ⟨go5, (x5_1 : Int).toNat * 5 + 4, none⟩ = some (.int .i64 ((rd_Item y229 x5_1).f4)) := hcc10 4 _ rfl; have hf10_0 : w20.frozen? ⟨go5, (x5_1 : Int).toNat * 5, none⟩ = false := hfr10 0; have hf10_1 : w20.frozen? ⟨go5, (x5_1 : Int).toNat * 5 + 1, none⟩ = false := hfr10 1; have hf10_2 : w20.frozen? ⟨go5, (x5_1 : Int).toNat * 5 + 2, none⟩ = false := hfr10 2; have hf10_3 : w20.frozen? ⟨go5, (x5_1 : Int).toNat * 5 + 3, none⟩ = false := hfr10 3; have hf10_4 : w20.frozen? ⟨go5, (x5_1 : Int).toNat * 5 + 4, none⟩ = false := hfr10 4; clear hcl10 hcc10 hfr10 hM10; replace p10 := eq_true p10; replace q10 := eq_true q10; have HX21 := Aside0.mk (show Kd.R k_Item 33 w20 w0.heap.size (fun k_ => (P0_ k_ ∨ w.heap.size ≤ k_)) (.slice (some ⟨go5, 0, none⟩) x0_1.length co12) y229 from (qe4_)); obtain ⟨ce21, hcl21, hM21, hcc21, hfr21⟩ := Kd.R_elem HX21.out z_Item (x5_1 : Int) (of_decide_eq_true dt_) (by have h_ : (x5_1 : Int) < ((x0_1.length : Int) : Int) := of_decide_eq_true dt_; first | exact h_ | (have e_ := (Kd.R_reads' HO_0.out).1; omega) | simpa using h_); obtain rfl := k_Item_openM hM21; have HP21 := Kd.R_seg HX21.out (x5_1 : Int) (of_decide_eq_true dt_) (by have h_ : (x5_1 : Int) < ((x0_1.length : Int) : Int) := of_decide_eq_true dt_; first | exact h_ | (have e_ := (Kd.R_reads' HO_0.out).1; omega) | simpa using h_) (seg := [.int .i64 (wrap64 ((wrap64 ((wrap64 (x1_1 + 1)) + 1)) + 1))]) (j := 3) hcl21 hcc21 (show 4 ≤ 5 from by decide) (x' := (⟨(rd_Item y229 x5_1).f0, (rd_Item y229 x5_1).f1, (rd_Item y229 x5_1).f2, wrap64 ((wrap64 ((wrap64 (x1_1 + 1)) + 1)) + 1), (rd_Item y229 x5_1).f4⟩ : S_Item)) (k_Item_mkM _ _ _ (⟨(rd_Item y229 x5_1).f0, (rd_Item y229 x5_1).f1, (rd_Item y229 x5_1).f2, wrap64 ((wrap64 ((wrap64 (x1_1 + 1)) + 1)) + 1), (rd_Item y229 x5_1).f4⟩ : S_Item) ) (fun _ hk => hk); have hx21_3 := hcc21 3 _ rfl; (try simp only [show (k_Item).sz = 5 from rfl, Nat.mul_one, Nat.add_zero] at hx21_3); have hf21_3 := hfr21 3; (try simp only [show (k_Item).sz = 5 from rfl, Nat.mul_one, Nat.add_zero] at hf21_3); clear hcl21 hcc21 hfr21 hM21) | ((with_reducible refine gate_store (t := 3) (p := 39) rfl ?_); refine store_event (t := 3) (p := 39) (v := ?vo_w22) (w1 := (w20.setCell ⟨go5, (x5_1 : Int).toNat * 5 + 3, none⟩ (.int .i64 (wrap64 ((wrap64 ((wrap64 (x1_1 + 1)) + 1)) + 1))))) ?hg ?ho ?hn ?hr ?_; (case ho => rfl); (case hg => rfl); (case hn => rfl); (case hr => first | (go_simp; done) | (go_simp; rfl)); intro w22 hw; have hg : w20.grownBy w22 (some go5) := (by rw [hw]; exact HP21.2); have hp_ : Kd.R k_Item 33 w22 w0.heap.size (fun k_ => (P0_ k_ ∨ w.heap.size ≤ k_)) (.slice (some ⟨go5, 0, none⟩) x0_1.length co12) y230 := (by rw [hw, Ny230.out]; exact HP21.1); clear HP21; replace HB := Aside0.mk ((by rw [hw]; exact below_set (HB.out) GB5.out : Below w0.heap.size w0 w22)); replace HK := Aside0.mk (Kept.of_grown (S := (fun k_ => P0_ k_)) hg (qe1_) (fun k_ e_ => (HO_0.out.1 k_ e_))); replace HO_0 := Aside0.mk (hp_); clear hg hw hp_; have p11 : 0 ≤ (x5_1 : Int) := of_decide_eq_true dt_; have q11 : (x5_1 : Int) < ((x0_1.length : Int) : Int) := of_decide_eq_true dt_; obtain ⟨ce11, hcl11, hM11, hcc11, hfr11⟩ := Kd.R_elem HO_0.out z_Item (x5_1 : Int) p11 q11; obtain rfl := k_Item_openM hM11; have hx11_0 : w22.cell? ⟨go5, (x5_1 : Int).toNat * 5, none⟩ = some (.int .i64 ((rd_Item y230 x5_1).f0)) := hcc11 0 _ rfl; have hx11_1 : w22.cell? ⟨go5, (x5_1 : Int).toNat * 5 + 1, none⟩ = some (.string ((rd_Item y230 x5_1).f1)) := hcc11 1 _ rfl; have hx11_2 : w22.cell? ⟨go5, (x5_1 : Int).toNat * 5 + 2, none⟩ = some (.string ((rd_Item y230 x5_1).f2)) := hcc11 2 _ rfl; have hx11_3 : w22.cell? ⟨go5, (x5_1 : Int).toNat * 5 + 3, none⟩ = some (.int .i64 ((rd_Item y230 x5_1).f3)) := hcc11 3 _ rfl; have hx11_4 : w22.cell? ⟨go5, (x5_1 : Int).toNat * 5 + 4, none⟩ = some (.int .i64 ((rd_Item y230 x5_1).f4)) := hcc11 4 _ rfl; have hf11_0 : w22.frozen? ⟨go5, (x5_1 : Int).toNat * 5, none⟩ = false := hfr11 0; have hf11_1 : w22.frozen? ⟨go5, (x5_1 : Int).toNat * 5 + 1, none⟩ = false := hfr11 1; have hf11_2 : w22.frozen? ⟨go5, (x5_1 : Int).toNat * 5 + 2, none⟩ = false := hfr11 2; have hf11_3 : w22.frozen? ⟨go5, (x5_1 : Int).toNat * 5 + 3, none⟩ = false := hfr11 3; have hf11_4 : w22.frozen? ⟨go5, (x5_1 : Int).toNat * 5 + 4, none⟩ = false := hfr11 4; clear hcl11 hcc11 hfr11 hM11; replace p11 := eq_true p11; replace q11 := eq_true q11; have HX23 := Aside0.mk (show Kd.R k_Item 33 w22 w0.heap.size (fun k_ => (P0_ k_ ∨ w.heap.size ≤ k_)) (.slice (some ⟨go5, 0, none⟩) x0_1.length co12) y230 from (qe4_)); obtain ⟨ce23, hcl23, hM23, hcc23, hfr23⟩ := Kd.R_elem HX23.out z_Item (x5_1 : Int) (of_decide_eq_true dt_) (by have h_ : (x5_1 : Int) < ((x0_1.length : Int) : Int) := of_decide_eq_true dt_; first | exact h_ | (have e_ := (Kd.R_reads' HO_0.out).1; omega) | simpa using h_); obtain rfl := k_Item_openM hM23; have HP23 := Kd.R_seg HX23.out (x5_1 : Int) (of_decide_eq_true dt_) (by have h_ : (x5_1 : Int) < ((x0_1.length : Int) : Int) := of_decide_eq_true dt_; first | exact h_ | (have e_ := (Kd.R_reads' HO_0.out).1; omega) | simpa using h_) (seg := [.int .i64 (wrap64 ((wrap64 ((wrap64 ((wrap64 (x1_1 + 1)) + 1)) + 1)) + 1))]) (j := 4) hcl23 hcc23 (show 5 ≤ 5 from by decide) (x' := (⟨(rd_Item y230 x5_1).f0, (rd_Item y230 x5_1).f1, (rd_Item y230 x5_1).f2, (rd_Item y230 x5_1).f3, wrap64 ((wrap64 ((wrap64 ((wrap64 (x1_1 + 1)) + 1)) + 1)) + 1)⟩ : S_Item)) (k_Item_mkM _ _ _ (⟨(rd_Item y230 x5_1).f0, (rd_Item y230 x5_1).f1, (rd_Item y230 x5_1).f2, (rd_Item y230 x5_1).f3, wrap64 ((wrap64 ((wrap64 ((wrap64 (x1_1 + 1)) + 1)) + 1)) + 1)⟩ : S_Item) ) (fun _ hk => hk); have hx23_4 := hcc23 4 _ rfl; (try simp only [show (k_Item).sz = 5 from rfl, Nat.mul_one, Nat.add_zero] at hx23_4); have hf23_4 := hfr23 4; (try simp only [show (k_Item).sz = 5 from rfl, Nat.mul_one, Nat.add_zero] at hf23_4); clear hcl23 hcc23 hfr23 hM23) | ((with_reducible refine gate_store (t := 3) (p := 46) rfl ?_); refine store_event (t := 3) (p := 46) (v := ?vo_w24) (w1 := (w22.setCell ⟨go5, (x5_1 : Int).toNat * 5 + 4, none⟩ (.int .i64 (wrap64 ((wrap64 ((wrap64 ((wrap64 (x1_1 + 1)) + 1)) + 1)) + 1))))) ?hg ?ho ?hn ?hr ?_; (case ho => rfl); (case hg => rfl); (case hn => rfl); (case hr => first | (go_simp; done) | (go_simp; rfl)); intro w24 hw; have hg : w22.grownBy w24 (some go5) := (by rw [hw]; exact HP23.2); have hp_ : Kd.R k_Item 33 w24 w0.heap.size (fun k_ => (P0_ k_ ∨ w.heap.size ≤ k_)) (.slice (some ⟨go5, 0, none⟩) x0_1.length co12) y231 := (by rw [hw, Ny231.out]; exact HP23.1); clear HP23; replace HB := Aside0.mk ((by rw [hw]; exact below_set (HB.out) GB5.out : Below w0.heap.size w0 w24)); replace HK := Aside0.mk (Kept.of_grown (S := (fun k_ => P0_ k_)) hg (qe1_) (fun k_ e_ => (HO_0.out.1 k_ e_))); replace HO_0 := Aside0.mk (hp_); clear hg hw hp_))
          go_roundg k1
          case measure => have := HK1.out; omega
          case rel => exact ⟨(y231), (wrap64 ((wrap64 ((wrap64 ((wrap64 ((wrap64 (x1_1 + 1)) + 1)) + 1)) + 1)) + 1)), (wrap64 (x5_1 + 1)), (qe3_), (qe3_), H', ⟨by have := HK1.out; omega⟩, ⟨qe4_⟩, ⟨qe1_⟩, ⟨qe0_⟩⟩
        · rw [if_neg c4] at H
          exact absurd H (by simp)
      · rw [if_neg c3] at H
        have c3b0 : decide (x5_1 < (x0_1.length : Int)) = false := decide_eq_false c3
        clear c3
        simp only [Option.some.injEq, Prod.mk.injEq] at H
        obtain ⟨rfl, rfl⟩ := H
        obtain ⟨Ao25, co25, eo25⟩ := Kd.R_slice HO_0.out
        subst eo25
        go_wp2
        go_ret
        exact ⟨qe6_, qe4_, qe0_, qe1_⟩

/-! ### laws_markIntS: function 90 -/
def laws_markIntS.l0 : Nat → List Int → Int → Int → Option (Int × List Int)
  | 0, _, _, _ => none
  | k + 1, x0, x1, x5 => if x5 < (x0.length : Int) then (if 0 ≤ x5 then (laws_markIntS.l0 k (x0.set (x5 : Int).toNat x1) (wrap64 (x1 + 1)) (wrap64 (x5 + 1))) else (none)) else (some (x1, x0))
def laws_markIntS.f (k : Nat) (l0 : List Int) (a1 : Int) : Option (Int × List Int) := laws_markIntS.l0 k l0 a1 0
theorem laws_markIntS.mono_l : ∀ k, (∀ y0 y1 y2, LeO (laws_markIntS.l0 k y0 y1 y2) (laws_markIntS.l0 (k + 1) y0 y1 y2))
  | 0 => fun _ _ _ r h => by simp [laws_markIntS.l0] at h
  | k + 1 => by
    have ih0 := laws_markIntS.mono_l k
    · intro y0 y1 y2
      unfold laws_markIntS.l0
      exact qeh1_
theorem laws_markIntS.mono : ∀ a0 a1 k, LeO (laws_markIntS.f k a0 a1) (laws_markIntS.f (k + 1) a0 a1) := by
  intro a0 a1 k
  have ih0 := laws_markIntS.mono_l k
  unfold laws_markIntS.f
  exact qeh1_
set_option maxHeartbeats 8000000 in
set_option maxRecDepth 100000 in
theorem laws_markIntS.calls (k : Nat) (P0_ : Nat → Prop) (u9000_ : Value) (l0 : List Int) (a1 : Int) (r1 : Int) (r2 : List Int) (w0 w : World) (hB : Below w0.heap.size w0 w) (ho0 : Kd.R (Kd.int .i64) 3 w w0.heap.size P0_ u9000_ l0) (h : laws_markIntS.f k l0 a1 = some (r1, r2)) :
    Calls Try.prog 90 #[u9000_, .int .i64 a1] w fun e w' => e = .returned (.int .i64 r1) ∧ Kd.R (Kd.int .i64) 3 w' w0.heap.size (fun k_ => (P0_ k_ ∨ w.heap.size ≤ k_)) u9000_ r2 ∧ Below w0.heap.size w0 w' ∧ Kept w w' (fun k_ => P0_ k_) := by
  have HO0 := Aside0.mk (show Kd.R (Kd.int .i64) 3 w w0.heap.size (fun k_ => (P0_ k_ ∨ w.heap.size ≤ k_)) u9000_ l0 from Kd.R_mono ho0 (fun k_ hk => (.inl hk)))
  have HK := Aside0.mk (Kept.refl w (fun k_ => P0_ k_))
  have HW0 := Aside0.mk hB.size
  have HB := Aside0.mk hB
  clear hB
  have H : (laws_markIntS.l0 k l0 a1 0) = some (r1, r2) := h
  clear h
  have H' := Aside0.mk H
  clear H
  go_enter Try.func90, Try.ntmps90
  go_wp2
  go_loopg [1, 5] k (fun kq v1 v5 w' => ∃ (x0_1 : List Int) (x1_1 : Int) (x5_1 : Int), v1 = .int .i64 x1_1 ∧ v5 = .int .i64 x5_1 ∧ Aside0 (laws_markIntS.l0 kq x0_1 x1_1 x5_1 = some (r1, r2)) ∧ Aside0 (kq ≤ k) ∧ Aside0 (Kd.R (Kd.int .i64) 3 w' w0.heap.size (fun k_ => (P0_ k_ ∨ w.heap.size ≤ k_)) u9000_ x0_1) ∧ Aside0 (Kept w w' (fun k_ => P0_ k_)) ∧ Aside0 (Below w0.heap.size w0 w'))
  case atStart => exact ⟨(l0), (a1), (0), (qe3_), (qe3_), H', ⟨Nat.le_refl _⟩, ⟨qe7_⟩, ⟨qe1_⟩, ⟨qe0_⟩⟩
  case round =>
    clear H'
    try clear p2
    obtain ⟨x0_1, x1_1, x5_1, rfl, rfl, HA, HK1, HO_0, HK, HB⟩ := hrel
    cases gk with
    | zero => exact absurd HA.out (by simp [laws_markIntS.l0])
    | succ k1 =>
      have H := HA.out
      clear HA
      simp only [laws_markIntS.l0] at H
      by_cases c3 : x5_1 < (x0_1.length : Int)
      · rw [if_pos c3] at H
        have c3b0 : decide (x5_1 < (x0_1.length : Int)) = true := decide_eq_true c3
        clear c3
        by_cases c4 : 0 ≤ x5_1
        · rw [if_pos c4] at H
          have c4b0 : decide (0 ≤ x5_1) = true := decide_eq_true c4
          clear c4
          obtain ⟨y232, hy232⟩ : ∃ y_ : List Int, y_ = (x0_1.set (x5_1 : Int).toNat x1_1) := ⟨_, rfl⟩
          replace H : (laws_markIntS.l0 k1 y232 (wrap64 (x1_1 + 1)) (wrap64 (x5_1 + 1))) = some (r1, r2) := by first | (rw [hy232]; with_reducible exact H) | (have H2_ := (Option.bind_some _ _).symm.trans H; rw [hy232]; with_reducible exact H2_) | (have H2_ := (Option.bind_some _ _).symm.trans H; with_reducible exact H2_) | with_reducible exact H | (rw [hy232]; exact H) | exact H
          have Ny232 := Aside0.mk hy232
          clear hy232
          have H' := Aside0.mk H
          clear H
          obtain ⟨Ao6, co6, eo6⟩ := Kd.R_slice HO_0.out
          subst eo6
          have p5 : 0 ≤ (x5_1 : Int) := of_decide_eq_true dt_
          have q5 : (x5_1 : Int) < ((x0_1.length : Int) : Int) := of_decide_eq_true dt_
          obtain ⟨go5, co5, eo5, gb5, gl5, cl5, HG5⟩ := Kd.R_form HO_0.out (by omega)
          (first | cases eo5 | (injection eo5 with ea_ en_ ec_; (first | subst ea_ | (injection ea_ with ea_; subst ea_)); subst ec_; clear en_))
          have GB5 := Aside0.mk gb5
          have GG5 := Aside0.mk HG5
          clear gb5 gl5 HG5
          have HMgo5 := Aside0.mk (show (P0_ go5 ∨ w.heap.size ≤ go5) from (HO_0.out.1 _ rfl))
          obtain ⟨hx5_0, hf5_0⟩ := Kd.R_celln 0 HO_0.out (x5_1 : Int) p5 q5
          replace p5 := eq_true p5
          replace q5 := eq_true q5
          have HP7 := Kd.R_putg HO_0.out (x5_1 : Int) x1_1
          go_wp2_with (first | ((with_reducible refine gate_store (t := 3) (p := 15) rfl ?_); refine store_event (t := 3) (p := 15) (v := ?vo_w8) (w1 := (wr.setCell ⟨go5, (x5_1 : Int).toNat, none⟩ (.int .i64 x1_1))) ?hg ?ho ?hn ?hr ?_; (case ho => rfl); (case hg => rfl); (case hn => rfl); (case hr => first | (go_simp; done) | (go_simp; rfl)); intro w8 hw; have hg : wr.grownBy w8 (some go5) := (by rw [hw]; exact HP7.2); have hp_ : Kd.R (Kd.int .i64) 3 w8 w0.heap.size (fun k_ => (P0_ k_ ∨ w.heap.size ≤ k_)) (.slice (some ⟨go5, 0, none⟩) x0_1.length co6) y232 := (by rw [hw, Ny232.out]; exact HP7.1); clear HP7; replace HB := Aside0.mk ((by rw [hw]; exact below_set (HB.out) GB5.out : Below w0.heap.size w0 w8)); replace HK := Aside0.mk (Kept.of_grown (S := (fun k_ => P0_ k_)) hg (qe1_) (fun k_ e_ => (HO_0.out.1 k_ e_))); replace HO_0 := Aside0.mk (hp_); clear hg hw hp_))
          go_roundg k1
          case measure => have := HK1.out; omega
          case rel => exact ⟨(y232), (wrap64 (x1_1 + 1)), (wrap64 (x5_1 + 1)), (qe3_), (qe3_), H', ⟨by have := HK1.out; omega⟩, ⟨qe4_⟩, ⟨qe1_⟩, ⟨qe0_⟩⟩
        · rw [if_neg c4] at H
          exact absurd H (by simp)
      · rw [if_neg c3] at H
        have c3b0 : decide (x5_1 < (x0_1.length : Int)) = false := decide_eq_false c3
        clear c3
        simp only [Option.some.injEq, Prod.mk.injEq] at H
        obtain ⟨rfl, rfl⟩ := H
        obtain ⟨Ao9, co9, eo9⟩ := Kd.R_slice HO_0.out
        subst eo9
        go_wp2
        go_ret
        exact ⟨qe6_, qe4_, qe0_, qe1_⟩
/-! ### laws_markAnswerS: function 91 -/
def laws_markAnswerS.l0 : Nat → List (S_Answer) → Int → Int → Option (Int × (List (S_Answer)))
  | 0, _, _, _ => none
  | k + 1, x0, x1, x5 => if x5 < (x0.length : Int) then (if 0 ≤ x5 then ((some (x0.set (x5 : Int).toNat (⟨x1, (rd_Answer x0 x5).f1, (rd_Answer x0 x5).f2, (rd_Answer x0 x5).f3⟩ : S_Answer) : List (S_Answer))).bind fun y233 => ((some (y233.set (x5 : Int).toNat (⟨(rd_Answer y233 x5).f0, wrap64 (x1 + 1), (rd_Answer y233 x5).f2, (rd_Answer y233 x5).f3⟩ : S_Answer) : List (S_Answer))).bind fun y234 => ((laws_markText.f k (wrap64 ((wrap64 (x1 + 1)) + 1))).bind fun t235 => ((some (y234.set (x5 : Int).toNat (⟨(rd_Answer y234 x5).f0, (rd_Answer y234 x5).f1, t235, (rd_Answer y234 x5).f3⟩ : S_Answer) : List (S_Answer))).bind fun y236 => ((laws_markText.f k (wrap64 ((wrap64 ((wrap64 (x1 + 1)) + 1)) + 1))).bind fun t237 => (laws_markAnswerS.l0 k (y236.set (x5 : Int).toNat (⟨(rd_Answer y236 x5).f0, (rd_Answer y236 x5).f1, (rd_Answer y236 x5).f2, t237⟩ : S_Answer)) (wrap64 ((wrap64 ((wrap64 ((wrap64 (x1 + 1)) + 1)) + 1)) + 1)) (wrap64 (x5 + 1)))))))) else (none)) else (some (x1, x0))
def laws_markAnswerS.f (k : Nat) (l0 : List (S_Answer)) (a1 : Int) : Option (Int × (List (S_Answer))) := laws_markAnswerS.l0 k l0 a1 0
theorem laws_markAnswerS.mono_l : ∀ k, (∀ y0 y1 y2, LeO (laws_markAnswerS.l0 k y0 y1 y2) (laws_markAnswerS.l0 (k + 1) y0 y1 y2))
  | 0 => fun _ _ _ r h => by simp [laws_markAnswerS.l0] at h
  | k + 1 => by
    have ih0 := laws_markAnswerS.mono_l k
    · intro y0 y1 y2
      unfold laws_markAnswerS.l0
      exact qeh0_
theorem laws_markAnswerS.mono : ∀ a0 a1 k, LeO (laws_markAnswerS.f k a0 a1) (laws_markAnswerS.f (k + 1) a0 a1) := by
  intro a0 a1 k
  have ih0 := laws_markAnswerS.mono_l k
  unfold laws_markAnswerS.f
  exact qeh0_
set_option maxHeartbeats 8000000 in
set_option maxRecDepth 100000 in
theorem laws_markAnswerS.calls (k : Nat) (P0_ : Nat → Prop) (u9000_ : Value) (l0 : List (S_Answer)) (a1 : Int) (r1 : Int) (r2 : List (S_Answer)) (w0 w : World) (hB : Below w0.heap.size w0 w) (ho0 : Kd.R k_Answer 144 w w0.heap.size P0_ u9000_ l0) (h : laws_markAnswerS.f k l0 a1 = some (r1, r2)) :
    Calls Try.prog 91 #[u9000_, .int .i64 a1] w fun e w' => e = .returned (.int .i64 r1) ∧ Kd.R k_Answer 144 w' w0.heap.size (fun k_ => (P0_ k_ ∨ w.heap.size ≤ k_)) u9000_ r2 ∧ Below w0.heap.size w0 w' ∧ Kept w w' (fun k_ => P0_ k_) := by
  have HO0 := Aside0.mk (show Kd.R k_Answer 144 w w0.heap.size (fun k_ => (P0_ k_ ∨ w.heap.size ≤ k_)) u9000_ l0 from Kd.R_mono ho0 (fun k_ hk => (.inl hk)))
  have HK := Aside0.mk (Kept.refl w (fun k_ => P0_ k_))
  have HW0 := Aside0.mk hB.size
  have HB := Aside0.mk hB
  clear hB
  have H : (laws_markAnswerS.l0 k l0 a1 0) = some (r1, r2) := h
  clear h
  have H' := Aside0.mk H
  clear H
  go_enter Try.func91, Try.ntmps91
  go_wp2
  go_loopg [1, 5] k (fun kq v1 v5 w' => ∃ (x0_1 : List (S_Answer)) (x1_1 : Int) (x5_1 : Int), v1 = .int .i64 x1_1 ∧ v5 = .int .i64 x5_1 ∧ Aside0 (laws_markAnswerS.l0 kq x0_1 x1_1 x5_1 = some (r1, r2)) ∧ Aside0 (kq ≤ k) ∧ Aside0 (Kd.R k_Answer 144 w' w0.heap.size (fun k_ => (P0_ k_ ∨ w.heap.size ≤ k_)) u9000_ x0_1) ∧ Aside0 (Kept w w' (fun k_ => P0_ k_)) ∧ Aside0 (Below w0.heap.size w0 w'))
  case atStart => exact ⟨(l0), (a1), (0), (qe3_), (qe3_), H', ⟨Nat.le_refl _⟩, ⟨qe7_⟩, ⟨qe1_⟩, ⟨qe0_⟩⟩
  case round =>
    clear H'
    try clear p2
    obtain ⟨x0_1, x1_1, x5_1, rfl, rfl, HA, HK1, HO_0, HK, HB⟩ := hrel
    cases gk with
    | zero => exact absurd HA.out (by simp [laws_markAnswerS.l0])
    | succ k1 =>
      have H := HA.out
      clear HA
      simp only [laws_markAnswerS.l0] at H
      by_cases c3 : x5_1 < (x0_1.length : Int)
      · rw [if_pos c3] at H
        have c3b0 : decide (x5_1 < (x0_1.length : Int)) = true := decide_eq_true c3
        clear c3
        by_cases c4 : 0 ≤ x5_1
        · rw [if_pos c4] at H
          have c4b0 : decide (0 ≤ x5_1) = true := decide_eq_true c4
          clear c4
          obtain ⟨y233, hy233⟩ : ∃ y_ : List (S_Answer), y_ = (x0_1.set (x5_1 : Int).toNat (⟨x1_1, (rd_Answer x0_1 x5_1).f1, (rd_Answer x0_1 x5_1).f2, (rd_Answer x0_1 x5_1).f3⟩ : S_Answer)) := ⟨_, rfl⟩
          replace H : ((some (y233.set (x5_1 : Int).toNat (⟨(rd_Answer y233 x5_1).f0, wrap64 (x1_1 + 1), (rd_Answer y233 x5_1).f2, (rd_Answer y233 x5_1).f3⟩ : S_Answer) : List (S_Answer))).bind fun y234 => ((laws_markText.f k1 (wrap64 ((wrap64 (x1_1 + 1)) + 1))).bind fun t235 => ((some (y234.set (x5_1 : Int).toNat (⟨(rd_Answer y234 x5_1).f0, (rd_Answer y234 x5_1).f1, t235, (rd_Answer y234 x5_1).f3⟩ : S_Answer) : List (S_Answer))).bind fun y236 => ((laws_markText.f k1 (wrap64 ((wrap64 ((wrap64 (x1_1 + 1)) + 1)) + 1))).bind fun t237 => (laws_markAnswerS.l0 k1 (y236.set (x5_1 : Int).toNat (⟨(rd_Answer y236 x5_1).f0, (rd_Answer y236 x5_1).f1, (rd_Answer y236 x5_1).f2, t237⟩ : S_Answer)) (wrap64 ((wrap64 ((wrap64 ((wrap64 (x1_1 + 1)) + 1)) + 1)) + 1)) (wrap64 (x5_1 + 1))))))) = some (r1, r2) := by first | (rw [hy233]; with_reducible exact H) | (have H2_ := (Option.bind_some _ _).symm.trans H; rw [hy233]; with_reducible exact H2_) | (have H2_ := (Option.bind_some _ _).symm.trans H; with_reducible exact H2_) | with_reducible exact H | (rw [hy233]; exact H) | exact H
          have Ny233 := Aside0.mk hy233
          clear hy233
          obtain ⟨y234, hy234⟩ : ∃ y_ : List (S_Answer), y_ = (y233.set (x5_1 : Int).toNat (⟨(rd_Answer y233 x5_1).f0, wrap64 (x1_1 + 1), (rd_Answer y233 x5_1).f2, (rd_Answer y233 x5_1).f3⟩ : S_Answer)) := ⟨_, rfl⟩
          replace H : ((laws_markText.f k1 (wrap64 ((wrap64 (x1_1 + 1)) + 1))).bind fun t235 => ((some (y234.set (x5_1 : Int).toNat (⟨(rd_Answer y234 x5_1).f0, (rd_Answer y234 x5_1).f1, t235, (rd_Answer y234 x5_1).f3⟩ : S_Answer) : List (S_Answer))).bind fun y236 => ((laws_markText.f k1 (wrap64 ((wrap64 ((wrap64 (x1_1 + 1)) + 1)) + 1))).bind fun t237 => (laws_markAnswerS.l0 k1 (y236.set (x5_1 : Int).toNat (⟨(rd_Answer y236 x5_1).f0, (rd_Answer y236 x5_1).f1, (rd_Answer y236 x5_1).f2, t237⟩ : S_Answer)) (wrap64 ((wrap64 ((wrap64 ((wrap64 (x1_1 + 1)) + 1)) + 1)) + 1)) (wrap64 (x5_1 + 1)))))) = some (r1, r2) := by first | (rw [hy234]; with_reducible exact H) | (have H2_ := (Option.bind_some _ _).symm.trans H; rw [hy234]; with_reducible exact H2_) | (have H2_ := (Option.bind_some _ _).symm.trans H; with_reducible exact H2_) | with_reducible exact H | (rw [hy234]; exact H) | exact H
          have Ny234 := Aside0.mk hy234
          clear hy234
          replace H := Option.bind_eq_some_iff.mp H
          obtain ⟨t235, A70, H⟩ := H
          replace H : ((some (y234.set (x5_1 : Int).toNat (⟨(rd_Answer y234 x5_1).f0, (rd_Answer y234 x5_1).f1, t235, (rd_Answer y234 x5_1).f3⟩ : S_Answer) : List (S_Answer))).bind fun y236 => ((laws_markText.f k1 (wrap64 ((wrap64 ((wrap64 (x1_1 + 1)) + 1)) + 1))).bind fun t237 => (laws_markAnswerS.l0 k1 (y236.set (x5_1 : Int).toNat (⟨(rd_Answer y236 x5_1).f0, (rd_Answer y236 x5_1).f1, (rd_Answer y236 x5_1).f2, t237⟩ : S_Answer)) (wrap64 ((wrap64 ((wrap64 ((wrap64 (x1_1 + 1)) + 1)) + 1)) + 1)) (wrap64 (x5_1 + 1))))) = some (r1, r2) := H
          have A7 := Aside0.mk A70
          clear A70
          obtain ⟨y236, hy236⟩ : ∃ y_ : List (S_Answer), y_ = (y234.set (x5_1 : Int).toNat (⟨(rd_Answer y234 x5_1).f0, (rd_Answer y234 x5_1).f1, t235, (rd_Answer y234 x5_1).f3⟩ : S_Answer)) := ⟨_, rfl⟩
          replace H : ((laws_markText.f k1 (wrap64 ((wrap64 ((wrap64 (x1_1 + 1)) + 1)) + 1))).bind fun t237 => (laws_markAnswerS.l0 k1 (y236.set (x5_1 : Int).toNat (⟨(rd_Answer y236 x5_1).f0, (rd_Answer y236 x5_1).f1, (rd_Answer y236 x5_1).f2, t237⟩ : S_Answer)) (wrap64 ((wrap64 ((wrap64 ((wrap64 (x1_1 + 1)) + 1)) + 1)) + 1)) (wrap64 (x5_1 + 1)))) = some (r1, r2) := by first | (rw [hy236]; with_reducible exact H) | (have H2_ := (Option.bind_some _ _).symm.trans H; rw [hy236]; with_reducible exact H2_) | (have H2_ := (Option.bind_some _ _).symm.trans H; with_reducible exact H2_) | with_reducible exact H | (rw [hy236]; exact H) | exact H
          have Ny236 := Aside0.mk hy236
          clear hy236
          replace H := Option.bind_eq_some_iff.mp H
          obtain ⟨t237, A90, H⟩ := H
          replace H : (laws_markAnswerS.l0 k1 (y236.set (x5_1 : Int).toNat (⟨(rd_Answer y236 x5_1).f0, (rd_Answer y236 x5_1).f1, (rd_Answer y236 x5_1).f2, t237⟩ : S_Answer)) (wrap64 ((wrap64 ((wrap64 ((wrap64 (x1_1 + 1)) + 1)) + 1)) + 1)) (wrap64 (x5_1 + 1))) = some (r1, r2) := H
          have A9 := Aside0.mk A90
          clear A90
          obtain ⟨y238, hy238⟩ : ∃ y_ : List (S_Answer), y_ = (y236.set (x5_1 : Int).toNat (⟨(rd_Answer y236 x5_1).f0, (rd_Answer y236 x5_1).f1, (rd_Answer y236 x5_1).f2, t237⟩ : S_Answer)) := ⟨_, rfl⟩
          replace H : (laws_markAnswerS.l0 k1 y238 (wrap64 ((wrap64 ((wrap64 ((wrap64 (x1_1 + 1)) + 1)) + 1)) + 1)) (wrap64 (x5_1 + 1))) = some (r1, r2) := by first | (rw [hy238]; with_reducible exact H) | (have H2_ := (Option.bind_some _ _).symm.trans H; rw [hy238]; with_reducible exact H2_) | (have H2_ := (Option.bind_some _ _).symm.trans H; with_reducible exact H2_) | with_reducible exact H | (rw [hy238]; exact H) | exact H
          have Ny238 := Aside0.mk hy238
          clear hy238
          have H' := Aside0.mk H
          clear H
          obtain ⟨Ao11, co11, eo11⟩ := Kd.R_slice HO_0.out
          subst eo11
          have p5 : 0 ≤ (x5_1 : Int) := of_decide_eq_true dt_
          have q5 : (x5_1 : Int) < ((x0_1.length : Int) : Int) := of_decide_eq_true dt_
          obtain ⟨go5, co5, eo5, gb5, gl5, cl5, HG5⟩ := Kd.R_form HO_0.out (by omega)
          (first | cases eo5 | (injection eo5 with ea_ en_ ec_; (first | subst ea_ | (injection ea_ with ea_; subst ea_)); subst ec_; clear en_))
          have GB5 := Aside0.mk gb5
          have GG5 := Aside0.mk HG5
          clear gb5 gl5 HG5
          have HMgo5 := Aside0.mk (show (P0_ go5 ∨ w.heap.size ≤ go5) from (HO_0.out.1 _ rfl))
          obtain ⟨ce5, hcl5, hM5, hcc5, hfr5⟩ := Kd.R_elem HO_0.out z_Answer (x5_1 : Int) p5 q5
          obtain rfl := k_Answer_openM hM5
          have hx5_0 : wr.cell? ⟨go5, (x5_1 : Int).toNat * 4, none⟩ = some (.int .i64 ((rd_Answer x0_1 x5_1).f0)) := hcc5 0 _ rfl
          have hx5_1 : wr.cell? ⟨go5, (x5_1 : Int).toNat * 4 + 1, none⟩ = some (.int .i64 ((rd_Answer x0_1 x5_1).f1)) := hcc5 1 _ rfl
          have hx5_2 : wr.cell? ⟨go5, (x5_1 : Int).toNat * 4 + 2, none⟩ = some (.string ((rd_Answer x0_1 x5_1).f2)) := hcc5 2 _ rfl
          have hx5_3 : wr.cell? ⟨go5, (x5_1 : Int).toNat * 4 + 3, none⟩ = some (.string ((rd_Answer x0_1 x5_1).f3)) := hcc5 3 _ rfl
          have hf5_0 : wr.frozen? ⟨go5, (x5_1 : Int).toNat * 4, none⟩ = false := hfr5 0
          have hf5_1 : wr.frozen? ⟨go5, (x5_1 : Int).toNat * 4 + 1, none⟩ = false := hfr5 1
          have hf5_2 : wr.frozen? ⟨go5, (x5_1 : Int).toNat * 4 + 2, none⟩ = false := hfr5 2
          have hf5_3 : wr.frozen? ⟨go5, (x5_1 : Int).toNat * 4 + 3, none⟩ = false := hfr5 3
          clear hcl5 hcc5 hfr5 hM5
          replace p5 := eq_true p5
          replace q5 := eq_true q5
          have HX12 := Aside0.mk (show Kd.R k_Answer 144 wr w0.heap.size (fun k_ => (P0_ k_ ∨ w.heap.size ≤ k_)) (.slice (some ⟨go5, 0, none⟩) x0_1.length co11) x0_1 from (qe4_))
          obtain ⟨ce12, hcl12, hM12, hcc12, hfr12⟩ := Kd.R_elem HX12.out z_Answer (x5_1 : Int) (of_decide_eq_true dt_) (by have h_ : (x5_1 : Int) < ((x0_1.length : Int) : Int) := of_decide_eq_true dt_; first | exact h_ | (have e_ := (Kd.R_reads' HO_0.out).1; omega) | simpa using h_)
          obtain rfl := k_Answer_openM hM12
          have HP12 := Kd.R_seg HX12.out (x5_1 : Int) (of_decide_eq_true dt_) (by have h_ : (x5_1 : Int) < ((x0_1.length : Int) : Int) := of_decide_eq_true dt_; first | exact h_ | (have e_ := (Kd.R_reads' HO_0.out).1; omega) | simpa using h_) (seg := [.int .i64 x1_1]) (j := 0) hcl12 hcc12 (show 1 ≤ 4 from by decide) (x' := (⟨x1_1, (rd_Answer x0_1 x5_1).f1, (rd_Answer x0_1 x5_1).f2, (rd_Answer x0_1 x5_1).f3⟩ : S_Answer)) (k_Answer_mkM _ _ _ (⟨x1_1, (rd_Answer x0_1 x5_1).f1, (rd_Answer x0_1 x5_1).f2, (rd_Answer x0_1 x5_1).f3⟩ : S_Answer) ) (fun _ hk => hk)
          have hx12_0 := hcc12 0 _ rfl
          (try simp only [show (k_Answer).sz = 4 from rfl, Nat.mul_one, Nat.add_zero] at hx12_0)
          have hf12_0 := hfr12 0
          (try simp only [show (k_Answer).sz = 4 from rfl, Nat.mul_one, Nat.add_zero] at hf12_0)
          clear hcl12 hcc12 hfr12 hM12
          go_wp2_with (first | ((with_reducible refine gate_store (t := 3) (p := 16) rfl ?_); refine store_event (t := 3) (p := 16) (v := ?vo_w13) (w1 := (wr.setCell ⟨go5, (x5_1 : Int).toNat * 4, none⟩ (.int .i64 x1_1))) ?hg ?ho ?hn ?hr ?_; (case ho => rfl); (case hg => rfl); (case hn => rfl); (case hr => first | (go_simp; done) | (go_simp; rfl)); intro w13 hw; have hg : wr.grownBy w13 (some go5) := (by rw [hw]; exact HP12.2); have hp_ : Kd.R k_Answer 144 w13 w0.heap.size (fun k_ => (P0_ k_ ∨ w.heap.size ≤ k_)) (.slice (some ⟨go5, 0, none⟩) x0_1.length co11) y233 := (by rw [hw, Ny233.out]; exact HP12.1); clear HP12; replace HB := Aside0.mk ((by rw [hw]; exact below_set (HB.out) GB5.out : Below w0.heap.size w0 w13)); replace HK := Aside0.mk (Kept.of_grown (S := (fun k_ => P0_ k_)) hg (qe1_) (fun k_ e_ => (HO_0.out.1 k_ e_))); replace HO_0 := Aside0.mk (hp_); clear hg hw hp_; have p6 : 0 ≤ (x5_1 : Int) := of_decide_eq_true dt_; have q6 : (x5_1 : Int) < ((x0_1.length : Int) : Int) := of_decide_eq_true dt_; obtain ⟨ce6, hcl6, hM6, hcc6, hfr6⟩ := Kd.R_elem HO_0.out z_Answer (x5_1 : Int) p6 q6; obtain rfl := k_Answer_openM hM6; have hx6_0 : w13.cell? ⟨go5, (x5_1 : Int).toNat * 4, none⟩ = some (.int .i64 ((rd_Answer y233 x5_1).f0)) := hcc6 0 _ rfl; have hx6_1 : w13.cell? ⟨go5, (x5_1 : Int).toNat * 4 + 1, none⟩ = some (.int .i64 ((rd_Answer y233 x5_1).f1)) := hcc6 1 _ rfl; have hx6_2 : w13.cell? ⟨go5, (x5_1 : Int).toNat * 4 + 2, none⟩ = some (.string ((rd_Answer y233 x5_1).f2)) := hcc6 2 _ rfl; have hx6_3 : w13.cell? ⟨go5, (x5_1 : Int).toNat * 4 + 3, none⟩ = some (.string ((rd_Answer y233 x5_1).f3)) := hcc6 3 _ rfl; have hf6_0 : w13.frozen? ⟨go5, (x5_1 : Int).toNat * 4, none⟩ = false := hfr6 0; have hf6_1 : w13.frozen? ⟨go5, (x5_1 : Int).toNat * 4 + 1, none⟩ = false := hfr6 1; have hf6_2 : w13.frozen? ⟨go5, (x5_1 : Int).toNat * 4 + 2, none⟩ = false := hfr6 2; have hf6_3 : w13.frozen? ⟨go5, (x5_1 : Int).toNat * 4 + 3, none⟩ = false := hfr6 3; clear hcl6 hcc6 hfr6 hM6; replace p6 := eq_true p6; replace q6 := eq_true q6; have HX14 := Aside0.mk (show Kd.R k_Answer 144 w13 w0.heap.size (fun k_ => (P0_ k_ ∨ w.heap.size ≤ k_)) (.slice (some ⟨go5, 0, none⟩) x0_1.length co11) y233 from (qe4_)); obtain ⟨ce14, hcl14, hM14, hcc14, hfr14⟩ := Kd.R_elem HX14.out z_Answer (x5_1 : Int) (of_decide_eq_true dt_) (by have h_ : (x5_1 : Int) < ((x0_1.length : Int) : Int) := of_decide_eq_true dt_; first | exact h_ | (have e_ := (Kd.R_reads' HO_0.out).1; omega) | simpa using h_); obtain rfl := k_Answer_openM hM14; have HP14 := Kd.R_seg HX14.out (x5_1 : Int) (of_decide_eq_true dt_) (by have h_ : (x5_1 : Int) < ((x0_1.length : Int) : Int) := of_decide_eq_true dt_; first | exact h_ | (have e_ := (Kd.R_reads' HO_0.out).1; omega) | simpa using h_) (seg := [.int .i64 (wrap64 (x1_1 + 1))]) (j := 1) hcl14 hcc14 (show 2 ≤ 4 from by decide) (x' := (⟨(rd_Answer y233 x5_1).f0, wrap64 (x1_1 + 1), (rd_Answer y233 x5_1).f2, (rd_Answer y233 x5_1).f3⟩ : S_Answer)) (k_Answer_mkM _ _ _ (⟨(rd_Answer y233 x5_1).f0, wrap64 (x1_1 + 1), (rd_Answer y233 x5_1).f2, (rd_Answer y233 x5_1).f3⟩ : S_Answer) ) (fun _ hk => hk); have hx14_1 := hcc14 1 _ rfl; (try simp only [show (k_Answer).sz = 4 from rfl, Nat.mul_one, Nat.add_zero] at hx14_1); have hf14_1 := hfr14 1; (try simp only [show (k_Answer).sz = 4 from rfl, Nat.mul_one, Nat.add_zero] at hf14_1); clear hcl14 hcc14 hfr14 hM14) | ((with_reducible refine gate_store (t := 3) (p := 23) rfl ?_); refine store_event (t := 3) (p := 23) (v := ?vo_w15) (w1 := (w13.setCell ⟨go5, (x5_1 : Int).toNat * 4 + 1, none⟩ (.int .i64 (wrap64 (x1_1 + 1))))) ?hg ?ho ?hn ?hr ?_; (case ho => rfl); (case hg => rfl); (case hn => rfl); (case hr => first | (go_simp; done) | (go_simp; rfl)); intro w15 hw; have hg : w13.grownBy w15 (some go5) := (by rw [hw]; exact HP14.2); have hp_ : Kd.R k_Answer 144 w15 w0.heap.size (fun k_ => (P0_ k_ ∨ w.heap.size ≤ k_)) (.slice (some ⟨go5, 0, none⟩) x0_1.length co11) y234 := (by rw [hw, Ny234.out]; exact HP14.1); clear HP14; replace HB := Aside0.mk ((by rw [hw]; exact below_set (HB.out) GB5.out : Below w0.heap.size w0 w15)); replace HK := Aside0.mk (Kept.of_grown (S := (fun k_ => P0_ k_)) hg (qe1_) (fun k_ e_ => (HO_0.out.1 k_ e_))); replace HO_0 := Aside0.mk (hp_); clear hg hw hp_) | ((with_reducible refine gate_callee (f := 106) rfl ?_); refine goesL_ (some 29) rfl rfl Try.func106 (by kernel_rfl) rfl #[.int .i64 (wrap64 ((wrap64 (x1_1 + 1)) + 1))] rfl (qe2_) ?_; (with_reducible refine (laws_markText.calls k1 (wrap64 ((wrap64 (x1_1 + 1)) + 1)) t235 _ A7.out).mono ?_); rintro e w16 ⟨rfl, hb⟩; refine ⟨_, rfl, ?_⟩; replace HO_0 := Aside0.mk (Kd.R_below (qe4_) hb); replace HK := Aside0.mk (Kept.below (S := (fun k_ => P0_ k_)) (qe1_) hb); replace HB := Aside0.mk (below_step (qe0_) hb); (try clear hb); (try clear hb2); (try clear hk); (try clear hi); have p8 : 0 ≤ (x5_1 : Int) := of_decide_eq_true dt_; have q8 : (x5_1 : Int) < ((x0_1.length : Int) : Int) := of_decide_eq_true dt_; obtain ⟨ce8, hcl8, hM8, hcc8, hfr8⟩ := Kd.R_elem HO_0.out z_Answer (x5_1 : Int) p8 q8; obtain rfl := k_Answer_openM hM8; have hx8_0 : w16.cell? ⟨go5, (x5_1 : Int).toNat * 4, none⟩ = some (.int .i64 ((rd_Answer y234 x5_1).f0)) := hcc8 0 _ rfl; have hx8_1 : w16.cell? ⟨go5, (x5_1 : Int).toNat * 4 + 1, none⟩ = some (.int .i64 ((rd_Answer y234 x5_1).f1)) := hcc8 1 _ rfl; have hx8_2 : w16.cell? ⟨go5, (x5_1 : Int).toNat * 4 + 2, none⟩ = some (.string ((rd_Answer y234 x5_1).f2)) := hcc8 2 _ rfl; have hx8_3 : w16.cell? ⟨go5, (x5_1 : Int).toNat * 4 + 3, none⟩ = some (.string ((rd_Answer y234 x5_1).f3)) := hcc8 3 _ rfl; have hf8_0 : w16.frozen? ⟨go5, (x5_1 : Int).toNat * 4, none⟩ = false := hfr8 0; have hf8_1 : w16.frozen? ⟨go5, (x5_1 : Int).toNat * 4 + 1, none⟩ = false := hfr8 1; have hf8_2 : w16.frozen? ⟨go5, (x5_1 : Int).toNat * 4 + 2, none⟩ = false := hfr8 2; have hf8_3 : w16.frozen? ⟨go5, (x5_1 : Int).toNat * 4 + 3, none⟩ = false := hfr8 3; clear hcl8 hcc8 hfr8 hM8; replace p8 := eq_true p8; replace q8 := eq_true q8; have HX17 := Aside0.mk (show Kd.R k_Answer 144 w16 w0.heap.size (fun k_ => (P0_ k_ ∨ w.heap.size ≤ k_)) (.slice (some ⟨go5, 0, none⟩) x0_1.length co11) y234 from (qe4_)); obtain ⟨ce17, hcl17, hM17, hcc17, hfr17⟩ := Kd.R_elem HX17.out z_Answer (x5_1 : Int) (of_decide_eq_true dt_) (by have h_ : (x5_1 : Int) < ((x0_1.length : Int) : Int) := of_decide_eq_true dt_; first | exact h_ | (have e_ := (Kd.R_reads' HO_0.out).1; omega) | simpa using h_); obtain rfl := k_Answer_openM hM17; have HP17 := Kd.R_seg HX17.out (x5_1 : Int) (of_decide_eq_true dt_) (by have h_ : (x5_1 : Int) < ((x0_1.length : Int) : Int) := of_decide_eq_true dt_; first | exact h_ | (have e_ := (Kd.R_reads' HO_0.out).1; omega) | simpa using h_) (seg := [.string t235]) (j := 2) hcl17 hcc17 (show 3 ≤ 4 from by decide) (x' := (⟨(rd_Answer y234 x5_1).f0, (rd_Answer y234 x5_1).f1, t235, (rd_Answer y234 x5_1).f3⟩ : S_Answer)) (k_Answer_mkM _ _ _ (⟨(rd_Answer y234 x5_1).f0, (rd_Answer y234 x5_1).f1, t235, (rd_Answer y234 x5_1).f3⟩ : S_Answer) ) (fun _ hk => hk); have hx17_2 := hcc17 2 _ rfl; (try simp only [show (k_Answer).sz = 4 from rfl, Nat.mul_one, Nat.add_zero] at hx17_2); have hf17_2 := hfr17 2; (try simp only [show (k_Answer).sz = 4 from rfl, Nat.mul_one, Nat.add_zero] at hf17_2); clear hcl17 hcc17 hfr17 hM17) | ((with_reducible refine gate_store (t := 9) (p := 31) rfl ?_); refine store_event (t := 9) (p := 31) (v := ?vo_w18) (w1 := (w16.setCell ⟨go5, (x5_1 : Int).toNat * 4 + 2, none⟩ (.string t235))) ?hg ?ho ?hn ?hr ?_; (case ho => rfl); (case hg => rfl); (case hn => rfl); (case hr => first | (go_simp; done) | (go_simp; rfl)); intro w18 hw; have hg : w16.grownBy w18 (some go5) := (by rw [hw]; exact HP17.2); have hp_ : Kd.R k_Answer 144 w18 w0.heap.size (fun k_ => (P0_ k_ ∨ w.heap.size ≤ k_)) (.slice (some ⟨go5, 0, none⟩) x0_1.length co11) y236 := (by rw [hw, Ny236.out]; exact HP17.1); clear HP17; replace HB := Aside0.mk ((by rw [hw]; exact below_set (HB.out) GB5.out : Below w0.heap.size w0 w18)); replace HK := Aside0.mk (Kept.of_grown (S := (fun k_ => P0_ k_)) hg (qe1_) (fun k_ e_ => (HO_0.out.1 k_ e_))); replace HO_0 := Aside0.mk (hp_); clear hg hw hp_) | ((with_reducible refine gate_callee (f := 106) rfl ?_); refine goesL_ (some 37) rfl rfl Try.func106 (by kernel_rfl) rfl #[.int .i64 (wrap64 ((wrap64 ((wrap64 (x1_1 + 1)) + 1)) + 1))] rfl (qe2_) ?_; (with_reducible refine (laws_markText.calls k1 (wrap64 ((wrap64 ((wrap64 (x1_1 + 1)) + 1)) + 1)) t237 _ A9.out).mono ?_); rintro e w19 ⟨rfl, hb⟩; refine ⟨_, rfl, ?_⟩; replace HO_0 := Aside0.mk (Kd.R_below (qe4_) hb); replace HK := Aside0.mk (Kept.below (S := (fun k_ => P0_ k_)) (qe1_) hb); replace HB := Aside0.mk (below_step (qe0_) hb); (try clear hb); (try clear hb2); (try clear hk); (try clear hi); have p10 : 0 ≤ (x5_1 : Int) := of_decide_eq_true dt_; have q10 : (x5_1 : Int) < ((x0_1.length : Int) : Int) := of_decide_eq_true dt_; obtain ⟨ce10, hcl10, hM10, hcc10, hfr10⟩ := Kd.R_elem HO_0.out z_Answer (x5_1 : Int) p10 q10; obtain rfl := k_Answer_openM hM10; have hx10_0 : w19.cell? ⟨go5, (x5_1 : Int).toNat * 4, none⟩ = some (.int .i64 ((rd_Answer y236 x5_1).f0)) := hcc10 0 _ rfl; have hx10_1 : w19.cell? ⟨go5, (x5_1 : Int).toNat * 4 + 1, none⟩ = some (.int .i64 ((rd_Answer y236 x5_1).f1)) := hcc10 1 _ rfl; have hx10_2 : w19.cell? ⟨go5, (x5_1 : Int).toNat * 4 + 2, none⟩ = some (.string ((rd_Answer y236 x5_1).f2)) := hcc10 2 _ rfl; have hx10_3 : w19.cell? ⟨go5, (x5_1 : Int).toNat * 4 + 3, none⟩ = some (.string ((rd_Answer y236 x5_1).f3)) := hcc10 3 _ rfl; have hf10_0 : w19.frozen? ⟨go5, (x5_1 : Int).toNat * 4, none⟩ = false := hfr10 0; have hf10_1 : w19.frozen? ⟨go5, (x5_1 : Int).toNat * 4 + 1, none⟩ = false := hfr10 1; have hf10_2 : w19.frozen? ⟨go5, (x5_1 : Int).toNat * 4 + 2, none⟩ = false := hfr10 2; have hf10_3 : w19.frozen? ⟨go5, (x5_1 : Int).toNat * 4 + 3, none⟩ = false := hfr10 3; clear hcl10 hcc10 hfr10 hM10; replace p10 := eq_true p10; replace q10 := eq_true q10; have HX20 := Aside0.mk (show Kd.R k_Answer 144 w19 w0.heap.size (fun k_ => (P0_ k_ ∨ w.heap.size ≤ k_)) (.slice (some ⟨go5, 0, none⟩) x0_1.length co11) y236 from (qe4_)); obtain ⟨ce20, hcl20, hM20, hcc20, hfr20⟩ := Kd.R_elem HX20.out z_Answer (x5_1 : Int) (of_decide_eq_true dt_) (by have h_ : (x5_1 : Int) < ((x0_1.length : Int) : Int) := of_decide_eq_true dt_; first | exact h_ | (have e_ := (Kd.R_reads' HO_0.out).1; omega) | simpa using h_); obtain rfl := k_Answer_openM hM20; have HP20 := Kd.R_seg HX20.out (x5_1 : Int) (of_decide_eq_true dt_) (by have h_ : (x5_1 : Int) < ((x0_1.length : Int) : Int) := of_decide_eq_true dt_; first | exact h_ | (have e_ := (Kd.R_reads' HO_0.out).1; omega) | simpa using h_) (seg := [.string t237]) (j := 3) hcl20 hcc20 (show 4 ≤ 4 from by decide) (x' := (⟨(rd_Answer y236 x5_1).f0, (rd_Answer y236 x5_1).f1, (rd_Answer y236 x5_1).f2, t237⟩ : S_Answer)) (k_Answer_mkM _ _ _ (⟨(rd_Answer y236 x5_1).f0, (rd_Answer y236 x5_1).f1, (rd_Answer y236 x5_1).f2, t237⟩ : S_Answer) ) (fun _ hk => hk); have hx20_3 := hcc20 3 _ rfl; (try simp only [show (k_Answer).sz = 4 from rfl, Nat.mul_one, Nat.add_zero] at hx20_3); have hf20_3 := hfr20 3; (try simp only [show (k_Answer).sz = 4 from rfl, Nat.mul_one, Nat.add_zero] at hf20_3); clear hcl20 hcc20 hfr20 hM20) | ((with_reducible refine gate_store (t := 9) (p := 39) rfl ?_); refine store_event (t := 9) (p := 39) (v := ?vo_w21) (w1 := (w19.setCell ⟨go5, (x5_1 : Int).toNat * 4 + 3, none⟩ (.string t237))) ?hg ?ho ?hn ?hr ?_; (case ho => rfl); (case hg => rfl); (case hn => rfl); (case hr => first | (go_simp; done) | (go_simp; rfl)); intro w21 hw; have hg : w19.grownBy w21 (some go5) := (by rw [hw]; exact HP20.2); have hp_ : Kd.R k_Answer 144 w21 w0.heap.size (fun k_ => (P0_ k_ ∨ w.heap.size ≤ k_)) (.slice (some ⟨go5, 0, none⟩) x0_1.length co11) y238 := (by rw [hw, Ny238.out]; exact HP20.1); clear HP20; replace HB := Aside0.mk ((by rw [hw]; exact below_set (HB.out) GB5.out : Below w0.heap.size w0 w21)); replace HK := Aside0.mk (Kept.of_grown (S := (fun k_ => P0_ k_)) hg (qe1_) (fun k_ e_ => (HO_0.out.1 k_ e_))); replace HO_0 := Aside0.mk (hp_); clear hg hw hp_))
          go_roundg k1
          case measure => have := HK1.out; omega
          case rel => exact ⟨(y238), (wrap64 ((wrap64 ((wrap64 ((wrap64 (x1_1 + 1)) + 1)) + 1)) + 1)), (wrap64 (x5_1 + 1)), (qe3_), (qe3_), H', ⟨by have := HK1.out; omega⟩, ⟨qe4_⟩, ⟨qe1_⟩, ⟨qe0_⟩⟩
        · rw [if_neg c4] at H
          exact absurd H (by simp)
      · rw [if_neg c3] at H
        have c3b0 : decide (x5_1 < (x0_1.length : Int)) = false := decide_eq_false c3
        clear c3
        simp only [Option.some.injEq, Prod.mk.injEq] at H
        obtain ⟨rfl, rfl⟩ := H
        obtain ⟨Ao22, co22, eo22⟩ := Kd.R_slice HO_0.out
        subst eo22
        go_wp2
        go_ret
        exact ⟨qe6_, qe4_, qe0_, qe1_⟩

/-! ### laws_heldMarkS: function 64 -/
def laws_heldMarkS.l0 : Nat → List (S_Mark) → Int → Int → Option (Int)
  | 0, _, _, _ => none
  | k + 1, x0, x1, x5 => if x5 < (x0.length : Int) then (if 0 ≤ x5 then (if ((rd_Mark x0 x5).f0) = x1 then (if ((rd_Mark x0 x5).f1) = (wrap64 (x1 + 1)) then (laws_heldMarkS.l0 k x0 (wrap64 ((wrap64 (x1 + 1)) + 1)) (wrap64 (x5 + 1))) else (some (-1))) else (some (-1))) else (none)) else (some x1)
def laws_heldMarkS.f (k : Nat) (l0 : List (S_Mark)) (a1 : Int) : Option (Int) := laws_heldMarkS.l0 k l0 a1 0
theorem laws_heldMarkS.mono_l : ∀ k, (∀ y0 y1 y2, LeO (laws_heldMarkS.l0 k y0 y1 y2) (laws_heldMarkS.l0 (k + 1) y0 y1 y2))
  | 0 => fun _ _ _ r h => by simp [laws_heldMarkS.l0] at h
  | k + 1 => by
    have ih0 := laws_heldMarkS.mono_l k
    · intro y0 y1 y2
      unfold laws_heldMarkS.l0
      exact qeh1_
theorem laws_heldMarkS.mono : ∀ a0 a1 k, LeO (laws_heldMarkS.f k a0 a1) (laws_heldMarkS.f (k + 1) a0 a1) := by
  intro a0 a1 k
  have ih0 := laws_heldMarkS.mono_l k
  unfold laws_heldMarkS.f
  exact qeh1_
set_option maxHeartbeats 8000000 in
set_option maxRecDepth 100000 in
theorem laws_heldMarkS.calls (k : Nat) (A0 : Option Addr) (c0 : Nat) (l0 : List (S_Mark)) (a1 : Int) (r : Int) (w : World) (hr0 : Kd.C k_Mark w A0 l0.length l0) (hc0 : l0.length ≤ c0) (h : laws_heldMarkS.f k l0 a1 = some r) :
    Calls Try.prog 64 #[.slice A0 l0.length c0, .int .i64 a1] w fun e w' => e = .returned (.int .i64 r) ∧ Drawn0 w w' := by
  have HR0 := Aside0.mk hr0
  have HC0 := Aside0.mk hc0
  clear hr0 hc0
  have H : (laws_heldMarkS.l0 k l0 a1 0) = some r := h
  clear h
  have H' := Aside0.mk H
  clear H
  go_enter Try.func64, Try.ntmps64
  go_wp2
  go_loopg [1, 5] k (fun kq v1 v5 w' => ∃ (x1_1 : Int) (x5_1 : Int), v1 = .int .i64 x1_1 ∧ v5 = .int .i64 x5_1 ∧ Aside0 (laws_heldMarkS.l0 kq l0 x1_1 x5_1 = some r) ∧ Aside0 (kq ≤ k) ∧ Drawn0 w w')
  case atStart => exact ⟨(a1), (0), (qe3_), (qe3_), H', ⟨Nat.le_refl _⟩, qe5_⟩
  case round =>
    clear H'
    try clear p2
    obtain ⟨x1_1, x5_1, rfl, rfl, HA, HK1, ⟨m1, rfl⟩⟩ := hrel
    cases gk with
    | zero => exact absurd HA.out (by simp [laws_heldMarkS.l0])
    | succ k1 =>
      have H := HA.out
      clear HA
      simp only [laws_heldMarkS.l0] at H
      by_cases c3 : x5_1 < (l0.length : Int)
      · rw [if_pos c3] at H
        have c3b0 : decide (x5_1 < (l0.length : Int)) = true := decide_eq_true c3
        clear c3
        by_cases c4 : 0 ≤ x5_1
        · rw [if_pos c4] at H
          have c4b0 : decide (0 ≤ x5_1) = true := decide_eq_true c4
          clear c4
          by_cases c5 : ((rd_Mark l0 x5_1).f0) = x1_1
          · rw [if_pos c5] at H
            have c5b0 : (((rd_Mark l0 x5_1).f0) == x1_1) = true := beq_iff_eq.mpr c5
            have c5b1 : (((rd_Mark l0 x5_1).f0) != x1_1) = false := bne_eq_false_iff_eq.mpr c5
            clear c5
            by_cases c6 : ((rd_Mark l0 x5_1).f1) = (wrap64 (x1_1 + 1))
            · rw [if_pos c6] at H
              have c6b0 : (((rd_Mark l0 x5_1).f1) == (wrap64 (x1_1 + 1))) = true := beq_iff_eq.mpr c6
              have c6b1 : (((rd_Mark l0 x5_1).f1) != (wrap64 (x1_1 + 1))) = false := bne_eq_false_iff_eq.mpr c6
              clear c6
              have H' := Aside0.mk H
              clear H
              have p239 : 0 ≤ (x5_1 : Int) := of_decide_eq_true dt_
              have q239 : x5_1 < (l0.length : Int) := of_decide_eq_true dt_
              obtain ⟨ad239, e239, hx239_0, hx239_1⟩ := at_Mark HR0.out x5_1 p239 q239
              cases e239
              replace p239 := eq_true p239
              replace q239 := eq_true q239
              have p240 : 0 ≤ (x5_1 : Int) := of_decide_eq_true dt_
              have q240 : x5_1 < (l0.length : Int) := of_decide_eq_true dt_
              obtain ⟨ad240, e240, hx240_0, hx240_1⟩ := at_Mark HR0.out x5_1 p240 q240
              obtain rfl : ad239 = ad240 := (by injection e240)
              replace p240 := eq_true p240
              replace q240 := eq_true q240
              go_wp2
              go_roundg k1
              case measure => have := HK1.out; omega
              case rel => exact ⟨(wrap64 ((wrap64 (x1_1 + 1)) + 1)), (wrap64 (x5_1 + 1)), (qe3_), (qe3_), H', ⟨by have := HK1.out; omega⟩, qe5_⟩
            · rw [if_neg c6] at H
              have c6b0 : (((rd_Mark l0 x5_1).f1) == (wrap64 (x1_1 + 1))) = false := beq_eq_false_iff_ne.mpr c6
              have c6b1 : (((rd_Mark l0 x5_1).f1) != (wrap64 (x1_1 + 1))) = true := bne_iff_ne.mpr c6
              obtain rfl := Option.some.inj H
              have p239 : 0 ≤ (x5_1 : Int) := of_decide_eq_true dt_
              have q239 : x5_1 < (l0.length : Int) := of_decide_eq_true dt_
              obtain ⟨ad239, e239, hx239_0, hx239_1⟩ := at_Mark HR0.out x5_1 p239 q239
              cases e239
              replace p239 := eq_true p239
              replace q239 := eq_true q239
              have p240 : 0 ≤ (x5_1 : Int) := of_decide_eq_true dt_
              have q240 : x5_1 < (l0.length : Int) := of_decide_eq_true dt_
              obtain ⟨ad240, e240, hx240_0, hx240_1⟩ := at_Mark HR0.out x5_1 p240 q240
              obtain rfl : ad239 = ad240 := (by injection e240)
              replace p240 := eq_true p240
              replace q240 := eq_true q240
              go_wp2
              go_ret
              exact ⟨qe3_, qe5_⟩
          · rw [if_neg c5] at H
            have c5b0 : (((rd_Mark l0 x5_1).f0) == x1_1) = false := beq_eq_false_iff_ne.mpr c5
            have c5b1 : (((rd_Mark l0 x5_1).f0) != x1_1) = true := bne_iff_ne.mpr c5
            obtain rfl := Option.some.inj H
            have p239 : 0 ≤ (x5_1 : Int) := of_decide_eq_true dt_
            have q239 : x5_1 < (l0.length : Int) := of_decide_eq_true dt_
            obtain ⟨ad239, e239, hx239_0, hx239_1⟩ := at_Mark HR0.out x5_1 p239 q239
            cases e239
            replace p239 := eq_true p239
            replace q239 := eq_true q239
            go_wp2
            go_ret
            exact ⟨qe3_, qe5_⟩
        · rw [if_neg c4] at H
          exact absurd H (by simp)
      · rw [if_neg c3] at H
        have c3b0 : decide (x5_1 < (l0.length : Int)) = false := decide_eq_false c3
        clear c3
        obtain rfl := Option.some.inj H
        go_wp2
        go_ret
        exact ⟨qe3_, qe5_⟩
/-! ### laws_heldMakerS: function 28 -/
def laws_heldMakerS.l0 : Nat → List (S_Maker) → Int → Int → Option (Int)
  | 0, _, _, _ => none
  | k + 1, x0, x1, x5 => if x5 < (x0.length : Int) then (if 0 ≤ x5 then (if ((rd_Maker x0 x5).f0) = x1 then (if ((rd_Maker x0 x5).f1) = (wrap64 (x1 + 1)) then (if ((rd_Maker x0 x5).f2) = (wrap64 ((wrap64 (x1 + 1)) + 1)) then (if ((rd_Maker x0 x5).f3) = (wrap64 ((wrap64 ((wrap64 (x1 + 1)) + 1)) + 1)) then ((laws_heldMarkS.f k ((rd_Maker x0 x5).f4) (wrap64 ((wrap64 ((wrap64 ((wrap64 (x1 + 1)) + 1)) + 1)) + 1))).bind fun t246 => (if t246 < 0 then (some (-1)) else (laws_heldMakerS.l0 k x0 t246 (wrap64 (x5 + 1))))) else (some (-1))) else (some (-1))) else (some (-1))) else (some (-1))) else (none)) else (some x1)
def laws_heldMakerS.f (k : Nat) (l0 : List (S_Maker)) (a1 : Int) : Option (Int) := laws_heldMakerS.l0 k l0 a1 0
theorem laws_heldMakerS.mono_l : ∀ k, (∀ y0 y1 y2, LeO (laws_heldMakerS.l0 k y0 y1 y2) (laws_heldMakerS.l0 (k + 1) y0 y1 y2))
  | 0 => fun _ _ _ r h => by simp [laws_heldMakerS.l0] at h
  | k + 1 => by
    have ih0 := laws_heldMakerS.mono_l k
    · intro y0 y1 y2
      unfold laws_heldMakerS.l0
      exact qeh2_
theorem laws_heldMakerS.mono : ∀ a0 a1 k, LeO (laws_heldMakerS.f k a0 a1) (laws_heldMakerS.f (k + 1) a0 a1) := by
  intro a0 a1 k
  have ih0 := laws_heldMakerS.mono_l k
  unfold laws_heldMakerS.f
  exact qeh2_
set_option maxHeartbeats 8000000 in
set_option maxRecDepth 100000 in
theorem laws_heldMakerS.calls (k : Nat) (A0 : Option Addr) (c0 : Nat) (l0 : List (S_Maker)) (a1 : Int) (r : Int) (w : World) (hr0 : Kd.C k_Maker w A0 l0.length l0) (hc0 : l0.length ≤ c0) (h : laws_heldMakerS.f k l0 a1 = some r) :
    Calls Try.prog 28 #[.slice A0 l0.length c0, .int .i64 a1] w fun e w' => e = .returned (.int .i64 r) ∧ Drawn0 w w' := by
  have HR0 := Aside0.mk hr0
  have HC0 := Aside0.mk hc0
  clear hr0 hc0
  have H : (laws_heldMakerS.l0 k l0 a1 0) = some r := h
  clear h
  have H' := Aside0.mk H
  clear H
  go_enter Try.func28, Try.ntmps28
  go_wp2
  go_loopg [1, 5] k (fun kq v1 v5 w' => ∃ (x1_1 : Int) (x5_1 : Int), v1 = .int .i64 x1_1 ∧ v5 = .int .i64 x5_1 ∧ Aside0 (laws_heldMakerS.l0 kq l0 x1_1 x5_1 = some r) ∧ Aside0 (kq ≤ k) ∧ Drawn0 w w')
  case atStart => exact ⟨(a1), (0), (qe3_), (qe3_), H', ⟨Nat.le_refl _⟩, qe5_⟩
  case round =>
    clear H'
    try clear c2
    try clear p2
    obtain ⟨x1_1, x5_1, rfl, rfl, HA, HK1, ⟨m1, rfl⟩⟩ := hrel
    cases gk with
    | zero => exact absurd HA.out (by simp [laws_heldMakerS.l0])
    | succ k1 =>
      have H := HA.out
      clear HA
      simp only [laws_heldMakerS.l0] at H
      by_cases c3 : x5_1 < (l0.length : Int)
      · rw [if_pos c3] at H
        have c3b0 : decide (x5_1 < (l0.length : Int)) = true := decide_eq_true c3
        clear c3
        by_cases c4 : 0 ≤ x5_1
        · rw [if_pos c4] at H
          have c4b0 : decide (0 ≤ x5_1) = true := decide_eq_true c4
          clear c4
          by_cases c5 : ((rd_Maker l0 x5_1).f0) = x1_1
          · rw [if_pos c5] at H
            have c5b0 : (((rd_Maker l0 x5_1).f0) == x1_1) = true := beq_iff_eq.mpr c5
            have c5b1 : (((rd_Maker l0 x5_1).f0) != x1_1) = false := bne_eq_false_iff_eq.mpr c5
            clear c5
            by_cases c6 : ((rd_Maker l0 x5_1).f1) = (wrap64 (x1_1 + 1))
            · rw [if_pos c6] at H
              have c6b0 : (((rd_Maker l0 x5_1).f1) == (wrap64 (x1_1 + 1))) = true := beq_iff_eq.mpr c6
              have c6b1 : (((rd_Maker l0 x5_1).f1) != (wrap64 (x1_1 + 1))) = false := bne_eq_false_iff_eq.mpr c6
              clear c6
              by_cases c7 : ((rd_Maker l0 x5_1).f2) = (wrap64 ((wrap64 (x1_1 + 1)) + 1))
              · rw [if_pos c7] at H
                have c7b0 : (((rd_Maker l0 x5_1).f2) == (wrap64 ((wrap64 (x1_1 + 1)) + 1))) = true := beq_iff_eq.mpr c7
                have c7b1 : (((rd_Maker l0 x5_1).f2) != (wrap64 ((wrap64 (x1_1 + 1)) + 1))) = false := bne_eq_false_iff_eq.mpr c7
                clear c7
                by_cases c8 : ((rd_Maker l0 x5_1).f3) = (wrap64 ((wrap64 ((wrap64 (x1_1 + 1)) + 1)) + 1))
                · rw [if_pos c8] at H
                  have c8b0 : (((rd_Maker l0 x5_1).f3) == (wrap64 ((wrap64 ((wrap64 (x1_1 + 1)) + 1)) + 1))) = true := beq_iff_eq.mpr c8
                  have c8b1 : (((rd_Maker l0 x5_1).f3) != (wrap64 ((wrap64 ((wrap64 (x1_1 + 1)) + 1)) + 1))) = false := bne_eq_false_iff_eq.mpr c8
                  clear c8
                  replace H := Option.bind_eq_some_iff.mp H
                  obtain ⟨t246, A90, H⟩ := H
                  replace H : (if t246 < 0 then (some (-1)) else (laws_heldMakerS.l0 k1 l0 t246 (wrap64 (x5_1 + 1)))) = some r := H
                  have A9 := Aside0.mk A90
                  clear A90
                  by_cases c10 : t246 < 0
                  · rw [if_pos c10] at H
                    have c10b0 : decide (t246 < 0) = true := decide_eq_true c10
                    clear c10
                    obtain rfl := Option.some.inj H
                    have p241 : 0 ≤ (x5_1 : Int) := of_decide_eq_true dt_
                    have q241 : x5_1 < (l0.length : Int) := of_decide_eq_true dt_
                    obtain ⟨ad241, A241_4, c241_4, e241, hx241_0, hx241_1, hx241_2, hx241_3, hx241_4, hl241_4, hi241_4⟩ := at_Maker HR0.out x5_1 p241 q241
                    cases e241
                    have HR241_4 := Aside0.mk hi241_4
                    have HC241_4 := Aside0.mk hl241_4
                    clear hi241_4 hl241_4
                    replace p241 := eq_true p241
                    replace q241 := eq_true q241
                    have p242 : 0 ≤ (x5_1 : Int) := of_decide_eq_true dt_
                    have q242 : x5_1 < (l0.length : Int) := of_decide_eq_true dt_
                    obtain ⟨ad242, A242_4, c242_4, e242, hx242_0, hx242_1, hx242_2, hx242_3, hx242_4, hl242_4, hi242_4⟩ := at_Maker HR0.out x5_1 p242 q242
                    obtain rfl : ad241 = ad242 := (by injection e242)
                    have HR242_4 := Aside0.mk hi242_4
                    have HC242_4 := Aside0.mk hl242_4
                    clear hi242_4 hl242_4
                    replace p242 := eq_true p242
                    replace q242 := eq_true q242
                    have ea_ := Option.some.inj (hx241_4.symm.trans hx242_4)
                    injection ea_ with ea_ en_ ec_
                    subst ea_
                    subst ec_
                    clear en_
                    have p243 : 0 ≤ (x5_1 : Int) := of_decide_eq_true dt_
                    have q243 : x5_1 < (l0.length : Int) := of_decide_eq_true dt_
                    obtain ⟨ad243, A243_4, c243_4, e243, hx243_0, hx243_1, hx243_2, hx243_3, hx243_4, hl243_4, hi243_4⟩ := at_Maker HR0.out x5_1 p243 q243
                    obtain rfl : ad241 = ad243 := (by injection e243)
                    have HR243_4 := Aside0.mk hi243_4
                    have HC243_4 := Aside0.mk hl243_4
                    clear hi243_4 hl243_4
                    replace p243 := eq_true p243
                    replace q243 := eq_true q243
                    have ea_ := Option.some.inj (hx241_4.symm.trans hx243_4)
                    injection ea_ with ea_ en_ ec_
                    subst ea_
                    subst ec_
                    clear en_
                    have p244 : 0 ≤ (x5_1 : Int) := of_decide_eq_true dt_
                    have q244 : x5_1 < (l0.length : Int) := of_decide_eq_true dt_
                    obtain ⟨ad244, A244_4, c244_4, e244, hx244_0, hx244_1, hx244_2, hx244_3, hx244_4, hl244_4, hi244_4⟩ := at_Maker HR0.out x5_1 p244 q244
                    obtain rfl : ad241 = ad244 := (by injection e244)
                    have HR244_4 := Aside0.mk hi244_4
                    have HC244_4 := Aside0.mk hl244_4
                    clear hi244_4 hl244_4
                    replace p244 := eq_true p244
                    replace q244 := eq_true q244
                    have ea_ := Option.some.inj (hx241_4.symm.trans hx244_4)
                    injection ea_ with ea_ en_ ec_
                    subst ea_
                    subst ec_
                    clear en_
                    have p245 : 0 ≤ (x5_1 : Int) := of_decide_eq_true dt_
                    have q245 : x5_1 < (l0.length : Int) := of_decide_eq_true dt_
                    obtain ⟨ad245, A245_4, c245_4, e245, hx245_0, hx245_1, hx245_2, hx245_3, hx245_4, hl245_4, hi245_4⟩ := at_Maker HR0.out x5_1 p245 q245
                    obtain rfl : ad241 = ad245 := (by injection e245)
                    have HR245_4 := Aside0.mk hi245_4
                    have HC245_4 := Aside0.mk hl245_4
                    clear hi245_4 hl245_4
                    replace p245 := eq_true p245
                    replace q245 := eq_true q245
                    have ea_ := Option.some.inj (hx241_4.symm.trans hx245_4)
                    injection ea_ with ea_ en_ ec_
                    subst ea_
                    subst ec_
                    clear en_
                    go_wp2_with (first | ((with_reducible refine gate_callee (f := 64) rfl ?_); refine goesL_ (some 54) rfl rfl Try.func64 (by kernel_rfl) rfl #[.slice A241_4 ((rd_Maker l0 x5_1).f4).length c241_4, .int .i64 (wrap64 ((wrap64 ((wrap64 ((wrap64 (x1_1 + 1)) + 1)) + 1)) + 1))] rfl (qe2_) ?_; (with_reducible refine (laws_heldMarkS.calls k1 _ _ ((rd_Maker l0 x5_1).f4) (wrap64 ((wrap64 ((wrap64 ((wrap64 (x1_1 + 1)) + 1)) + 1)) + 1)) t246 _ ?side1 ?side2 A9.out).mono ?_); (case side1 => repeat (first | exact HR245_4.out | (with_reducible refine Kd.C_alloc ?_ _) | (with_reducible refine Kd.C_drewN ?_ _) | (with_reducible refine Kd.C_drew ?_))); (case side2 => exact HC245_4.out); rintro e w' ⟨rfl, ⟨nd, rfl⟩⟩; refine ⟨_, rfl, ?_⟩))
                    go_ret
                    exact ⟨qe3_, qe5_⟩
                  · rw [if_neg c10] at H
                    have c10b0 : decide (t246 < 0) = false := decide_eq_false c10
                    clear c10
                    have H' := Aside0.mk H
                    clear H
                    have p241 : 0 ≤ (x5_1 : Int) := of_decide_eq_true dt_
                    have q241 : x5_1 < (l0.length : Int) := of_decide_eq_true dt_
                    obtain ⟨ad241, A241_4, c241_4, e241, hx241_0, hx241_1, hx241_2, hx241_3, hx241_4, hl241_4, hi241_4⟩ := at_Maker HR0.out x5_1 p241 q241
                    cases e241
                    have HR241_4 := Aside0.mk hi241_4
                    have HC241_4 := Aside0.mk hl241_4
                    clear hi241_4 hl241_4
                    replace p241 := eq_true p241
                    replace q241 := eq_true q241
                    have p242 : 0 ≤ (x5_1 : Int) := of_decide_eq_true dt_
                    have q242 : x5_1 < (l0.length : Int) := of_decide_eq_true dt_
                    obtain ⟨ad242, A242_4, c242_4, e242, hx242_0, hx242_1, hx242_2, hx242_3, hx242_4, hl242_4, hi242_4⟩ := at_Maker HR0.out x5_1 p242 q242
                    obtain rfl : ad241 = ad242 := (by injection e242)
                    have HR242_4 := Aside0.mk hi242_4
                    have HC242_4 := Aside0.mk hl242_4
                    clear hi242_4 hl242_4
                    replace p242 := eq_true p242
                    replace q242 := eq_true q242
                    have ea_ := Option.some.inj (hx241_4.symm.trans hx242_4)
                    injection ea_ with ea_ en_ ec_
                    subst ea_
                    subst ec_
                    clear en_
                    have p243 : 0 ≤ (x5_1 : Int) := of_decide_eq_true dt_
                    have q243 : x5_1 < (l0.length : Int) := of_decide_eq_true dt_
                    obtain ⟨ad243, A243_4, c243_4, e243, hx243_0, hx243_1, hx243_2, hx243_3, hx243_4, hl243_4, hi243_4⟩ := at_Maker HR0.out x5_1 p243 q243
                    obtain rfl : ad241 = ad243 := (by injection e243)
                    have HR243_4 := Aside0.mk hi243_4
                    have HC243_4 := Aside0.mk hl243_4
                    clear hi243_4 hl243_4
                    replace p243 := eq_true p243
                    replace q243 := eq_true q243
                    have ea_ := Option.some.inj (hx241_4.symm.trans hx243_4)
                    injection ea_ with ea_ en_ ec_
                    subst ea_
                    subst ec_
                    clear en_
                    have p244 : 0 ≤ (x5_1 : Int) := of_decide_eq_true dt_
                    have q244 : x5_1 < (l0.length : Int) := of_decide_eq_true dt_
                    obtain ⟨ad244, A244_4, c244_4, e244, hx244_0, hx244_1, hx244_2, hx244_3, hx244_4, hl244_4, hi244_4⟩ := at_Maker HR0.out x5_1 p244 q244
                    obtain rfl : ad241 = ad244 := (by injection e244)
                    have HR244_4 := Aside0.mk hi244_4
                    have HC244_4 := Aside0.mk hl244_4
                    clear hi244_4 hl244_4
                    replace p244 := eq_true p244
                    replace q244 := eq_true q244
                    have ea_ := Option.some.inj (hx241_4.symm.trans hx244_4)
                    injection ea_ with ea_ en_ ec_
                    subst ea_
                    subst ec_
                    clear en_
                    have p245 : 0 ≤ (x5_1 : Int) := of_decide_eq_true dt_
                    have q245 : x5_1 < (l0.length : Int) := of_decide_eq_true dt_
                    obtain ⟨ad245, A245_4, c245_4, e245, hx245_0, hx245_1, hx245_2, hx245_3, hx245_4, hl245_4, hi245_4⟩ := at_Maker HR0.out x5_1 p245 q245
                    obtain rfl : ad241 = ad245 := (by injection e245)
                    have HR245_4 := Aside0.mk hi245_4
                    have HC245_4 := Aside0.mk hl245_4
                    clear hi245_4 hl245_4
                    replace p245 := eq_true p245
                    replace q245 := eq_true q245
                    have ea_ := Option.some.inj (hx241_4.symm.trans hx245_4)
                    injection ea_ with ea_ en_ ec_
                    subst ea_
                    subst ec_
                    clear en_
                    go_wp2_with (first | ((with_reducible refine gate_callee (f := 64) rfl ?_); refine goesL_ (some 54) rfl rfl Try.func64 (by kernel_rfl) rfl #[.slice A241_4 ((rd_Maker l0 x5_1).f4).length c241_4, .int .i64 (wrap64 ((wrap64 ((wrap64 ((wrap64 (x1_1 + 1)) + 1)) + 1)) + 1))] rfl (qe2_) ?_; (with_reducible refine (laws_heldMarkS.calls k1 _ _ ((rd_Maker l0 x5_1).f4) (wrap64 ((wrap64 ((wrap64 ((wrap64 (x1_1 + 1)) + 1)) + 1)) + 1)) t246 _ ?side1 ?side2 A9.out).mono ?_); (case side1 => repeat (first | exact HR245_4.out | (with_reducible refine Kd.C_alloc ?_ _) | (with_reducible refine Kd.C_drewN ?_ _) | (with_reducible refine Kd.C_drew ?_))); (case side2 => exact HC245_4.out); rintro e w' ⟨rfl, ⟨nd, rfl⟩⟩; refine ⟨_, rfl, ?_⟩))
                    go_roundg k1
                    case measure => have := HK1.out; omega
                    case rel => exact ⟨(t246), (wrap64 (x5_1 + 1)), (qe3_), (qe3_), H', ⟨by have := HK1.out; omega⟩, qe5_⟩
                · rw [if_neg c8] at H
                  have c8b0 : (((rd_Maker l0 x5_1).f3) == (wrap64 ((wrap64 ((wrap64 (x1_1 + 1)) + 1)) + 1))) = false := beq_eq_false_iff_ne.mpr c8
                  have c8b1 : (((rd_Maker l0 x5_1).f3) != (wrap64 ((wrap64 ((wrap64 (x1_1 + 1)) + 1)) + 1))) = true := bne_iff_ne.mpr c8
                  obtain rfl := Option.some.inj H
                  have p241 : 0 ≤ (x5_1 : Int) := of_decide_eq_true dt_
                  have q241 : x5_1 < (l0.length : Int) := of_decide_eq_true dt_
                  obtain ⟨ad241, A241_4, c241_4, e241, hx241_0, hx241_1, hx241_2, hx241_3, hx241_4, hl241_4, hi241_4⟩ := at_Maker HR0.out x5_1 p241 q241
                  cases e241
                  have HR241_4 := Aside0.mk hi241_4
                  have HC241_4 := Aside0.mk hl241_4
                  clear hi241_4 hl241_4
                  replace p241 := eq_true p241
                  replace q241 := eq_true q241
                  have p242 : 0 ≤ (x5_1 : Int) := of_decide_eq_true dt_
                  have q242 : x5_1 < (l0.length : Int) := of_decide_eq_true dt_
                  obtain ⟨ad242, A242_4, c242_4, e242, hx242_0, hx242_1, hx242_2, hx242_3, hx242_4, hl242_4, hi242_4⟩ := at_Maker HR0.out x5_1 p242 q242
                  obtain rfl : ad241 = ad242 := (by injection e242)
                  have HR242_4 := Aside0.mk hi242_4
                  have HC242_4 := Aside0.mk hl242_4
                  clear hi242_4 hl242_4
                  replace p242 := eq_true p242
                  replace q242 := eq_true q242
                  have ea_ := Option.some.inj (hx241_4.symm.trans hx242_4)
                  injection ea_ with ea_ en_ ec_
                  subst ea_
                  subst ec_
                  clear en_
                  have p243 : 0 ≤ (x5_1 : Int) := of_decide_eq_true dt_
                  have q243 : x5_1 < (l0.length : Int) := of_decide_eq_true dt_
                  obtain ⟨ad243, A243_4, c243_4, e243, hx243_0, hx243_1, hx243_2, hx243_3, hx243_4, hl243_4, hi243_4⟩ := at_Maker HR0.out x5_1 p243 q243
                  obtain rfl : ad241 = ad243 := (by injection e243)
                  have HR243_4 := Aside0.mk hi243_4
                  have HC243_4 := Aside0.mk hl243_4
                  clear hi243_4 hl243_4
                  replace p243 := eq_true p243
                  replace q243 := eq_true q243
                  have ea_ := Option.some.inj (hx241_4.symm.trans hx243_4)
                  injection ea_ with ea_ en_ ec_
                  subst ea_
                  subst ec_
                  clear en_
                  have p244 : 0 ≤ (x5_1 : Int) := of_decide_eq_true dt_
                  have q244 : x5_1 < (l0.length : Int) := of_decide_eq_true dt_
                  obtain ⟨ad244, A244_4, c244_4, e244, hx244_0, hx244_1, hx244_2, hx244_3, hx244_4, hl244_4, hi244_4⟩ := at_Maker HR0.out x5_1 p244 q244
                  obtain rfl : ad241 = ad244 := (by injection e244)
                  have HR244_4 := Aside0.mk hi244_4
                  have HC244_4 := Aside0.mk hl244_4
                  clear hi244_4 hl244_4
                  replace p244 := eq_true p244
                  replace q244 := eq_true q244
                  have ea_ := Option.some.inj (hx241_4.symm.trans hx244_4)
                  injection ea_ with ea_ en_ ec_
                  subst ea_
                  subst ec_
                  clear en_
                  go_wp2
                  go_ret
                  exact ⟨qe3_, qe5_⟩
              · rw [if_neg c7] at H
                have c7b0 : (((rd_Maker l0 x5_1).f2) == (wrap64 ((wrap64 (x1_1 + 1)) + 1))) = false := beq_eq_false_iff_ne.mpr c7
                have c7b1 : (((rd_Maker l0 x5_1).f2) != (wrap64 ((wrap64 (x1_1 + 1)) + 1))) = true := bne_iff_ne.mpr c7
                obtain rfl := Option.some.inj H
                have p241 : 0 ≤ (x5_1 : Int) := of_decide_eq_true dt_
                have q241 : x5_1 < (l0.length : Int) := of_decide_eq_true dt_
                obtain ⟨ad241, A241_4, c241_4, e241, hx241_0, hx241_1, hx241_2, hx241_3, hx241_4, hl241_4, hi241_4⟩ := at_Maker HR0.out x5_1 p241 q241
                cases e241
                have HR241_4 := Aside0.mk hi241_4
                have HC241_4 := Aside0.mk hl241_4
                clear hi241_4 hl241_4
                replace p241 := eq_true p241
                replace q241 := eq_true q241
                have p242 : 0 ≤ (x5_1 : Int) := of_decide_eq_true dt_
                have q242 : x5_1 < (l0.length : Int) := of_decide_eq_true dt_
                obtain ⟨ad242, A242_4, c242_4, e242, hx242_0, hx242_1, hx242_2, hx242_3, hx242_4, hl242_4, hi242_4⟩ := at_Maker HR0.out x5_1 p242 q242
                obtain rfl : ad241 = ad242 := (by injection e242)
                have HR242_4 := Aside0.mk hi242_4
                have HC242_4 := Aside0.mk hl242_4
                clear hi242_4 hl242_4
                replace p242 := eq_true p242
                replace q242 := eq_true q242
                have ea_ := Option.some.inj (hx241_4.symm.trans hx242_4)
                injection ea_ with ea_ en_ ec_
                subst ea_
                subst ec_
                clear en_
                have p243 : 0 ≤ (x5_1 : Int) := of_decide_eq_true dt_
                have q243 : x5_1 < (l0.length : Int) := of_decide_eq_true dt_
                obtain ⟨ad243, A243_4, c243_4, e243, hx243_0, hx243_1, hx243_2, hx243_3, hx243_4, hl243_4, hi243_4⟩ := at_Maker HR0.out x5_1 p243 q243
                obtain rfl : ad241 = ad243 := (by injection e243)
                have HR243_4 := Aside0.mk hi243_4
                have HC243_4 := Aside0.mk hl243_4
                clear hi243_4 hl243_4
                replace p243 := eq_true p243
                replace q243 := eq_true q243
                have ea_ := Option.some.inj (hx241_4.symm.trans hx243_4)
                injection ea_ with ea_ en_ ec_
                subst ea_
                subst ec_
                clear en_
                go_wp2
                go_ret
                exact ⟨qe3_, qe5_⟩
            · rw [if_neg c6] at H
              have c6b0 : (((rd_Maker l0 x5_1).f1) == (wrap64 (x1_1 + 1))) = false := beq_eq_false_iff_ne.mpr c6
              have c6b1 : (((rd_Maker l0 x5_1).f1) != (wrap64 (x1_1 + 1))) = true := bne_iff_ne.mpr c6
              obtain rfl := Option.some.inj H
              have p241 : 0 ≤ (x5_1 : Int) := of_decide_eq_true dt_
              have q241 : x5_1 < (l0.length : Int) := of_decide_eq_true dt_
              obtain ⟨ad241, A241_4, c241_4, e241, hx241_0, hx241_1, hx241_2, hx241_3, hx241_4, hl241_4, hi241_4⟩ := at_Maker HR0.out x5_1 p241 q241
              cases e241
              have HR241_4 := Aside0.mk hi241_4
              have HC241_4 := Aside0.mk hl241_4
              clear hi241_4 hl241_4
              replace p241 := eq_true p241
              replace q241 := eq_true q241
              have p242 : 0 ≤ (x5_1 : Int) := of_decide_eq_true dt_
              have q242 : x5_1 < (l0.length : Int) := of_decide_eq_true dt_
              obtain ⟨ad242, A242_4, c242_4, e242, hx242_0, hx242_1, hx242_2, hx242_3, hx242_4, hl242_4, hi242_4⟩ := at_Maker HR0.out x5_1 p242 q242
              obtain rfl : ad241 = ad242 := (by injection e242)
              have HR242_4 := Aside0.mk hi242_4
              have HC242_4 := Aside0.mk hl242_4
              clear hi242_4 hl242_4
              replace p242 := eq_true p242
              replace q242 := eq_true q242
              have ea_ := Option.some.inj (hx241_4.symm.trans hx242_4)
              injection ea_ with ea_ en_ ec_
              subst ea_
              subst ec_
              clear en_
              go_wp2
              go_ret
              exact ⟨qe3_, qe5_⟩
          · rw [if_neg c5] at H
            have c5b0 : (((rd_Maker l0 x5_1).f0) == x1_1) = false := beq_eq_false_iff_ne.mpr c5
            have c5b1 : (((rd_Maker l0 x5_1).f0) != x1_1) = true := bne_iff_ne.mpr c5
            obtain rfl := Option.some.inj H
            have p241 : 0 ≤ (x5_1 : Int) := of_decide_eq_true dt_
            have q241 : x5_1 < (l0.length : Int) := of_decide_eq_true dt_
            obtain ⟨ad241, A241_4, c241_4, e241, hx241_0, hx241_1, hx241_2, hx241_3, hx241_4, hl241_4, hi241_4⟩ := at_Maker HR0.out x5_1 p241 q241
            cases e241
            have HR241_4 := Aside0.mk hi241_4
            have HC241_4 := Aside0.mk hl241_4
            clear hi241_4 hl241_4
            replace p241 := eq_true p241
            replace q241 := eq_true q241
            go_wp2
            go_ret
            exact ⟨qe3_, qe5_⟩
        · rw [if_neg c4] at H
          exact absurd H (by simp)
      · rw [if_neg c3] at H
        have c3b0 : decide (x5_1 < (l0.length : Int)) = false := decide_eq_false c3
        clear c3
        obtain rfl := Option.some.inj H
        go_wp2
        go_ret
        exact ⟨qe3_, qe5_⟩
/-! ### laws_heldItemS: function 72 -/
mutual
def laws_heldItemS.l0 : Nat → List (S_Item) → Int → Int → Option (Int)
  | 0, _, _, _ => none
  | k + 1, x0, x1, x5 => if x5 < (x0.length : Int) then (laws_heldItemS.j1 k x0 x1 x5) else (some x1)
def laws_heldItemS.j1 : Nat → List (S_Item) → Int → Int → Option (Int)
  | 0, _, _, _ => none
  | k + 1, x0, x1, x5 => if 0 ≤ x5 then (if x5 < (x0.length : Int) then (if ((rd_Item x0 x5).f0) = x1 then (laws_heldItemS.j2 k x0 x1 x5) else (some (-1))) else (none)) else (none)
def laws_heldItemS.j2 : Nat → List (S_Item) → Int → Int → Option (Int)
  | 0, _, _, _ => none
  | k + 1, x0, x1, x5 => if 0 ≤ x5 then (if x5 < (x0.length : Int) then ((laws_markText.f k (wrap64 (x1 + 1))).bind fun t249 => (if ((rd_Item x0 x5).f1).toList = t249.toList then (laws_heldItemS.j3 k x0 (wrap64 (x1 + 1)) x5) else (some (-1)))) else (none)) else (none)
def laws_heldItemS.j3 : Nat → List (S_Item) → Int → Int → Option (Int)
  | 0, _, _, _ => none
  | k + 1, x0, x1, x5 => if 0 ≤ x5 then (if x5 < (x0.length : Int) then ((laws_markText.f k (wrap64 (x1 + 1))).bind fun t251 => (if ((rd_Item x0 x5).f2).toList = t251.toList then (laws_heldItemS.j4 k x0 (wrap64 (x1 + 1)) x5) else (some (-1)))) else (none)) else (none)
def laws_heldItemS.j4 : Nat → List (S_Item) → Int → Int → Option (Int)
  | 0, _, _, _ => none
  | k + 1, x0, x1, x5 => if 0 ≤ x5 then (if x5 < (x0.length : Int) then (if ((rd_Item x0 x5).f3) = (wrap64 (x1 + 1)) then (if ((rd_Item x0 x5).f4) = (wrap64 ((wrap64 (x1 + 1)) + 1)) then (laws_heldItemS.l0 k x0 (wrap64 ((wrap64 ((wrap64 (x1 + 1)) + 1)) + 1)) (wrap64 (x5 + 1))) else (some (-1))) else (some (-1))) else (none)) else (none)
end
def laws_heldItemS.f (k : Nat) (l0 : List (S_Item)) (a1 : Int) : Option (Int) := laws_heldItemS.l0 k l0 a1 0
theorem laws_heldItemS.mono_l : ∀ k, (∀ y0 y1 y2, LeO (laws_heldItemS.l0 k y0 y1 y2) (laws_heldItemS.l0 (k + 1) y0 y1 y2)) ∧ (∀ y0 y1 y2, LeO (laws_heldItemS.j1 k y0 y1 y2) (laws_heldItemS.j1 (k + 1) y0 y1 y2)) ∧ (∀ y0 y1 y2, LeO (laws_heldItemS.j2 k y0 y1 y2) (laws_heldItemS.j2 (k + 1) y0 y1 y2)) ∧ (∀ y0 y1 y2, LeO (laws_heldItemS.j3 k y0 y1 y2) (laws_heldItemS.j3 (k + 1) y0 y1 y2)) ∧ (∀ y0 y1 y2, LeO (laws_heldItemS.j4 k y0 y1 y2) (laws_heldItemS.j4 (k + 1) y0 y1 y2))
  | 0 => ⟨fun _ _ _ r h => by simp [laws_heldItemS.l0] at h, fun _ _ _ r h => by simp [laws_heldItemS.j1] at h, fun _ _ _ r h => by simp [laws_heldItemS.j2] at h, fun _ _ _ r h => by simp [laws_heldItemS.j3] at h, fun _ _ _ r h => by simp [laws_heldItemS.j4] at h⟩
  | k + 1 => by
    obtain ⟨ih0, ih1, ih2, ih3, ih4⟩ := laws_heldItemS.mono_l k
    refine ⟨?_, ?_, ?_, ?_, ?_⟩
    · intro y0 y1 y2
      unfold laws_heldItemS.l0
      exact qeh3_
    · intro y0 y1 y2
      unfold laws_heldItemS.j1
      exact qeh3_
    · intro y0 y1 y2
      unfold laws_heldItemS.j2
      exact qeh3_
    · intro y0 y1 y2
      unfold laws_heldItemS.j3
      exact qeh3_
    · intro y0 y1 y2
      unfold laws_heldItemS.j4
      exact qeh3_
theorem laws_heldItemS.mono : ∀ a0 a1 k, LeO (laws_heldItemS.f k a0 a1) (laws_heldItemS.f (k + 1) a0 a1) := by
  intro a0 a1 k
  obtain ⟨ih0, ih1, ih2, ih3, ih4⟩ := laws_heldItemS.mono_l k
  unfold laws_heldItemS.f
  exact qeh3_
def laws_heldItemS.T7 : Bool × List (List Nat × List Nat) := (true, [([], []), ([], []), ([0, 1], [0, 1]), ([2], [2]), ([3], [3]), ([], []), ([5], [5]), ([4, 6], [4, 6])])
def laws_heldItemS.B7 : List Nat := [0, 0, 3, 7, 15, 0, 32, 127]
theorem laws_heldItemS.tab7 : rtab .any (opsOf Try.f72 7) = laws_heldItemS.T7 := by kernel_rfl
theorem laws_heldItemS.bits7 : waitsOk laws_heldItemS.T7.2 laws_heldItemS.B7 = true := by kernel_rfl
def laws_heldItemS.T10 : Bool × List (List Nat × List Nat) := (true, [([], []), ([], []), ([0, 1], [0, 1]), ([2], [2]), ([3], [3]), ([], []), ([5], [5]), ([4, 6], [4, 6])])
def laws_heldItemS.B10 : List Nat := [0, 0, 3, 7, 15, 0, 32, 127]
theorem laws_heldItemS.tab10 : rtab .any (opsOf Try.f72 10) = laws_heldItemS.T10 := by kernel_rfl
theorem laws_heldItemS.bits10 : waitsOk laws_heldItemS.T10.2 laws_heldItemS.B10 = true := by kernel_rfl
set_option maxHeartbeats 8000000 in
set_option maxRecDepth 100000 in
theorem laws_heldItemS.calls (k : Nat) (A0 : Option Addr) (c0 : Nat) (l0 : List (S_Item)) (a1 : Int) (r : Int) (w : World) (hr0 : Kd.C k_Item w A0 l0.length l0) (hc0 : l0.length ≤ c0) (h : laws_heldItemS.f k l0 a1 = some r) :
    Calls Try.prog 72 #[.slice A0 l0.length c0, .int .i64 a1] w fun e w' => e = .returned (.int .i64 r) ∧ Below w.heap.size w w' := by
  have HR0 := Aside0.mk hr0
  have HC0 := Aside0.mk hc0
  clear hr0 hc0
  have HB := Aside0.mk (Below.refl w.heap.size w)
  have H : (laws_heldItemS.l0 k l0 a1 0) = some r := h
  clear h
  have H' := Aside0.mk H
  clear H
  go_enter Try.func72, Try.ntmps72
  go_wp2
  go_loopg [1, 5] k (fun kq v1 v5 w' => ∃ (x1_1 : Int) (x5_1 : Int), v1 = .int .i64 x1_1 ∧ v5 = .int .i64 x5_1 ∧ Aside0 (laws_heldItemS.l0 kq l0 x1_1 x5_1 = some r) ∧ Aside0 (kq ≤ k) ∧ Aside0 (Below w.heap.size w w'))
  case atStart => exact ⟨(a1), (0), (qe3_), (qe3_), H', ⟨Nat.le_refl _⟩, ⟨qe0_⟩⟩
  case round =>
    clear H'
    try clear p2
    obtain ⟨x1_1, x5_1, rfl, rfl, HA, HK1, HB⟩ := hrel
    cases gk with
    | zero => exact absurd HA.out (by simp [laws_heldItemS.l0])
    | succ k1 =>
      have H := HA.out
      clear HA
      simp only [laws_heldItemS.l0] at H
      have HC3 := Aside0.mk H
      clear H
      go_upto_if 9 with (fail)
      go_cut [] (fun wc => ∃ (kq : Nat), Aside0 (laws_heldItemS.j1 kq l0 x1_1 x5_1 = some r) ∧ Aside0 (kq ≤ k1) ∧ Aside0 (Below w.heap.size w wc))
      case first =>
        have H := HC3.out
        clear HC3
        by_cases c4 : x5_1 < (l0.length : Int)
        · rw [if_pos c4] at H
          have c4b0 : decide (x5_1 < (l0.length : Int)) = true := decide_eq_true c4
          clear c4
          (first | rw [c4b0] | (simp only [i64_w, i32_w]; rw [c4b0]) | rw [c4b4] | rw [c4b3] | skip)
          have H' := Aside0.mk H
          clear H
          go_wp2
          go_meet
          case rel => exact ⟨_, H', ⟨by have := HK1.out; first | omega | exact Nat.le_refl _⟩, ⟨qe0_⟩⟩
        · rw [if_neg c4] at H
          have c4b0 : decide (x5_1 < (l0.length : Int)) = false := decide_eq_false c4
          clear c4
          (first | rw [c4b0] | (simp only [i64_w, i32_w]; rw [c4b0]) | rw [c4b4] | rw [c4b3] | skip)
          obtain rfl := Option.some.inj H
          go_wp2
          go_ret
          exact ⟨qe6_, qe0_⟩
      case rest =>
        clear HC3
        try clear p2
        try clear c4
        try clear c4b0
        try clear p2
        obtain ⟨kq, HA, HJ2, HB⟩ := hcut
        cases kq with
        | zero => exact absurd HA.out (by simp [laws_heldItemS.j1])
        | succ kj2 =>
          have H := HA.out
          clear HA
          simp only [laws_heldItemS.j1] at H
          by_cases c5 : 0 ≤ x5_1
          · rw [if_pos c5] at H
            have c5b0 : decide (0 ≤ x5_1) = true := decide_eq_true c5
            clear c5
            by_cases c6 : x5_1 < (l0.length : Int)
            · rw [if_pos c6] at H
              have c6b0 : decide (x5_1 < (l0.length : Int)) = true := decide_eq_true c6
              clear c6
              have HC7 := Aside0.mk H
              clear H
              have p247 : 0 ≤ (x5_1 : Int) := of_decide_eq_true dt_
              have q247 : x5_1 < (l0.length : Int) := of_decide_eq_true dt_
              obtain ⟨ad247, e247, hx247_0, hx247_1, hx247_2, hx247_3, hx247_4⟩ := at_Item HR0.out x5_1 p247 q247
              cases e247
              replace hx247_0 := hc_ HB hx247_0
              replace hx247_1 := hc_ HB hx247_1
              replace hx247_2 := hc_ HB hx247_2
              replace hx247_3 := hc_ HB hx247_3
              replace hx247_4 := hc_ HB hx247_4
              replace p247 := eq_true p247
              replace q247 := eq_true q247
              go_upto_if 18 with (fail)
              go_cut [] (fun wc => ∃ (kq : Nat), Aside0 (laws_heldItemS.j2 kq l0 x1_1 x5_1 = some r) ∧ Aside0 (kq ≤ kj2) ∧ Aside0 (Below w.heap.size w wc))
              case first =>
                have H := HC7.out
                clear HC7
                by_cases c8 : ((rd_Item l0 x5_1).f0) = x1_1
                · rw [if_pos c8] at H
                  have c8b0 : (((rd_Item l0 x5_1).f0) == x1_1) = true := beq_iff_eq.mpr c8
                  have c8b1 : (((rd_Item l0 x5_1).f0) != x1_1) = false := bne_eq_false_iff_eq.mpr c8
                  clear c8
                  (first | rw [c8b0] | (simp only [i64_w, i32_w]; rw [c8b0]) | rw [c8b4] | rw [c8b3] | skip)
                  have H' := Aside0.mk H
                  clear H
                  go_wp2
                  go_meet
                  case rel => exact ⟨_, H', ⟨by have := HK1.out; have := HJ2.out; first | omega | exact Nat.le_refl _⟩, ⟨qe0_⟩⟩
                · rw [if_neg c8] at H
                  have c8b0 : (((rd_Item l0 x5_1).f0) == x1_1) = false := beq_eq_false_iff_ne.mpr c8
                  have c8b1 : (((rd_Item l0 x5_1).f0) != x1_1) = true := bne_iff_ne.mpr c8
                  (first | rw [c8b0] | (simp only [i64_w, i32_w]; rw [c8b0]) | rw [c8b4] | rw [c8b3] | skip)
                  obtain rfl := Option.some.inj H
                  go_wp2
                  go_ret
                  exact ⟨qe6_, qe0_⟩
              case rest =>
                clear HC7
                try clear p2
                try clear q2
                try clear hx2
                try clear c4
                try clear c4b0
                try clear c5
                try clear c5b0
                try clear c6
                try clear c6b0
                try clear c7
                try clear c8
                try clear c8b0
                try clear c8b1
                try clear hx247_0
                try clear hx247_1
                try clear hx247_2
                try clear hx247_3
                try clear hx247_4
                try clear p2
                try clear p247
                try clear q247
                obtain ⟨kq, HA, HJ6, HB⟩ := hcut
                cases kq with
                | zero => exact absurd HA.out (by simp [laws_heldItemS.j2])
                | succ kj6 =>
                  have H := HA.out
                  clear HA
                  simp only [laws_heldItemS.j2] at H
                  by_cases c9 : 0 ≤ x5_1
                  · rw [if_pos c9] at H
                    have c9b0 : decide (0 ≤ x5_1) = true := decide_eq_true c9
                    clear c9
                    by_cases c10 : x5_1 < (l0.length : Int)
                    · rw [if_pos c10] at H
                      have c10b0 : decide (x5_1 < (l0.length : Int)) = true := decide_eq_true c10
                      clear c10
                      replace H := Option.bind_eq_some_iff.mp H
                      obtain ⟨t249, A110, H⟩ := H
                      replace H : (if ((rd_Item l0 x5_1).f1).toList = t249.toList then (laws_heldItemS.j3 kj6 l0 (wrap64 (x1_1 + 1)) x5_1) else (some (-1))) = some r := H
                      have A11 := Aside0.mk A110
                      clear A110
                      have HC12 := Aside0.mk H
                      clear H
                      try go_wp2
                      replace HB := Aside0.mk (below_drew1 HB.out)
                      have p248 : 0 ≤ (x5_1 : Int) := of_decide_eq_true dt_
                      have q248 : x5_1 < (l0.length : Int) := of_decide_eq_true dt_
                      obtain ⟨ad248, e248, hx248_0, hx248_1, hx248_2, hx248_3, hx248_4⟩ := at_Item HR0.out x5_1 p248 q248
                      have hw248_4 := hx248_4
                      have hw248_3 := hx248_3
                      have hw248_2 := hx248_2
                      have hw248_1 := hx248_1
                      have hw248_0 := hx248_0
                      obtain rfl : ad247 = ad248 := (by injection e248)
                      replace hx248_0 := hc_ HB hx248_0
                      replace hx248_1 := hc_ HB hx248_1
                      replace hx248_2 := hc_ HB hx248_2
                      replace hx248_3 := hc_ HB hx248_3
                      replace hx248_4 := hc_ HB hx248_4
                      replace p248 := eq_true p248
                      replace q248 := eq_true q248
                      refine start_ (n := 8) (S := fun w' => w'.cell? (ad247.add ((x5_1).toNat * 5)) = some (.int .i64 ((rd_Item l0 x5_1).f0)) ∧ w'.cell? ⟨(ad247.add ((x5_1).toNat * 5)).block, (ad247.add ((x5_1).toNat * 5)).off + 1, none⟩ = some (.string ((rd_Item l0 x5_1).f1)) ∧ w'.cell? ⟨(ad247.add ((x5_1).toNat * 5)).block, (ad247.add ((x5_1).toNat * 5)).off + 2, none⟩ = some (.string ((rd_Item l0 x5_1).f2)) ∧ w'.cell? ⟨(ad247.add ((x5_1).toNat * 5)).block, (ad247.add ((x5_1).toNat * 5)).off + 3, none⟩ = some (.int .i64 ((rd_Item l0 x5_1).f3)) ∧ w'.cell? ⟨(ad247.add ((x5_1).toNat * 5)).block, (ad247.add ((x5_1).toNat * 5)).off + 4, none⟩ = some (.int .i64 ((rd_Item l0 x5_1).f4))) (ds := []) #[false, false, false, false, false, false, false, false] (by kernel_rfl) rfl rfl ⟨(hd_ HB hw248_0), (hd_ HB hw248_1), (hd_ HB hw248_2), (hd_ HB hw248_3), (hd_ HB hw248_4)⟩ (fun hHeld => ?_); refine with_tabW laws_heldItemS.tab7 laws_heldItemS.bits7 (fun HT_ HW_ => ?_)
                      generalize wc.drew = w13 at HB hx248_0 hx248_1 hx248_2 hx248_3 hx248_4 hHeld ⊢
                      refine pure_ (i := 0) (N := some 21) (v := ?_) (a' := ?_) #[true, false, false, false, false, false, false, false] rfl rfl (any_of HT_.out (by kernel_rfl)) (fun _ _ _ h => h) (Or.inl ⟨by rfl, ?_⟩) ?_ ?_
                      rotate_left
                      · intro w'
                        go_simp
                        with_reducible rfl
                      rotate_left
                      · simp only [Act.put, List.setIfInBounds_toArray, List.set_cons_zero, List.set_cons_succ, i64_w, i32_w]
                        rfl
                      refine pure_ (i := 1) (N := some 22) (v := ?_) (a' := ?_) #[true, true, false, false, false, false, false, false] rfl rfl (any_of HT_.out (by kernel_rfl)) (fun _ _ _ h => h) (Or.inl ⟨by rfl, ?_⟩) ?_ ?_
                      rotate_left
                      · intro w'
                        go_simp
                        with_reducible rfl
                      rotate_left
                      · simp only [Act.put, List.setIfInBounds_toArray, List.set_cons_zero, List.set_cons_succ, i64_w, i32_w]
                        rfl
                      refine pure_ (i := 2) (N := some 23) (v := ?_) (a' := ?_) #[true, true, true, false, false, false, false, false] rfl rfl (any_of HT_.out (by kernel_rfl)) (fun _ _ _ h => h) (Or.inl ⟨by rfl, ?_⟩) ?_ ?_
                      rotate_left
                      · intro w'
                        go_simp
                        with_reducible rfl
                      rotate_left
                      · simp only [Act.put, List.setIfInBounds_toArray, List.set_cons_zero, List.set_cons_succ, i64_w, i32_w]
                        rfl
                      refine pure_ (i := 3) (N := some 24) (v := ?_) (a' := ?_) #[true, true, true, true, false, false, false, false] rfl rfl (any_of HT_.out (by kernel_rfl)) (fun _ _ _ h => h) (Or.inl ⟨by rfl, ?_⟩) ?_ ?_
                      rotate_left
                      · intro w'
                        go_simp
                        with_reducible rfl
                      rotate_left
                      · simp only [Act.put, List.setIfInBounds_toArray, List.set_cons_zero, List.set_cons_succ, i64_w, i32_w]
                        rfl
                      refine pure_ (i := 5) (N := some 26) (v := ?_) (a' := ?_) #[true, true, true, true, false, true, false, false] rfl rfl (any_of HT_.out (by kernel_rfl)) (fun _ _ _ h => h) (Or.inl ⟨by rfl, ?_⟩) ?_ ?_
                      rotate_left
                      · intro w'
                        go_simp
                        with_reducible rfl
                      rotate_left
                      · simp only [Act.put, List.setIfInBounds_toArray, List.set_cons_zero, List.set_cons_succ, i64_w, i32_w]
                        rfl
                      refine take_ (i := 4) (N := some 25) (v := ?_) (a' := ?_) #[true, true, true, true, true, true, false, false] rfl rfl (take_ofW HT_.out HW_.out (by kernel_rfl)) (fun _ _ _ h => h) (Or.inl ⟨by rfl, ?_⟩) hHeld ?_ ?_
                      rotate_left
                      · rintro w' ⟨s0, s1, s2, s3, s4⟩
                        go_simp
                        with_reducible rfl
                      rotate_left
                      · simp only [Act.put, List.setIfInBounds_toArray, List.set_cons_zero, List.set_cons_succ, i64_w, i32_w]
                        rfl
                      refine on_ 6 27 HT_ #[true, true, true, true, true, true, true, false] rfl rfl (fun K hK => ?_)
                      refine goes_ Try.func106 (by kernel_rfl) rfl #[.int .i64 (wrap64 (x1_1 + 1))] (by rfl) rfl rfl (qe2_) ?_
                      with_reducible refine (laws_markText.calls kj6 (wrap64 (x1_1 + 1)) t249 _ A11.out).mono ?_
                      rintro e w14 ⟨rfl, hb⟩
                      refine ⟨_, rfl, ?_⟩
                      replace HB := Aside0.mk (below_step (qe0_) hb)
                      (try clear hb)
                      refine hK.out _ _ ⟨(hd_ HB hw248_0), (hd_ HB hw248_1), (hd_ HB hw248_2), (hd_ HB hw248_3), (hd_ HB hw248_4)⟩ (fun hHeld => ?_)
                      clear hK K
                      refine norm_ (a' := ?_) ?_ ?_
                      rotate_left
                      · show Act.put _ (some 27) _ = _
                        simp only [Act.put, List.setIfInBounds_toArray, List.set_cons_zero, List.set_cons_succ, i64_w, i32_w]
                        rfl
                      refine pure_ (i := 7) (N := some 28) (v := ?_) (a' := ?_) #[true, true, true, true, true, true, true, true] rfl rfl (any_of HT_.out (by kernel_rfl)) (fun _ _ _ h => h) (Or.inl ⟨by rfl, ?_⟩) ?_ ?_
                      rotate_left
                      · intro w'
                        go_simp
                        with_reducible rfl
                      rotate_left
                      · simp only [Act.put, List.setIfInBounds_toArray, List.set_cons_zero, List.set_cons_succ, i64_w, i32_w]
                        rfl
                      refine done_ (done_of HT_.out (by kernel_rfl)) ?_
                      go_upto_if 28 with (fail)
                      go_cut [] (fun wc => ∃ (kq : Nat), Aside0 (laws_heldItemS.j3 kq l0 (wrap64 (x1_1 + 1)) x5_1 = some r) ∧ Aside0 (kq ≤ kj6) ∧ Aside0 (Below w.heap.size w wc))
                      case first =>
                        have H := HC12.out
                        clear HC12
                        by_cases c15 : ((rd_Item l0 x5_1).f1).toList = t249.toList
                        · rw [if_pos c15] at H
                          have c15b0 : (((rd_Item l0 x5_1).f1).toList == t249.toList) = true := beq_iff_eq.mpr c15
                          have c15b1 : (((rd_Item l0 x5_1).f1).toList != t249.toList) = false := bne_eq_false_iff_eq.mpr c15
                          clear c15
                          (first | rw [c15b0] | (simp only [i64_w, i32_w]; rw [c15b0]) | rw [c15b4] | rw [c15b3] | skip)
                          have H' := Aside0.mk H
                          clear H
                          go_wp2
                          go_meet
                          case rel => exact ⟨_, H', ⟨by have := HK1.out; have := HJ2.out; have := HJ6.out; first | omega | exact Nat.le_refl _⟩, ⟨qe0_⟩⟩
                        · rw [if_neg c15] at H
                          have c15b0 : (((rd_Item l0 x5_1).f1).toList == t249.toList) = false := beq_eq_false_iff_ne.mpr c15
                          have c15b1 : (((rd_Item l0 x5_1).f1).toList != t249.toList) = true := bne_iff_ne.mpr c15
                          (first | rw [c15b0] | (simp only [i64_w, i32_w]; rw [c15b0]) | rw [c15b4] | rw [c15b3] | skip)
                          obtain rfl := Option.some.inj H
                          go_wp2
                          go_ret
                          exact ⟨qe6_, qe0_⟩
                      case rest =>
                        clear HC12
                        try clear c1
                        try clear p2
                        try clear q2
                        try clear hx2
                        try clear c4
                        try clear c4b0
                        try clear c5
                        try clear c5b0
                        try clear c6
                        try clear c6b0
                        try clear p6
                        try clear c7
                        try clear c8
                        try clear c8b0
                        try clear c8b1
                        try clear c9
                        try clear c9b0
                        try clear c10
                        try clear c10b0
                        try clear c15
                        try clear c15b0
                        try clear c15b1
                        try clear hx247_0
                        try clear hx247_1
                        try clear hx247_2
                        try clear hx247_3
                        try clear hx247_4
                        try clear hx248_0
                        try clear hx248_1
                        try clear hx248_2
                        try clear hx248_3
                        try clear hx248_4
                        try clear p2
                        try clear p247
                        try clear p248
                        try clear q2
                        try clear q247
                        try clear q248
                        obtain ⟨kq, HA, HJ11, HB⟩ := hcut
                        cases kq with
                        | zero => exact absurd HA.out (by simp [laws_heldItemS.j3])
                        | succ kj11 =>
                          have H := HA.out
                          clear HA
                          simp only [laws_heldItemS.j3] at H
                          by_cases c16 : 0 ≤ x5_1
                          · rw [if_pos c16] at H
                            have c16b0 : decide (0 ≤ x5_1) = true := decide_eq_true c16
                            clear c16
                            by_cases c17 : x5_1 < (l0.length : Int)
                            · rw [if_pos c17] at H
                              have c17b0 : decide (x5_1 < (l0.length : Int)) = true := decide_eq_true c17
                              clear c17
                              replace H := Option.bind_eq_some_iff.mp H
                              obtain ⟨t251, A180, H⟩ := H
                              replace H : (if ((rd_Item l0 x5_1).f2).toList = t251.toList then (laws_heldItemS.j4 kj11 l0 (wrap64 ((wrap64 (x1_1 + 1)) + 1)) x5_1) else (some (-1))) = some r := H
                              have A18 := Aside0.mk A180
                              clear A180
                              have HC19 := Aside0.mk H
                              clear H
                              try go_wp2
                              replace HB := Aside0.mk (below_drew1 HB.out)
                              have p250 : 0 ≤ (x5_1 : Int) := of_decide_eq_true dt_
                              have q250 : x5_1 < (l0.length : Int) := of_decide_eq_true dt_
                              obtain ⟨ad250, e250, hx250_0, hx250_1, hx250_2, hx250_3, hx250_4⟩ := at_Item HR0.out x5_1 p250 q250
                              have hw250_4 := hx250_4
                              have hw250_3 := hx250_3
                              have hw250_2 := hx250_2
                              have hw250_1 := hx250_1
                              have hw250_0 := hx250_0
                              obtain rfl : ad247 = ad250 := (by injection e250)
                              replace hx250_0 := hc_ HB hx250_0
                              replace hx250_1 := hc_ HB hx250_1
                              replace hx250_2 := hc_ HB hx250_2
                              replace hx250_3 := hc_ HB hx250_3
                              replace hx250_4 := hc_ HB hx250_4
                              replace p250 := eq_true p250
                              replace q250 := eq_true q250
                              refine start_ (n := 8) (S := fun w' => w'.cell? (ad247.add ((x5_1).toNat * 5)) = some (.int .i64 ((rd_Item l0 x5_1).f0)) ∧ w'.cell? ⟨(ad247.add ((x5_1).toNat * 5)).block, (ad247.add ((x5_1).toNat * 5)).off + 1, none⟩ = some (.string ((rd_Item l0 x5_1).f1)) ∧ w'.cell? ⟨(ad247.add ((x5_1).toNat * 5)).block, (ad247.add ((x5_1).toNat * 5)).off + 2, none⟩ = some (.string ((rd_Item l0 x5_1).f2)) ∧ w'.cell? ⟨(ad247.add ((x5_1).toNat * 5)).block, (ad247.add ((x5_1).toNat * 5)).off + 3, none⟩ = some (.int .i64 ((rd_Item l0 x5_1).f3)) ∧ w'.cell? ⟨(ad247.add ((x5_1).toNat * 5)).block, (ad247.add ((x5_1).toNat * 5)).off + 4, none⟩ = some (.int .i64 ((rd_Item l0 x5_1).f4))) (ds := []) #[false, false, false, false, false, false, false, false] (by kernel_rfl) rfl rfl ⟨(hd_ HB hw250_0), (hd_ HB hw250_1), (hd_ HB hw250_2), (hd_ HB hw250_3), (hd_ HB hw250_4)⟩ (fun hHeld => ?_); refine with_tabW laws_heldItemS.tab10 laws_heldItemS.bits10 (fun HT_ HW_ => ?_)
                              generalize wc.drew = w20 at HB hx250_0 hx250_1 hx250_2 hx250_3 hx250_4 hHeld ⊢
                              refine pure_ (i := 0) (N := some 31) (v := ?_) (a' := ?_) #[true, false, false, false, false, false, false, false] rfl rfl (any_of HT_.out (by kernel_rfl)) (fun _ _ _ h => h) (Or.inl ⟨by rfl, ?_⟩) ?_ ?_
                              rotate_left
                              · intro w'
                                go_simp
                                with_reducible rfl
                              rotate_left
                              · simp only [Act.put, List.setIfInBounds_toArray, List.set_cons_zero, List.set_cons_succ, i64_w, i32_w]
                                rfl
                              refine pure_ (i := 1) (N := some 32) (v := ?_) (a' := ?_) #[true, true, false, false, false, false, false, false] rfl rfl (any_of HT_.out (by kernel_rfl)) (fun _ _ _ h => h) (Or.inl ⟨by rfl, ?_⟩) ?_ ?_
                              rotate_left
                              · intro w'
                                go_simp
                                with_reducible rfl
                              rotate_left
                              · simp only [Act.put, List.setIfInBounds_toArray, List.set_cons_zero, List.set_cons_succ, i64_w, i32_w]
                                rfl
                              refine pure_ (i := 2) (N := some 33) (v := ?_) (a' := ?_) #[true, true, true, false, false, false, false, false] rfl rfl (any_of HT_.out (by kernel_rfl)) (fun _ _ _ h => h) (Or.inl ⟨by rfl, ?_⟩) ?_ ?_
                              rotate_left
                              · intro w'
                                go_simp
                                with_reducible rfl
                              rotate_left
                              · simp only [Act.put, List.setIfInBounds_toArray, List.set_cons_zero, List.set_cons_succ, i64_w, i32_w]
                                rfl
                              refine pure_ (i := 3) (N := some 34) (v := ?_) (a' := ?_) #[true, true, true, true, false, false, false, false] rfl rfl (any_of HT_.out (by kernel_rfl)) (fun _ _ _ h => h) (Or.inl ⟨by rfl, ?_⟩) ?_ ?_
                              rotate_left
                              · intro w'
                                go_simp
                                with_reducible rfl
                              rotate_left
                              · simp only [Act.put, List.setIfInBounds_toArray, List.set_cons_zero, List.set_cons_succ, i64_w, i32_w]
                                rfl
                              refine pure_ (i := 5) (N := some 36) (v := ?_) (a' := ?_) #[true, true, true, true, false, true, false, false] rfl rfl (any_of HT_.out (by kernel_rfl)) (fun _ _ _ h => h) (Or.inl ⟨by rfl, ?_⟩) ?_ ?_
                              rotate_left
                              · intro w'
                                go_simp
                                with_reducible rfl
                              rotate_left
                              · simp only [Act.put, List.setIfInBounds_toArray, List.set_cons_zero, List.set_cons_succ, i64_w, i32_w]
                                rfl
                              refine take_ (i := 4) (N := some 35) (v := ?_) (a' := ?_) #[true, true, true, true, true, true, false, false] rfl rfl (take_ofW HT_.out HW_.out (by kernel_rfl)) (fun _ _ _ h => h) (Or.inl ⟨by rfl, ?_⟩) hHeld ?_ ?_
                              rotate_left
                              · rintro w' ⟨s0, s1, s2, s3, s4⟩
                                go_simp
                                with_reducible rfl
                              rotate_left
                              · simp only [Act.put, List.setIfInBounds_toArray, List.set_cons_zero, List.set_cons_succ, i64_w, i32_w]
                                rfl
                              refine on_ 6 37 HT_ #[true, true, true, true, true, true, true, false] rfl rfl (fun K hK => ?_)
                              refine goes_ Try.func106 (by kernel_rfl) rfl #[.int .i64 (wrap64 ((wrap64 (x1_1 + 1)) + 1))] (by rfl) rfl rfl (qe2_) ?_
                              with_reducible refine (laws_markText.calls kj11 (wrap64 ((wrap64 (x1_1 + 1)) + 1)) t251 _ A18.out).mono ?_
                              rintro e w21 ⟨rfl, hb⟩
                              refine ⟨_, rfl, ?_⟩
                              replace HB := Aside0.mk (below_step (qe0_) hb)
                              (try clear hb)
                              refine hK.out _ _ ⟨(hd_ HB hw250_0), (hd_ HB hw250_1), (hd_ HB hw250_2), (hd_ HB hw250_3), (hd_ HB hw250_4)⟩ (fun hHeld => ?_)
                              clear hK K
                              refine norm_ (a' := ?_) ?_ ?_
                              rotate_left
                              · show Act.put _ (some 37) _ = _
                                simp only [Act.put, List.setIfInBounds_toArray, List.set_cons_zero, List.set_cons_succ, i64_w, i32_w]
                                rfl
                              refine pure_ (i := 7) (N := some 38) (v := ?_) (a' := ?_) #[true, true, true, true, true, true, true, true] rfl rfl (any_of HT_.out (by kernel_rfl)) (fun _ _ _ h => h) (Or.inl ⟨by rfl, ?_⟩) ?_ ?_
                              rotate_left
                              · intro w'
                                go_simp
                                with_reducible rfl
                              rotate_left
                              · simp only [Act.put, List.setIfInBounds_toArray, List.set_cons_zero, List.set_cons_succ, i64_w, i32_w]
                                rfl
                              refine done_ (done_of HT_.out (by kernel_rfl)) ?_
                              go_upto_if 38 with (fail)
                              go_cut [] (fun wc => ∃ (kq : Nat), Aside0 (laws_heldItemS.j4 kq l0 (wrap64 ((wrap64 (x1_1 + 1)) + 1)) x5_1 = some r) ∧ Aside0 (kq ≤ kj11) ∧ Aside0 (Below w.heap.size w wc))
                              case first =>
                                have H := HC19.out
                                clear HC19
                                by_cases c22 : ((rd_Item l0 x5_1).f2).toList = t251.toList
                                · rw [if_pos c22] at H
                                  have c22b0 : (((rd_Item l0 x5_1).f2).toList == t251.toList) = true := beq_iff_eq.mpr c22
                                  have c22b1 : (((rd_Item l0 x5_1).f2).toList != t251.toList) = false := bne_eq_false_iff_eq.mpr c22
                                  clear c22
                                  (first | rw [c22b0] | (simp only [i64_w, i32_w]; rw [c22b0]) | rw [c22b4] | rw [c22b3] | skip)
                                  have H' := Aside0.mk H
                                  clear H
                                  go_wp2
                                  go_meet
                                  case rel => exact ⟨_, H', ⟨by have := HK1.out; have := HJ2.out; have := HJ6.out; have := HJ11.out; first | omega | exact Nat.le_refl _⟩, ⟨qe0_⟩⟩
                                · rw [if_neg c22] at H
                                  have c22b0 : (((rd_Item l0 x5_1).f2).toList == t251.toList) = false := beq_eq_false_iff_ne.mpr c22
                                  have c22b1 : (((rd_Item l0 x5_1).f2).toList != t251.toList) = true := bne_iff_ne.mpr c22
                                  (first | rw [c22b0] | (simp only [i64_w, i32_w]; rw [c22b0]) | rw [c22b4] | rw [c22b3] | skip)
                                  obtain rfl := Option.some.inj H
                                  go_wp2
                                  go_ret
                                  exact ⟨qe6_, qe0_⟩
                              case rest =>
                                clear HC19
                                try clear c1
                                try clear c2
                                try clear p2
                                try clear q2
                                try clear hx2
                                try clear c4
                                try clear c4b0
                                try clear c5
                                try clear c5b0
                                try clear c6
                                try clear c6b0
                                try clear p6
                                try clear c7
                                try clear c8
                                try clear c8b0
                                try clear c8b1
                                try clear c9
                                try clear c9b0
                                try clear c10
                                try clear c10b0
                                try clear c15
                                try clear c15b0
                                try clear c15b1
                                try clear c16
                                try clear c16b0
                                try clear c17
                                try clear c17b0
                                try clear c22
                                try clear c22b0
                                try clear c22b1
                                try clear hx247_0
                                try clear hx247_1
                                try clear hx247_2
                                try clear hx247_3
                                try clear hx247_4
                                try clear hx248_0
                                try clear hx248_1
                                try clear hx248_2
                                try clear hx248_3
                                try clear hx248_4
                                try clear hx250_0
                                try clear hx250_1
                                try clear hx250_2
                                try clear hx250_3
                                try clear hx250_4
                                try clear p2
                                try clear p247
                                try clear p248
                                try clear p250
                                try clear p6
                                try clear q2
                                try clear q247
                                try clear q248
                                try clear q250
                                obtain ⟨kq, HA, HJ18, HB⟩ := hcut
                                cases kq with
                                | zero => exact absurd HA.out (by simp [laws_heldItemS.j4])
                                | succ kj18 =>
                                  have H := HA.out
                                  clear HA
                                  simp only [laws_heldItemS.j4] at H
                                  by_cases c23 : 0 ≤ x5_1
                                  · rw [if_pos c23] at H
                                    have c23b0 : decide (0 ≤ x5_1) = true := decide_eq_true c23
                                    clear c23
                                    by_cases c24 : x5_1 < (l0.length : Int)
                                    · rw [if_pos c24] at H
                                      have c24b0 : decide (x5_1 < (l0.length : Int)) = true := decide_eq_true c24
                                      clear c24
                                      by_cases c25 : ((rd_Item l0 x5_1).f3) = (wrap64 ((wrap64 ((wrap64 (x1_1 + 1)) + 1)) + 1))
                                      · rw [if_pos c25] at H
                                        have c25b0 : (((rd_Item l0 x5_1).f3) == (wrap64 ((wrap64 ((wrap64 (x1_1 + 1)) + 1)) + 1))) = true := beq_iff_eq.mpr c25
                                        have c25b1 : (((rd_Item l0 x5_1).f3) != (wrap64 ((wrap64 ((wrap64 (x1_1 + 1)) + 1)) + 1))) = false := bne_eq_false_iff_eq.mpr c25
                                        clear c25
                                        by_cases c26 : ((rd_Item l0 x5_1).f4) = (wrap64 ((wrap64 ((wrap64 ((wrap64 (x1_1 + 1)) + 1)) + 1)) + 1))
                                        · rw [if_pos c26] at H
                                          have c26b0 : (((rd_Item l0 x5_1).f4) == (wrap64 ((wrap64 ((wrap64 ((wrap64 (x1_1 + 1)) + 1)) + 1)) + 1))) = true := beq_iff_eq.mpr c26
                                          have c26b1 : (((rd_Item l0 x5_1).f4) != (wrap64 ((wrap64 ((wrap64 ((wrap64 (x1_1 + 1)) + 1)) + 1)) + 1))) = false := bne_eq_false_iff_eq.mpr c26
                                          clear c26
                                          have H' := Aside0.mk H
                                          clear H
                                          have p252 : 0 ≤ (x5_1 : Int) := of_decide_eq_true dt_
                                          have q252 : x5_1 < (l0.length : Int) := of_decide_eq_true dt_
                                          obtain ⟨ad252, e252, hx252_0, hx252_1, hx252_2, hx252_3, hx252_4⟩ := at_Item HR0.out x5_1 p252 q252
                                          obtain rfl : ad247 = ad252 := (by injection e252)
                                          replace hx252_0 := hc_ HB hx252_0
                                          replace hx252_1 := hc_ HB hx252_1
                                          replace hx252_2 := hc_ HB hx252_2
                                          replace hx252_3 := hc_ HB hx252_3
                                          replace hx252_4 := hc_ HB hx252_4
                                          replace p252 := eq_true p252
                                          replace q252 := eq_true q252
                                          have p253 : 0 ≤ (x5_1 : Int) := of_decide_eq_true dt_
                                          have q253 : x5_1 < (l0.length : Int) := of_decide_eq_true dt_
                                          obtain ⟨ad253, e253, hx253_0, hx253_1, hx253_2, hx253_3, hx253_4⟩ := at_Item HR0.out x5_1 p253 q253
                                          obtain rfl : ad247 = ad253 := (by injection e253)
                                          replace hx253_0 := hc_ HB hx253_0
                                          replace hx253_1 := hc_ HB hx253_1
                                          replace hx253_2 := hc_ HB hx253_2
                                          replace hx253_3 := hc_ HB hx253_3
                                          replace hx253_4 := hc_ HB hx253_4
                                          replace p253 := eq_true p253
                                          replace q253 := eq_true q253
                                          go_wp2
                                          go_roundg kj18
                                          case measure => have := HK1.out; have := HJ2.out; have := HJ6.out; have := HJ11.out; have := HJ18.out; omega
                                          case rel => exact ⟨(wrap64 ((wrap64 ((wrap64 ((wrap64 ((wrap64 (x1_1 + 1)) + 1)) + 1)) + 1)) + 1)), (wrap64 (x5_1 + 1)), (qe3_), (qe3_), H', ⟨by have := HK1.out; have := HJ2.out; have := HJ6.out; have := HJ11.out; have := HJ18.out; omega⟩, ⟨qe0_⟩⟩
                                        · rw [if_neg c26] at H
                                          have c26b0 : (((rd_Item l0 x5_1).f4) == (wrap64 ((wrap64 ((wrap64 ((wrap64 (x1_1 + 1)) + 1)) + 1)) + 1))) = false := beq_eq_false_iff_ne.mpr c26
                                          have c26b1 : (((rd_Item l0 x5_1).f4) != (wrap64 ((wrap64 ((wrap64 ((wrap64 (x1_1 + 1)) + 1)) + 1)) + 1))) = true := bne_iff_ne.mpr c26
                                          obtain rfl := Option.some.inj H
                                          have p252 : 0 ≤ (x5_1 : Int) := of_decide_eq_true dt_
                                          have q252 : x5_1 < (l0.length : Int) := of_decide_eq_true dt_
                                          obtain ⟨ad252, e252, hx252_0, hx252_1, hx252_2, hx252_3, hx252_4⟩ := at_Item HR0.out x5_1 p252 q252
                                          obtain rfl : ad247 = ad252 := (by injection e252)
                                          replace hx252_0 := hc_ HB hx252_0
                                          replace hx252_1 := hc_ HB hx252_1
                                          replace hx252_2 := hc_ HB hx252_2
                                          replace hx252_3 := hc_ HB hx252_3
                                          replace hx252_4 := hc_ HB hx252_4
                                          replace p252 := eq_true p252
                                          replace q252 := eq_true q252
                                          have p253 : 0 ≤ (x5_1 : Int) := of_decide_eq_true dt_
                                          have q253 : x5_1 < (l0.length : Int) := of_decide_eq_true dt_
                                          obtain ⟨ad253, e253, hx253_0, hx253_1, hx253_2, hx253_3, hx253_4⟩ := at_Item HR0.out x5_1 p253 q253
                                          obtain rfl : ad247 = ad253 := (by injection e253)
                                          replace hx253_0 := hc_ HB hx253_0
                                          replace hx253_1 := hc_ HB hx253_1
                                          replace hx253_2 := hc_ HB hx253_2
                                          replace hx253_3 := hc_ HB hx253_3
                                          replace hx253_4 := hc_ HB hx253_4
                                          replace p253 := eq_true p253
                                          replace q253 := eq_true q253
                                          go_wp2
                                          go_ret
                                          exact ⟨qe6_, qe0_⟩
                                      · rw [if_neg c25] at H
                                        have c25b0 : (((rd_Item l0 x5_1).f3) == (wrap64 ((wrap64 ((wrap64 (x1_1 + 1)) + 1)) + 1))) = false := beq_eq_false_iff_ne.mpr c25
                                        have c25b1 : (((rd_Item l0 x5_1).f3) != (wrap64 ((wrap64 ((wrap64 (x1_1 + 1)) + 1)) + 1))) = true := bne_iff_ne.mpr c25
                                        obtain rfl := Option.some.inj H
                                        have p252 : 0 ≤ (x5_1 : Int) := of_decide_eq_true dt_
                                        have q252 : x5_1 < (l0.length : Int) := of_decide_eq_true dt_
                                        obtain ⟨ad252, e252, hx252_0, hx252_1, hx252_2, hx252_3, hx252_4⟩ := at_Item HR0.out x5_1 p252 q252
                                        obtain rfl : ad247 = ad252 := (by injection e252)
                                        replace hx252_0 := hc_ HB hx252_0
                                        replace hx252_1 := hc_ HB hx252_1
                                        replace hx252_2 := hc_ HB hx252_2
                                        replace hx252_3 := hc_ HB hx252_3
                                        replace hx252_4 := hc_ HB hx252_4
                                        replace p252 := eq_true p252
                                        replace q252 := eq_true q252
                                        go_wp2
                                        go_ret
                                        exact ⟨qe6_, qe0_⟩
                                    · rw [if_neg c24] at H
                                      exact absurd H (by simp)
                                  · rw [if_neg c23] at H
                                    exact absurd H (by simp)
                            · rw [if_neg c17] at H
                              exact absurd H (by simp)
                          · rw [if_neg c16] at H
                            exact absurd H (by simp)
                    · rw [if_neg c10] at H
                      exact absurd H (by simp)
                  · rw [if_neg c9] at H
                    exact absurd H (by simp)
            · rw [if_neg c6] at H
              exact absurd H (by simp)
          · rw [if_neg c5] at H
            exact absurd H (by simp)
/-! ### laws_heldRowS: function 92 -/
def laws_heldRowS.l0 : Nat → List (S_Row) → Int → Int → Option (Int)
  | 0, _, _, _ => none
  | k + 1, x0, x1, x5 => if x5 < (x0.length : Int) then (if 0 ≤ x5 then (if ((rd_Row x0 x5).f0) = x1 then (if ((rd_Row x0 x5).f1) = (wrap64 (x1 + 1)) then ((laws_heldItemS.f k ((rd_Row x0 x5).f2) (wrap64 ((wrap64 (x1 + 1)) + 1))).bind fun t257 => (if t257 < 0 then (some (-1)) else (laws_heldRowS.l0 k x0 t257 (wrap64 (x5 + 1))))) else (some (-1))) else (some (-1))) else (none)) else (some x1)
def laws_heldRowS.f (k : Nat) (l0 : List (S_Row)) (a1 : Int) : Option (Int) := laws_heldRowS.l0 k l0 a1 0
theorem laws_heldRowS.mono_l : ∀ k, (∀ y0 y1 y2, LeO (laws_heldRowS.l0 k y0 y1 y2) (laws_heldRowS.l0 (k + 1) y0 y1 y2))
  | 0 => fun _ _ _ r h => by simp [laws_heldRowS.l0] at h
  | k + 1 => by
    have ih0 := laws_heldRowS.mono_l k
    · intro y0 y1 y2
      unfold laws_heldRowS.l0
      exact qeh4_
theorem laws_heldRowS.mono : ∀ a0 a1 k, LeO (laws_heldRowS.f k a0 a1) (laws_heldRowS.f (k + 1) a0 a1) := by
  intro a0 a1 k
  have ih0 := laws_heldRowS.mono_l k
  unfold laws_heldRowS.f
  exact qeh4_
set_option maxHeartbeats 8000000 in
set_option maxRecDepth 100000 in
theorem laws_heldRowS.calls (k : Nat) (A0 : Option Addr) (c0 : Nat) (l0 : List (S_Row)) (a1 : Int) (r : Int) (w : World) (hr0 : Kd.C k_Row w A0 l0.length l0) (hc0 : l0.length ≤ c0) (h : laws_heldRowS.f k l0 a1 = some r) :
    Calls Try.prog 92 #[.slice A0 l0.length c0, .int .i64 a1] w fun e w' => e = .returned (.int .i64 r) ∧ Below w.heap.size w w' := by
  have HR0 := Aside0.mk hr0
  have HC0 := Aside0.mk hc0
  clear hr0 hc0
  have HB := Aside0.mk (Below.refl w.heap.size w)
  have H : (laws_heldRowS.l0 k l0 a1 0) = some r := h
  clear h
  have H' := Aside0.mk H
  clear H
  go_enter Try.func92, Try.ntmps92
  go_wp2
  go_loopg [1, 5] k (fun kq v1 v5 w' => ∃ (x1_1 : Int) (x5_1 : Int), v1 = .int .i64 x1_1 ∧ v5 = .int .i64 x5_1 ∧ Aside0 (laws_heldRowS.l0 kq l0 x1_1 x5_1 = some r) ∧ Aside0 (kq ≤ k) ∧ Aside0 (Below w.heap.size w w'))
  case atStart => exact ⟨(a1), (0), (qe3_), (qe3_), H', ⟨Nat.le_refl _⟩, ⟨qe0_⟩⟩
  case round =>
    clear H'
    try clear p2
    obtain ⟨x1_1, x5_1, rfl, rfl, HA, HK1, HB⟩ := hrel
    cases gk with
    | zero => exact absurd HA.out (by simp [laws_heldRowS.l0])
    | succ k1 =>
      have H := HA.out
      clear HA
      simp only [laws_heldRowS.l0] at H
      by_cases c3 : x5_1 < (l0.length : Int)
      · rw [if_pos c3] at H
        have c3b0 : decide (x5_1 < (l0.length : Int)) = true := decide_eq_true c3
        clear c3
        by_cases c4 : 0 ≤ x5_1
        · rw [if_pos c4] at H
          have c4b0 : decide (0 ≤ x5_1) = true := decide_eq_true c4
          clear c4
          by_cases c5 : ((rd_Row l0 x5_1).f0) = x1_1
          · rw [if_pos c5] at H
            have c5b0 : (((rd_Row l0 x5_1).f0) == x1_1) = true := beq_iff_eq.mpr c5
            have c5b1 : (((rd_Row l0 x5_1).f0) != x1_1) = false := bne_eq_false_iff_eq.mpr c5
            clear c5
            by_cases c6 : ((rd_Row l0 x5_1).f1) = (wrap64 (x1_1 + 1))
            · rw [if_pos c6] at H
              have c6b0 : (((rd_Row l0 x5_1).f1) == (wrap64 (x1_1 + 1))) = true := beq_iff_eq.mpr c6
              have c6b1 : (((rd_Row l0 x5_1).f1) != (wrap64 (x1_1 + 1))) = false := bne_eq_false_iff_eq.mpr c6
              clear c6
              replace H := Option.bind_eq_some_iff.mp H
              obtain ⟨t257, A70, H⟩ := H
              replace H : (if t257 < 0 then (some (-1)) else (laws_heldRowS.l0 k1 l0 t257 (wrap64 (x5_1 + 1)))) = some r := H
              have A7 := Aside0.mk A70
              clear A70
              by_cases c8 : t257 < 0
              · rw [if_pos c8] at H
                have c8b0 : decide (t257 < 0) = true := decide_eq_true c8
                clear c8
                obtain rfl := Option.some.inj H
                have p254 : 0 ≤ (x5_1 : Int) := of_decide_eq_true dt_
                have q254 : x5_1 < (l0.length : Int) := of_decide_eq_true dt_
                obtain ⟨ad254, A254_2, c254_2, e254, hx254_0, hx254_1, hx254_2, hl254_2, hi254_2⟩ := at_Row HR0.out x5_1 p254 q254
                cases e254
                replace hx254_0 := hc_ HB hx254_0
                replace hx254_1 := hc_ HB hx254_1
                replace hx254_2 := hc_ HB hx254_2
                have HR254_2 := Aside0.mk hi254_2
                have HC254_2 := Aside0.mk hl254_2
                clear hi254_2 hl254_2
                replace p254 := eq_true p254
                replace q254 := eq_true q254
                have p255 : 0 ≤ (x5_1 : Int) := of_decide_eq_true dt_
                have q255 : x5_1 < (l0.length : Int) := of_decide_eq_true dt_
                obtain ⟨ad255, A255_2, c255_2, e255, hx255_0, hx255_1, hx255_2, hl255_2, hi255_2⟩ := at_Row HR0.out x5_1 p255 q255
                obtain rfl : ad254 = ad255 := (by injection e255)
                replace hx255_0 := hc_ HB hx255_0
                replace hx255_1 := hc_ HB hx255_1
                replace hx255_2 := hc_ HB hx255_2
                have HR255_2 := Aside0.mk hi255_2
                have HC255_2 := Aside0.mk hl255_2
                clear hi255_2 hl255_2
                replace p255 := eq_true p255
                replace q255 := eq_true q255
                have ea_ := Option.some.inj (hx254_2.symm.trans hx255_2)
                injection ea_ with ea_ en_ ec_
                subst ea_
                subst ec_
                clear en_
                have p256 : 0 ≤ (x5_1 : Int) := of_decide_eq_true dt_
                have q256 : x5_1 < (l0.length : Int) := of_decide_eq_true dt_
                obtain ⟨ad256, A256_2, c256_2, e256, hx256_0, hx256_1, hx256_2, hl256_2, hi256_2⟩ := at_Row HR0.out x5_1 p256 q256
                obtain rfl : ad254 = ad256 := (by injection e256)
                replace hx256_0 := hc_ HB hx256_0
                replace hx256_1 := hc_ HB hx256_1
                replace hx256_2 := hc_ HB hx256_2
                have HR256_2 := Aside0.mk hi256_2
                have HC256_2 := Aside0.mk hl256_2
                clear hi256_2 hl256_2
                replace p256 := eq_true p256
                replace q256 := eq_true q256
                have ea_ := Option.some.inj (hx254_2.symm.trans hx256_2)
                injection ea_ with ea_ en_ ec_
                subst ea_
                subst ec_
                clear en_
                go_wp2_with (first | ((with_reducible refine gate_callee (f := 72) rfl ?_); refine goesL_ (some 36) rfl rfl Try.func72 (by kernel_rfl) rfl #[.slice A254_2 ((rd_Row l0 x5_1).f2).length c254_2, .int .i64 (wrap64 ((wrap64 (x1_1 + 1)) + 1))] rfl (qe2_) ?_; (with_reducible refine (laws_heldItemS.calls k1 _ _ ((rd_Row l0 x5_1).f2) (wrap64 ((wrap64 (x1_1 + 1)) + 1)) t257 _ ?side1 ?side2 A7.out).mono ?_); (case side1 => repeat (first | exact (Kd.C_below HR256_2.out HB.out) | (with_reducible refine Kd.C_alloc ?_ _) | (with_reducible refine Kd.C_drewN ?_ _) | (with_reducible refine Kd.C_drew ?_))); (case side2 => exact HC256_2.out); rintro e w9 ⟨rfl, hb⟩; refine ⟨_, rfl, ?_⟩; replace HB := Aside0.mk (below_step (qe0_) hb); (try clear hb); (try clear hb2); (try clear hk); (try clear hi)))
                go_ret
                exact ⟨qe6_, qe0_⟩
              · rw [if_neg c8] at H
                have c8b0 : decide (t257 < 0) = false := decide_eq_false c8
                clear c8
                have H' := Aside0.mk H
                clear H
                have p254 : 0 ≤ (x5_1 : Int) := of_decide_eq_true dt_
                have q254 : x5_1 < (l0.length : Int) := of_decide_eq_true dt_
                obtain ⟨ad254, A254_2, c254_2, e254, hx254_0, hx254_1, hx254_2, hl254_2, hi254_2⟩ := at_Row HR0.out x5_1 p254 q254
                cases e254
                replace hx254_0 := hc_ HB hx254_0
                replace hx254_1 := hc_ HB hx254_1
                replace hx254_2 := hc_ HB hx254_2
                have HR254_2 := Aside0.mk hi254_2
                have HC254_2 := Aside0.mk hl254_2
                clear hi254_2 hl254_2
                replace p254 := eq_true p254
                replace q254 := eq_true q254
                have p255 : 0 ≤ (x5_1 : Int) := of_decide_eq_true dt_
                have q255 : x5_1 < (l0.length : Int) := of_decide_eq_true dt_
                obtain ⟨ad255, A255_2, c255_2, e255, hx255_0, hx255_1, hx255_2, hl255_2, hi255_2⟩ := at_Row HR0.out x5_1 p255 q255
                obtain rfl : ad254 = ad255 := (by injection e255)
                replace hx255_0 := hc_ HB hx255_0
                replace hx255_1 := hc_ HB hx255_1
                replace hx255_2 := hc_ HB hx255_2
                have HR255_2 := Aside0.mk hi255_2
                have HC255_2 := Aside0.mk hl255_2
                clear hi255_2 hl255_2
                replace p255 := eq_true p255
                replace q255 := eq_true q255
                have ea_ := Option.some.inj (hx254_2.symm.trans hx255_2)
                injection ea_ with ea_ en_ ec_
                subst ea_
                subst ec_
                clear en_
                have p256 : 0 ≤ (x5_1 : Int) := of_decide_eq_true dt_
                have q256 : x5_1 < (l0.length : Int) := of_decide_eq_true dt_
                obtain ⟨ad256, A256_2, c256_2, e256, hx256_0, hx256_1, hx256_2, hl256_2, hi256_2⟩ := at_Row HR0.out x5_1 p256 q256
                obtain rfl : ad254 = ad256 := (by injection e256)
                replace hx256_0 := hc_ HB hx256_0
                replace hx256_1 := hc_ HB hx256_1
                replace hx256_2 := hc_ HB hx256_2
                have HR256_2 := Aside0.mk hi256_2
                have HC256_2 := Aside0.mk hl256_2
                clear hi256_2 hl256_2
                replace p256 := eq_true p256
                replace q256 := eq_true q256
                have ea_ := Option.some.inj (hx254_2.symm.trans hx256_2)
                injection ea_ with ea_ en_ ec_
                subst ea_
                subst ec_
                clear en_
                go_wp2_with (first | ((with_reducible refine gate_callee (f := 72) rfl ?_); refine goesL_ (some 36) rfl rfl Try.func72 (by kernel_rfl) rfl #[.slice A254_2 ((rd_Row l0 x5_1).f2).length c254_2, .int .i64 (wrap64 ((wrap64 (x1_1 + 1)) + 1))] rfl (qe2_) ?_; (with_reducible refine (laws_heldItemS.calls k1 _ _ ((rd_Row l0 x5_1).f2) (wrap64 ((wrap64 (x1_1 + 1)) + 1)) t257 _ ?side1 ?side2 A7.out).mono ?_); (case side1 => repeat (first | exact (Kd.C_below HR256_2.out HB.out) | (with_reducible refine Kd.C_alloc ?_ _) | (with_reducible refine Kd.C_drewN ?_ _) | (with_reducible refine Kd.C_drew ?_))); (case side2 => exact HC256_2.out); rintro e w10 ⟨rfl, hb⟩; refine ⟨_, rfl, ?_⟩; replace HB := Aside0.mk (below_step (qe0_) hb); (try clear hb); (try clear hb2); (try clear hk); (try clear hi)))
                go_roundg k1
                case measure => have := HK1.out; omega
                case rel => exact ⟨(t257), (wrap64 (x5_1 + 1)), (qe3_), (qe3_), H', ⟨by have := HK1.out; omega⟩, ⟨qe0_⟩⟩
            · rw [if_neg c6] at H
              have c6b0 : (((rd_Row l0 x5_1).f1) == (wrap64 (x1_1 + 1))) = false := beq_eq_false_iff_ne.mpr c6
              have c6b1 : (((rd_Row l0 x5_1).f1) != (wrap64 (x1_1 + 1))) = true := bne_iff_ne.mpr c6
              obtain rfl := Option.some.inj H
              have p254 : 0 ≤ (x5_1 : Int) := of_decide_eq_true dt_
              have q254 : x5_1 < (l0.length : Int) := of_decide_eq_true dt_
              obtain ⟨ad254, A254_2, c254_2, e254, hx254_0, hx254_1, hx254_2, hl254_2, hi254_2⟩ := at_Row HR0.out x5_1 p254 q254
              cases e254
              replace hx254_0 := hc_ HB hx254_0
              replace hx254_1 := hc_ HB hx254_1
              replace hx254_2 := hc_ HB hx254_2
              have HR254_2 := Aside0.mk hi254_2
              have HC254_2 := Aside0.mk hl254_2
              clear hi254_2 hl254_2
              replace p254 := eq_true p254
              replace q254 := eq_true q254
              have p255 : 0 ≤ (x5_1 : Int) := of_decide_eq_true dt_
              have q255 : x5_1 < (l0.length : Int) := of_decide_eq_true dt_
              obtain ⟨ad255, A255_2, c255_2, e255, hx255_0, hx255_1, hx255_2, hl255_2, hi255_2⟩ := at_Row HR0.out x5_1 p255 q255
              obtain rfl : ad254 = ad255 := (by injection e255)
              replace hx255_0 := hc_ HB hx255_0
              replace hx255_1 := hc_ HB hx255_1
              replace hx255_2 := hc_ HB hx255_2
              have HR255_2 := Aside0.mk hi255_2
              have HC255_2 := Aside0.mk hl255_2
              clear hi255_2 hl255_2
              replace p255 := eq_true p255
              replace q255 := eq_true q255
              have ea_ := Option.some.inj (hx254_2.symm.trans hx255_2)
              injection ea_ with ea_ en_ ec_
              subst ea_
              subst ec_
              clear en_
              go_wp2
              go_ret
              exact ⟨qe6_, qe0_⟩
          · rw [if_neg c5] at H
            have c5b0 : (((rd_Row l0 x5_1).f0) == x1_1) = false := beq_eq_false_iff_ne.mpr c5
            have c5b1 : (((rd_Row l0 x5_1).f0) != x1_1) = true := bne_iff_ne.mpr c5
            obtain rfl := Option.some.inj H
            have p254 : 0 ≤ (x5_1 : Int) := of_decide_eq_true dt_
            have q254 : x5_1 < (l0.length : Int) := of_decide_eq_true dt_
            obtain ⟨ad254, A254_2, c254_2, e254, hx254_0, hx254_1, hx254_2, hl254_2, hi254_2⟩ := at_Row HR0.out x5_1 p254 q254
            cases e254
            replace hx254_0 := hc_ HB hx254_0
            replace hx254_1 := hc_ HB hx254_1
            replace hx254_2 := hc_ HB hx254_2
            have HR254_2 := Aside0.mk hi254_2
            have HC254_2 := Aside0.mk hl254_2
            clear hi254_2 hl254_2
            replace p254 := eq_true p254
            replace q254 := eq_true q254
            go_wp2
            go_ret
            exact ⟨qe6_, qe0_⟩
        · rw [if_neg c4] at H
          exact absurd H (by simp)
      · rw [if_neg c3] at H
        have c3b0 : decide (x5_1 < (l0.length : Int)) = false := decide_eq_false c3
        clear c3
        obtain rfl := Option.some.inj H
        go_wp2
        go_ret
        exact ⟨qe6_, qe0_⟩

/-! ### laws_heldIntS: function 94 -/
def laws_heldIntS.l0 : Nat → List Int → Int → Int → Option (Int)
  | 0, _, _, _ => none
  | k + 1, x0, x1, x5 => if x5 < (x0.length : Int) then (if 0 ≤ x5 then (if (rd x0 x5) = x1 then (laws_heldIntS.l0 k x0 (wrap64 (x1 + 1)) (wrap64 (x5 + 1))) else (some (-1))) else (none)) else (some x1)
def laws_heldIntS.f (k : Nat) (l0 : List Int) (a1 : Int) : Option (Int) := laws_heldIntS.l0 k l0 a1 0
theorem laws_heldIntS.mono_l : ∀ k, (∀ y0 y1 y2, LeO (laws_heldIntS.l0 k y0 y1 y2) (laws_heldIntS.l0 (k + 1) y0 y1 y2))
  | 0 => fun _ _ _ r h => by simp [laws_heldIntS.l0] at h
  | k + 1 => by
    have ih0 := laws_heldIntS.mono_l k
    · intro y0 y1 y2
      unfold laws_heldIntS.l0
      exact qeh1_
theorem laws_heldIntS.mono : ∀ a0 a1 k, LeO (laws_heldIntS.f k a0 a1) (laws_heldIntS.f (k + 1) a0 a1) := by
  intro a0 a1 k
  have ih0 := laws_heldIntS.mono_l k
  unfold laws_heldIntS.f
  exact qeh1_
set_option maxHeartbeats 8000000 in
set_option maxRecDepth 100000 in
theorem laws_heldIntS.calls (k : Nat) (A0 : Option Addr) (c0 : Nat) (l0 : List Int) (a1 : Int) (r : Int) (w : World) (hr0 : Kd.C (Kd.int .i64) w A0 l0.length l0) (hc0 : l0.length ≤ c0) (h : laws_heldIntS.f k l0 a1 = some r) :
    Calls Try.prog 94 #[.slice A0 l0.length c0, .int .i64 a1] w fun e w' => e = .returned (.int .i64 r) ∧ Drawn0 w w' := by
  have HR0 := Aside0.mk hr0
  have HC0 := Aside0.mk hc0
  clear hr0 hc0
  have H : (laws_heldIntS.l0 k l0 a1 0) = some r := h
  clear h
  have H' := Aside0.mk H
  clear H
  go_enter Try.func94, Try.ntmps94
  go_wp2
  go_loopg [1, 5] k (fun kq v1 v5 w' => ∃ (x1_1 : Int) (x5_1 : Int), v1 = .int .i64 x1_1 ∧ v5 = .int .i64 x5_1 ∧ Aside0 (laws_heldIntS.l0 kq l0 x1_1 x5_1 = some r) ∧ Aside0 (kq ≤ k) ∧ Drawn0 w w')
  case atStart => exact ⟨(a1), (0), (qe3_), (qe3_), H', ⟨Nat.le_refl _⟩, qe5_⟩
  case round =>
    clear H'
    try clear p2
    obtain ⟨x1_1, x5_1, rfl, rfl, HA, HK1, ⟨m1, rfl⟩⟩ := hrel
    cases gk with
    | zero => exact absurd HA.out (by simp [laws_heldIntS.l0])
    | succ k1 =>
      have H := HA.out
      clear HA
      simp only [laws_heldIntS.l0] at H
      by_cases c3 : x5_1 < (l0.length : Int)
      · rw [if_pos c3] at H
        have c3b0 : decide (x5_1 < (l0.length : Int)) = true := decide_eq_true c3
        clear c3
        by_cases c4 : 0 ≤ x5_1
        · rw [if_pos c4] at H
          have c4b0 : decide (0 ≤ x5_1) = true := decide_eq_true c4
          clear c4
          by_cases c5 : (rd l0 x5_1) = x1_1
          · rw [if_pos c5] at H
            have c5b0 : ((rd l0 x5_1) == x1_1) = true := beq_iff_eq.mpr c5
            have c5b1 : ((rd l0 x5_1) != x1_1) = false := bne_eq_false_iff_eq.mpr c5
            clear c5
            have H' := Aside0.mk H
            clear H
            have p258 : 0 ≤ (x5_1 : Int) := of_decide_eq_true dt_
            have q258 : x5_1 < (l0.length : Int) := of_decide_eq_true dt_
            obtain ⟨ad258, e258, hx258_0⟩ := Kd.at_int HR0.out x5_1 p258 q258
            cases e258
            replace p258 := eq_true p258
            replace q258 := eq_true q258
            go_wp2
            go_roundg k1
            case measure => have := HK1.out; omega
            case rel => exact ⟨(wrap64 (x1_1 + 1)), (wrap64 (x5_1 + 1)), (qe3_), (qe3_), H', ⟨by have := HK1.out; omega⟩, qe5_⟩
          · rw [if_neg c5] at H
            have c5b0 : ((rd l0 x5_1) == x1_1) = false := beq_eq_false_iff_ne.mpr c5
            have c5b1 : ((rd l0 x5_1) != x1_1) = true := bne_iff_ne.mpr c5
            obtain rfl := Option.some.inj H
            have p258 : 0 ≤ (x5_1 : Int) := of_decide_eq_true dt_
            have q258 : x5_1 < (l0.length : Int) := of_decide_eq_true dt_
            obtain ⟨ad258, e258, hx258_0⟩ := Kd.at_int HR0.out x5_1 p258 q258
            cases e258
            replace p258 := eq_true p258
            replace q258 := eq_true q258
            go_wp2
            go_ret
            exact ⟨qe3_, qe5_⟩
        · rw [if_neg c4] at H
          exact absurd H (by simp)
      · rw [if_neg c3] at H
        have c3b0 : decide (x5_1 < (l0.length : Int)) = false := decide_eq_false c3
        clear c3
        obtain rfl := Option.some.inj H
        go_wp2
        go_ret
        exact ⟨qe3_, qe5_⟩

/-! ### laws_heldGroupS: function 93 -/
def laws_heldGroupS.l0 : Nat → List (S_Group) → Int → Int → Option (Int)
  | 0, _, _, _ => none
  | k + 1, x0, x1, x5 => if x5 < (x0.length : Int) then (if 0 ≤ x5 then (if ((rd_Group x0 x5).f0) = x1 then ((laws_heldIntS.f k ((rd_Group x0 x5).f1) (wrap64 (x1 + 1))).bind fun t261 => (if t261 < 0 then (some (-1)) else ((laws_heldIntS.f k ((rd_Group x0 x5).f2) t261).bind fun t263 => (if t263 < 0 then (some (-1)) else ((laws_heldIntS.f k ((rd_Group x0 x5).f3) t263).bind fun t265 => (if t265 < 0 then (some (-1)) else (laws_heldGroupS.l0 k x0 t265 (wrap64 (x5 + 1))))))))) else (some (-1))) else (none)) else (some x1)
def laws_heldGroupS.f (k : Nat) (l0 : List (S_Group)) (a1 : Int) : Option (Int) := laws_heldGroupS.l0 k l0 a1 0
theorem laws_heldGroupS.mono_l : ∀ k, (∀ y0 y1 y2, LeO (laws_heldGroupS.l0 k y0 y1 y2) (laws_heldGroupS.l0 (k + 1) y0 y1 y2))
  | 0 => fun _ _ _ r h => by simp [laws_heldGroupS.l0] at h
  | k + 1 => by
    have ih0 := laws_heldGroupS.mono_l k
    · intro y0 y1 y2
      unfold laws_heldGroupS.l0
      exact qeh5_
theorem laws_heldGroupS.mono : ∀ a0 a1 k, LeO (laws_heldGroupS.f k a0 a1) (laws_heldGroupS.f (k + 1) a0 a1) := by
  intro a0 a1 k
  have ih0 := laws_heldGroupS.mono_l k
  unfold laws_heldGroupS.f
  exact qeh5_
set_option maxHeartbeats 8000000 in
set_option maxRecDepth 100000 in
theorem laws_heldGroupS.calls (k : Nat) (A0 : Option Addr) (c0 : Nat) (l0 : List (S_Group)) (a1 : Int) (r : Int) (w : World) (hr0 : Kd.C k_Group w A0 l0.length l0) (hc0 : l0.length ≤ c0) (h : laws_heldGroupS.f k l0 a1 = some r) :
    Calls Try.prog 93 #[.slice A0 l0.length c0, .int .i64 a1] w fun e w' => e = .returned (.int .i64 r) ∧ Drawn0 w w' := by
  have HR0 := Aside0.mk hr0
  have HC0 := Aside0.mk hc0
  clear hr0 hc0
  have H : (laws_heldGroupS.l0 k l0 a1 0) = some r := h
  clear h
  have H' := Aside0.mk H
  clear H
  go_enter Try.func93, Try.ntmps93
  go_wp2
  go_loopg [1, 5] k (fun kq v1 v5 w' => ∃ (x1_1 : Int) (x5_1 : Int), v1 = .int .i64 x1_1 ∧ v5 = .int .i64 x5_1 ∧ Aside0 (laws_heldGroupS.l0 kq l0 x1_1 x5_1 = some r) ∧ Aside0 (kq ≤ k) ∧ Drawn0 w w')
  case atStart => exact ⟨(a1), (0), (qe3_), (qe3_), H', ⟨Nat.le_refl _⟩, qe5_⟩
  case round =>
    clear H'
    try clear p2
    obtain ⟨x1_1, x5_1, rfl, rfl, HA, HK1, ⟨m1, rfl⟩⟩ := hrel
    cases gk with
    | zero => exact absurd HA.out (by simp [laws_heldGroupS.l0])
    | succ k1 =>
      have H := HA.out
      clear HA
      simp only [laws_heldGroupS.l0] at H
      by_cases c3 : x5_1 < (l0.length : Int)
      · rw [if_pos c3] at H
        have c3b0 : decide (x5_1 < (l0.length : Int)) = true := decide_eq_true c3
        clear c3
        by_cases c4 : 0 ≤ x5_1
        · rw [if_pos c4] at H
          have c4b0 : decide (0 ≤ x5_1) = true := decide_eq_true c4
          clear c4
          by_cases c5 : ((rd_Group l0 x5_1).f0) = x1_1
          · rw [if_pos c5] at H
            have c5b0 : (((rd_Group l0 x5_1).f0) == x1_1) = true := beq_iff_eq.mpr c5
            have c5b1 : (((rd_Group l0 x5_1).f0) != x1_1) = false := bne_eq_false_iff_eq.mpr c5
            clear c5
            replace H := Option.bind_eq_some_iff.mp H
            obtain ⟨t261, A60, H⟩ := H
            replace H : (if t261 < 0 then (some (-1)) else ((laws_heldIntS.f k1 ((rd_Group l0 x5_1).f2) t261).bind fun t263 => (if t263 < 0 then (some (-1)) else ((laws_heldIntS.f k1 ((rd_Group l0 x5_1).f3) t263).bind fun t265 => (if t265 < 0 then (some (-1)) else (laws_heldGroupS.l0 k1 l0 t265 (wrap64 (x5_1 + 1)))))))) = some r := H
            have A6 := Aside0.mk A60
            clear A60
            by_cases c7 : t261 < 0
            · rw [if_pos c7] at H
              have c7b0 : decide (t261 < 0) = true := decide_eq_true c7
              clear c7
              obtain rfl := Option.some.inj H
              have p259 : 0 ≤ (x5_1 : Int) := of_decide_eq_true dt_
              have q259 : x5_1 < (l0.length : Int) := of_decide_eq_true dt_
              obtain ⟨ad259, A259_1, c259_1, A259_2, c259_2, A259_3, c259_3, e259, hx259_0, hx259_1, hx259_2, hx259_3, hl259_1, hi259_1, hl259_2, hi259_2, hl259_3, hi259_3⟩ := at_Group HR0.out x5_1 p259 q259
              cases e259
              have HR259_1 := Aside0.mk hi259_1
              have HC259_1 := Aside0.mk hl259_1
              clear hi259_1 hl259_1
              have HR259_2 := Aside0.mk hi259_2
              have HC259_2 := Aside0.mk hl259_2
              clear hi259_2 hl259_2
              have HR259_3 := Aside0.mk hi259_3
              have HC259_3 := Aside0.mk hl259_3
              clear hi259_3 hl259_3
              replace p259 := eq_true p259
              replace q259 := eq_true q259
              have p260 : 0 ≤ (x5_1 : Int) := of_decide_eq_true dt_
              have q260 : x5_1 < (l0.length : Int) := of_decide_eq_true dt_
              obtain ⟨ad260, A260_1, c260_1, A260_2, c260_2, A260_3, c260_3, e260, hx260_0, hx260_1, hx260_2, hx260_3, hl260_1, hi260_1, hl260_2, hi260_2, hl260_3, hi260_3⟩ := at_Group HR0.out x5_1 p260 q260
              obtain rfl : ad259 = ad260 := (by injection e260)
              have HR260_1 := Aside0.mk hi260_1
              have HC260_1 := Aside0.mk hl260_1
              clear hi260_1 hl260_1
              have HR260_2 := Aside0.mk hi260_2
              have HC260_2 := Aside0.mk hl260_2
              clear hi260_2 hl260_2
              have HR260_3 := Aside0.mk hi260_3
              have HC260_3 := Aside0.mk hl260_3
              clear hi260_3 hl260_3
              replace p260 := eq_true p260
              replace q260 := eq_true q260
              have ea_ := Option.some.inj (hx259_1.symm.trans hx260_1)
              injection ea_ with ea_ en_ ec_
              subst ea_
              subst ec_
              clear en_
              have ea_ := Option.some.inj (hx259_2.symm.trans hx260_2)
              injection ea_ with ea_ en_ ec_
              subst ea_
              subst ec_
              clear en_
              have ea_ := Option.some.inj (hx259_3.symm.trans hx260_3)
              injection ea_ with ea_ en_ ec_
              subst ea_
              subst ec_
              clear en_
              go_wp2_with (first | ((with_reducible refine gate_callee (f := 94) rfl ?_); refine goesL_ (some 27) rfl rfl Try.func94 (by kernel_rfl) rfl #[.slice A259_1 ((rd_Group l0 x5_1).f1).length c259_1, .int .i64 (wrap64 (x1_1 + 1))] rfl (qe2_) ?_; (with_reducible refine (laws_heldIntS.calls k1 _ _ ((rd_Group l0 x5_1).f1) (wrap64 (x1_1 + 1)) t261 _ ?side1 ?side2 A6.out).mono ?_); (case side1 => repeat (first | exact HR260_1.out | (with_reducible refine Kd.C_alloc ?_ _) | (with_reducible refine Kd.C_drewN ?_ _) | (with_reducible refine Kd.C_drew ?_))); (case side2 => exact HC260_1.out); rintro e w' ⟨rfl, ⟨nd, rfl⟩⟩; refine ⟨_, rfl, ?_⟩))
              go_ret
              exact ⟨qe3_, qe5_⟩
            · rw [if_neg c7] at H
              have c7b0 : decide (t261 < 0) = false := decide_eq_false c7
              clear c7
              replace H := Option.bind_eq_some_iff.mp H
              obtain ⟨t263, A80, H⟩ := H
              replace H : (if t263 < 0 then (some (-1)) else ((laws_heldIntS.f k1 ((rd_Group l0 x5_1).f3) t263).bind fun t265 => (if t265 < 0 then (some (-1)) else (laws_heldGroupS.l0 k1 l0 t265 (wrap64 (x5_1 + 1)))))) = some r := H
              have A8 := Aside0.mk A80
              clear A80
              by_cases c9 : t263 < 0
              · rw [if_pos c9] at H
                have c9b0 : decide (t263 < 0) = true := decide_eq_true c9
                clear c9
                obtain rfl := Option.some.inj H
                have p259 : 0 ≤ (x5_1 : Int) := of_decide_eq_true dt_
                have q259 : x5_1 < (l0.length : Int) := of_decide_eq_true dt_
                obtain ⟨ad259, A259_1, c259_1, A259_2, c259_2, A259_3, c259_3, e259, hx259_0, hx259_1, hx259_2, hx259_3, hl259_1, hi259_1, hl259_2, hi259_2, hl259_3, hi259_3⟩ := at_Group HR0.out x5_1 p259 q259
                cases e259
                have HR259_1 := Aside0.mk hi259_1
                have HC259_1 := Aside0.mk hl259_1
                clear hi259_1 hl259_1
                have HR259_2 := Aside0.mk hi259_2
                have HC259_2 := Aside0.mk hl259_2
                clear hi259_2 hl259_2
                have HR259_3 := Aside0.mk hi259_3
                have HC259_3 := Aside0.mk hl259_3
                clear hi259_3 hl259_3
                replace p259 := eq_true p259
                replace q259 := eq_true q259
                have p260 : 0 ≤ (x5_1 : Int) := of_decide_eq_true dt_
                have q260 : x5_1 < (l0.length : Int) := of_decide_eq_true dt_
                obtain ⟨ad260, A260_1, c260_1, A260_2, c260_2, A260_3, c260_3, e260, hx260_0, hx260_1, hx260_2, hx260_3, hl260_1, hi260_1, hl260_2, hi260_2, hl260_3, hi260_3⟩ := at_Group HR0.out x5_1 p260 q260
                obtain rfl : ad259 = ad260 := (by injection e260)
                have HR260_1 := Aside0.mk hi260_1
                have HC260_1 := Aside0.mk hl260_1
                clear hi260_1 hl260_1
                have HR260_2 := Aside0.mk hi260_2
                have HC260_2 := Aside0.mk hl260_2
                clear hi260_2 hl260_2
                have HR260_3 := Aside0.mk hi260_3
                have HC260_3 := Aside0.mk hl260_3
                clear hi260_3 hl260_3
                replace p260 := eq_true p260
                replace q260 := eq_true q260
                have ea_ := Option.some.inj (hx259_1.symm.trans hx260_1)
                injection ea_ with ea_ en_ ec_
                subst ea_
                subst ec_
                clear en_
                have ea_ := Option.some.inj (hx259_2.symm.trans hx260_2)
                injection ea_ with ea_ en_ ec_
                subst ea_
                subst ec_
                clear en_
                have ea_ := Option.some.inj (hx259_3.symm.trans hx260_3)
                injection ea_ with ea_ en_ ec_
                subst ea_
                subst ec_
                clear en_
                go_wp2_with (first | ((with_reducible refine gate_callee (f := 94) rfl ?_); refine goesL_ (some 27) rfl rfl Try.func94 (by kernel_rfl) rfl #[.slice A259_1 ((rd_Group l0 x5_1).f1).length c259_1, .int .i64 (wrap64 (x1_1 + 1))] rfl (qe2_) ?_; (with_reducible refine (laws_heldIntS.calls k1 _ _ ((rd_Group l0 x5_1).f1) (wrap64 (x1_1 + 1)) t261 _ ?side1 ?side2 A6.out).mono ?_); (case side1 => repeat (first | exact HR260_1.out | (with_reducible refine Kd.C_alloc ?_ _) | (with_reducible refine Kd.C_drewN ?_ _) | (with_reducible refine Kd.C_drew ?_))); (case side2 => exact HC260_1.out); rintro e w' ⟨rfl, ⟨nd, rfl⟩⟩; refine ⟨_, rfl, ?_⟩; have p262 : 0 ≤ (x5_1 : Int) := of_decide_eq_true dt_; have q262 : x5_1 < (l0.length : Int) := of_decide_eq_true dt_; obtain ⟨ad262, A262_1, c262_1, A262_2, c262_2, A262_3, c262_3, e262, hx262_0, hx262_1, hx262_2, hx262_3, hl262_1, hi262_1, hl262_2, hi262_2, hl262_3, hi262_3⟩ := at_Group HR0.out x5_1 p262 q262; obtain rfl : ad259 = ad262 := (by injection e262); have HR262_1 := Aside0.mk hi262_1; have HC262_1 := Aside0.mk hl262_1; clear hi262_1 hl262_1; have HR262_2 := Aside0.mk hi262_2; have HC262_2 := Aside0.mk hl262_2; clear hi262_2 hl262_2; have HR262_3 := Aside0.mk hi262_3; have HC262_3 := Aside0.mk hl262_3; clear hi262_3 hl262_3; replace p262 := eq_true p262; replace q262 := eq_true q262; have ea_ := Option.some.inj (hx259_1.symm.trans hx262_1); injection ea_ with ea_ en_ ec_; subst ea_; subst ec_; clear en_; have ea_ := Option.some.inj (hx259_2.symm.trans hx262_2); injection ea_ with ea_ en_ ec_; subst ea_; subst ec_; clear en_; have ea_ := Option.some.inj (hx259_3.symm.trans hx262_3); injection ea_ with ea_ en_ ec_; subst ea_; subst ec_; clear en_) | ((with_reducible refine gate_callee (f := 94) rfl ?_); refine goesL_ (some 36) rfl rfl Try.func94 (by kernel_rfl) rfl #[.slice A259_2 ((rd_Group l0 x5_1).f2).length c259_2, .int .i64 t261] rfl (qe2_) ?_; (with_reducible refine (laws_heldIntS.calls k1 _ _ ((rd_Group l0 x5_1).f2) t261 t263 _ ?side1 ?side2 A8.out).mono ?_); (case side1 => repeat (first | exact HR262_2.out | (with_reducible refine Kd.C_alloc ?_ _) | (with_reducible refine Kd.C_drewN ?_ _) | (with_reducible refine Kd.C_drew ?_))); (case side2 => exact HC262_2.out); rintro e w' ⟨rfl, ⟨nd, rfl⟩⟩; refine ⟨_, rfl, ?_⟩))
                go_ret
                exact ⟨qe3_, qe5_⟩
              · rw [if_neg c9] at H
                have c9b0 : decide (t263 < 0) = false := decide_eq_false c9
                clear c9
                replace H := Option.bind_eq_some_iff.mp H
                obtain ⟨t265, A100, H⟩ := H
                replace H : (if t265 < 0 then (some (-1)) else (laws_heldGroupS.l0 k1 l0 t265 (wrap64 (x5_1 + 1)))) = some r := H
                have A10 := Aside0.mk A100
                clear A100
                by_cases c11 : t265 < 0
                · rw [if_pos c11] at H
                  have c11b0 : decide (t265 < 0) = true := decide_eq_true c11
                  clear c11
                  obtain rfl := Option.some.inj H
                  have p259 : 0 ≤ (x5_1 : Int) := of_decide_eq_true dt_
                  have q259 : x5_1 < (l0.length : Int) := of_decide_eq_true dt_
                  obtain ⟨ad259, A259_1, c259_1, A259_2, c259_2, A259_3, c259_3, e259, hx259_0, hx259_1, hx259_2, hx259_3, hl259_1, hi259_1, hl259_2, hi259_2, hl259_3, hi259_3⟩ := at_Group HR0.out x5_1 p259 q259
                  cases e259
                  have HR259_1 := Aside0.mk hi259_1
                  have HC259_1 := Aside0.mk hl259_1
                  clear hi259_1 hl259_1
                  have HR259_2 := Aside0.mk hi259_2
                  have HC259_2 := Aside0.mk hl259_2
                  clear hi259_2 hl259_2
                  have HR259_3 := Aside0.mk hi259_3
                  have HC259_3 := Aside0.mk hl259_3
                  clear hi259_3 hl259_3
                  replace p259 := eq_true p259
                  replace q259 := eq_true q259
                  have p260 : 0 ≤ (x5_1 : Int) := of_decide_eq_true dt_
                  have q260 : x5_1 < (l0.length : Int) := of_decide_eq_true dt_
                  obtain ⟨ad260, A260_1, c260_1, A260_2, c260_2, A260_3, c260_3, e260, hx260_0, hx260_1, hx260_2, hx260_3, hl260_1, hi260_1, hl260_2, hi260_2, hl260_3, hi260_3⟩ := at_Group HR0.out x5_1 p260 q260
                  obtain rfl : ad259 = ad260 := (by injection e260)
                  have HR260_1 := Aside0.mk hi260_1
                  have HC260_1 := Aside0.mk hl260_1
                  clear hi260_1 hl260_1
                  have HR260_2 := Aside0.mk hi260_2
                  have HC260_2 := Aside0.mk hl260_2
                  clear hi260_2 hl260_2
                  have HR260_3 := Aside0.mk hi260_3
                  have HC260_3 := Aside0.mk hl260_3
                  clear hi260_3 hl260_3
                  replace p260 := eq_true p260
                  replace q260 := eq_true q260
                  have ea_ := Option.some.inj (hx259_1.symm.trans hx260_1)
                  injection ea_ with ea_ en_ ec_
                  subst ea_
                  subst ec_
                  clear en_
                  have ea_ := Option.some.inj (hx259_2.symm.trans hx260_2)
                  injection ea_ with ea_ en_ ec_
                  subst ea_
                  subst ec_
                  clear en_
                  have ea_ := Option.some.inj (hx259_3.symm.trans hx260_3)
                  injection ea_ with ea_ en_ ec_
                  subst ea_
                  subst ec_
                  clear en_
                  go_wp2_with (first | ((with_reducible refine gate_callee (f := 94) rfl ?_); refine goesL_ (some 27) rfl rfl Try.func94 (by kernel_rfl) rfl #[.slice A259_1 ((rd_Group l0 x5_1).f1).length c259_1, .int .i64 (wrap64 (x1_1 + 1))] rfl (qe2_) ?_; (with_reducible refine (laws_heldIntS.calls k1 _ _ ((rd_Group l0 x5_1).f1) (wrap64 (x1_1 + 1)) t261 _ ?side1 ?side2 A6.out).mono ?_); (case side1 => repeat (first | exact HR260_1.out | (with_reducible refine Kd.C_alloc ?_ _) | (with_reducible refine Kd.C_drewN ?_ _) | (with_reducible refine Kd.C_drew ?_))); (case side2 => exact HC260_1.out); rintro e w' ⟨rfl, ⟨nd, rfl⟩⟩; refine ⟨_, rfl, ?_⟩; have p262 : 0 ≤ (x5_1 : Int) := of_decide_eq_true dt_; have q262 : x5_1 < (l0.length : Int) := of_decide_eq_true dt_; obtain ⟨ad262, A262_1, c262_1, A262_2, c262_2, A262_3, c262_3, e262, hx262_0, hx262_1, hx262_2, hx262_3, hl262_1, hi262_1, hl262_2, hi262_2, hl262_3, hi262_3⟩ := at_Group HR0.out x5_1 p262 q262; obtain rfl : ad259 = ad262 := (by injection e262); have HR262_1 := Aside0.mk hi262_1; have HC262_1 := Aside0.mk hl262_1; clear hi262_1 hl262_1; have HR262_2 := Aside0.mk hi262_2; have HC262_2 := Aside0.mk hl262_2; clear hi262_2 hl262_2; have HR262_3 := Aside0.mk hi262_3; have HC262_3 := Aside0.mk hl262_3; clear hi262_3 hl262_3; replace p262 := eq_true p262; replace q262 := eq_true q262; have ea_ := Option.some.inj (hx259_1.symm.trans hx262_1); injection ea_ with ea_ en_ ec_; subst ea_; subst ec_; clear en_; have ea_ := Option.some.inj (hx259_2.symm.trans hx262_2); injection ea_ with ea_ en_ ec_; subst ea_; subst ec_; clear en_; have ea_ := Option.some.inj (hx259_3.symm.trans hx262_3); injection ea_ with ea_ en_ ec_; subst ea_; subst ec_; clear en_) | ((with_reducible refine gate_callee (f := 94) rfl ?_); refine goesL_ (some 36) rfl rfl Try.func94 (by kernel_rfl) rfl #[.slice A259_2 ((rd_Group l0 x5_1).f2).length c259_2, .int .i64 t261] rfl (qe2_) ?_; (with_reducible refine (laws_heldIntS.calls k1 _ _ ((rd_Group l0 x5_1).f2) t261 t263 _ ?side1 ?side2 A8.out).mono ?_); (case side1 => repeat (first | exact HR262_2.out | (with_reducible refine Kd.C_alloc ?_ _) | (with_reducible refine Kd.C_drewN ?_ _) | (with_reducible refine Kd.C_drew ?_))); (case side2 => exact HC262_2.out); rintro e w' ⟨rfl, ⟨nd, rfl⟩⟩; refine ⟨_, rfl, ?_⟩; have p264 : 0 ≤ (x5_1 : Int) := of_decide_eq_true dt_; have q264 : x5_1 < (l0.length : Int) := of_decide_eq_true dt_; obtain ⟨ad264, A264_1, c264_1, A264_2, c264_2, A264_3, c264_3, e264, hx264_0, hx264_1, hx264_2, hx264_3, hl264_1, hi264_1, hl264_2, hi264_2, hl264_3, hi264_3⟩ := at_Group HR0.out x5_1 p264 q264; obtain rfl : ad259 = ad264 := (by injection e264); have HR264_1 := Aside0.mk hi264_1; have HC264_1 := Aside0.mk hl264_1; clear hi264_1 hl264_1; have HR264_2 := Aside0.mk hi264_2; have HC264_2 := Aside0.mk hl264_2; clear hi264_2 hl264_2; have HR264_3 := Aside0.mk hi264_3; have HC264_3 := Aside0.mk hl264_3; clear hi264_3 hl264_3; replace p264 := eq_true p264; replace q264 := eq_true q264; have ea_ := Option.some.inj (hx259_1.symm.trans hx264_1); injection ea_ with ea_ en_ ec_; subst ea_; subst ec_; clear en_; have ea_ := Option.some.inj (hx259_2.symm.trans hx264_2); injection ea_ with ea_ en_ ec_; subst ea_; subst ec_; clear en_; have ea_ := Option.some.inj (hx259_3.symm.trans hx264_3); injection ea_ with ea_ en_ ec_; subst ea_; subst ec_; clear en_) | ((with_reducible refine gate_callee (f := 94) rfl ?_); refine goesL_ (some 45) rfl rfl Try.func94 (by kernel_rfl) rfl #[.slice A259_3 ((rd_Group l0 x5_1).f3).length c259_3, .int .i64 t263] rfl (qe2_) ?_; (with_reducible refine (laws_heldIntS.calls k1 _ _ ((rd_Group l0 x5_1).f3) t263 t265 _ ?side1 ?side2 A10.out).mono ?_); (case side1 => repeat (first | exact HR264_3.out | (with_reducible refine Kd.C_alloc ?_ _) | (with_reducible refine Kd.C_drewN ?_ _) | (with_reducible refine Kd.C_drew ?_))); (case side2 => exact HC264_3.out); rintro e w' ⟨rfl, ⟨nd, rfl⟩⟩; refine ⟨_, rfl, ?_⟩))
                  go_ret
                  exact ⟨qe3_, qe5_⟩
                · rw [if_neg c11] at H
                  have c11b0 : decide (t265 < 0) = false := decide_eq_false c11
                  clear c11
                  have H' := Aside0.mk H
                  clear H
                  have p259 : 0 ≤ (x5_1 : Int) := of_decide_eq_true dt_
                  have q259 : x5_1 < (l0.length : Int) := of_decide_eq_true dt_
                  obtain ⟨ad259, A259_1, c259_1, A259_2, c259_2, A259_3, c259_3, e259, hx259_0, hx259_1, hx259_2, hx259_3, hl259_1, hi259_1, hl259_2, hi259_2, hl259_3, hi259_3⟩ := at_Group HR0.out x5_1 p259 q259
                  cases e259
                  have HR259_1 := Aside0.mk hi259_1
                  have HC259_1 := Aside0.mk hl259_1
                  clear hi259_1 hl259_1
                  have HR259_2 := Aside0.mk hi259_2
                  have HC259_2 := Aside0.mk hl259_2
                  clear hi259_2 hl259_2
                  have HR259_3 := Aside0.mk hi259_3
                  have HC259_3 := Aside0.mk hl259_3
                  clear hi259_3 hl259_3
                  replace p259 := eq_true p259
                  replace q259 := eq_true q259
                  have p260 : 0 ≤ (x5_1 : Int) := of_decide_eq_true dt_
                  have q260 : x5_1 < (l0.length : Int) := of_decide_eq_true dt_
                  obtain ⟨ad260, A260_1, c260_1, A260_2, c260_2, A260_3, c260_3, e260, hx260_0, hx260_1, hx260_2, hx260_3, hl260_1, hi260_1, hl260_2, hi260_2, hl260_3, hi260_3⟩ := at_Group HR0.out x5_1 p260 q260
                  obtain rfl : ad259 = ad260 := (by injection e260)
                  have HR260_1 := Aside0.mk hi260_1
                  have HC260_1 := Aside0.mk hl260_1
                  clear hi260_1 hl260_1
                  have HR260_2 := Aside0.mk hi260_2
                  have HC260_2 := Aside0.mk hl260_2
                  clear hi260_2 hl260_2
                  have HR260_3 := Aside0.mk hi260_3
                  have HC260_3 := Aside0.mk hl260_3
                  clear hi260_3 hl260_3
                  replace p260 := eq_true p260
                  replace q260 := eq_true q260
                  have ea_ := Option.some.inj (hx259_1.symm.trans hx260_1)
                  injection ea_ with ea_ en_ ec_
                  subst ea_
                  subst ec_
                  clear en_
                  have ea_ := Option.some.inj (hx259_2.symm.trans hx260_2)
                  injection ea_ with ea_ en_ ec_
                  subst ea_
                  subst ec_
                  clear en_
                  have ea_ := Option.some.inj (hx259_3.symm.trans hx260_3)
                  injection ea_ with ea_ en_ ec_
                  subst ea_
                  subst ec_
                  clear en_
                  go_wp2_with (first | ((with_reducible refine gate_callee (f := 94) rfl ?_); refine goesL_ (some 27) rfl rfl Try.func94 (by kernel_rfl) rfl #[.slice A259_1 ((rd_Group l0 x5_1).f1).length c259_1, .int .i64 (wrap64 (x1_1 + 1))] rfl (qe2_) ?_; (with_reducible refine (laws_heldIntS.calls k1 _ _ ((rd_Group l0 x5_1).f1) (wrap64 (x1_1 + 1)) t261 _ ?side1 ?side2 A6.out).mono ?_); (case side1 => repeat (first | exact HR260_1.out | (with_reducible refine Kd.C_alloc ?_ _) | (with_reducible refine Kd.C_drewN ?_ _) | (with_reducible refine Kd.C_drew ?_))); (case side2 => exact HC260_1.out); rintro e w' ⟨rfl, ⟨nd, rfl⟩⟩; refine ⟨_, rfl, ?_⟩; have p262 : 0 ≤ (x5_1 : Int) := of_decide_eq_true dt_; have q262 : x5_1 < (l0.length : Int) := of_decide_eq_true dt_; obtain ⟨ad262, A262_1, c262_1, A262_2, c262_2, A262_3, c262_3, e262, hx262_0, hx262_1, hx262_2, hx262_3, hl262_1, hi262_1, hl262_2, hi262_2, hl262_3, hi262_3⟩ := at_Group HR0.out x5_1 p262 q262; obtain rfl : ad259 = ad262 := (by injection e262); have HR262_1 := Aside0.mk hi262_1; have HC262_1 := Aside0.mk hl262_1; clear hi262_1 hl262_1; have HR262_2 := Aside0.mk hi262_2; have HC262_2 := Aside0.mk hl262_2; clear hi262_2 hl262_2; have HR262_3 := Aside0.mk hi262_3; have HC262_3 := Aside0.mk hl262_3; clear hi262_3 hl262_3; replace p262 := eq_true p262; replace q262 := eq_true q262; have ea_ := Option.some.inj (hx259_1.symm.trans hx262_1); injection ea_ with ea_ en_ ec_; subst ea_; subst ec_; clear en_; have ea_ := Option.some.inj (hx259_2.symm.trans hx262_2); injection ea_ with ea_ en_ ec_; subst ea_; subst ec_; clear en_; have ea_ := Option.some.inj (hx259_3.symm.trans hx262_3); injection ea_ with ea_ en_ ec_; subst ea_; subst ec_; clear en_) | ((with_reducible refine gate_callee (f := 94) rfl ?_); refine goesL_ (some 36) rfl rfl Try.func94 (by kernel_rfl) rfl #[.slice A259_2 ((rd_Group l0 x5_1).f2).length c259_2, .int .i64 t261] rfl (qe2_) ?_; (with_reducible refine (laws_heldIntS.calls k1 _ _ ((rd_Group l0 x5_1).f2) t261 t263 _ ?side1 ?side2 A8.out).mono ?_); (case side1 => repeat (first | exact HR262_2.out | (with_reducible refine Kd.C_alloc ?_ _) | (with_reducible refine Kd.C_drewN ?_ _) | (with_reducible refine Kd.C_drew ?_))); (case side2 => exact HC262_2.out); rintro e w' ⟨rfl, ⟨nd, rfl⟩⟩; refine ⟨_, rfl, ?_⟩; have p264 : 0 ≤ (x5_1 : Int) := of_decide_eq_true dt_; have q264 : x5_1 < (l0.length : Int) := of_decide_eq_true dt_; obtain ⟨ad264, A264_1, c264_1, A264_2, c264_2, A264_3, c264_3, e264, hx264_0, hx264_1, hx264_2, hx264_3, hl264_1, hi264_1, hl264_2, hi264_2, hl264_3, hi264_3⟩ := at_Group HR0.out x5_1 p264 q264; obtain rfl : ad259 = ad264 := (by injection e264); have HR264_1 := Aside0.mk hi264_1; have HC264_1 := Aside0.mk hl264_1; clear hi264_1 hl264_1; have HR264_2 := Aside0.mk hi264_2; have HC264_2 := Aside0.mk hl264_2; clear hi264_2 hl264_2; have HR264_3 := Aside0.mk hi264_3; have HC264_3 := Aside0.mk hl264_3; clear hi264_3 hl264_3; replace p264 := eq_true p264; replace q264 := eq_true q264; have ea_ := Option.some.inj (hx259_1.symm.trans hx264_1); injection ea_ with ea_ en_ ec_; subst ea_; subst ec_; clear en_; have ea_ := Option.some.inj (hx259_2.symm.trans hx264_2); injection ea_ with ea_ en_ ec_; subst ea_; subst ec_; clear en_; have ea_ := Option.some.inj (hx259_3.symm.trans hx264_3); injection ea_ with ea_ en_ ec_; subst ea_; subst ec_; clear en_) | ((with_reducible refine gate_callee (f := 94) rfl ?_); refine goesL_ (some 45) rfl rfl Try.func94 (by kernel_rfl) rfl #[.slice A259_3 ((rd_Group l0 x5_1).f3).length c259_3, .int .i64 t263] rfl (qe2_) ?_; (with_reducible refine (laws_heldIntS.calls k1 _ _ ((rd_Group l0 x5_1).f3) t263 t265 _ ?side1 ?side2 A10.out).mono ?_); (case side1 => repeat (first | exact HR264_3.out | (with_reducible refine Kd.C_alloc ?_ _) | (with_reducible refine Kd.C_drewN ?_ _) | (with_reducible refine Kd.C_drew ?_))); (case side2 => exact HC264_3.out); rintro e w' ⟨rfl, ⟨nd, rfl⟩⟩; refine ⟨_, rfl, ?_⟩))
                  go_roundg k1
                  case measure => have := HK1.out; omega
                  case rel => exact ⟨(t265), (wrap64 (x5_1 + 1)), (qe3_), (qe3_), H', ⟨by have := HK1.out; omega⟩, qe5_⟩
          · rw [if_neg c5] at H
            have c5b0 : (((rd_Group l0 x5_1).f0) == x1_1) = false := beq_eq_false_iff_ne.mpr c5
            have c5b1 : (((rd_Group l0 x5_1).f0) != x1_1) = true := bne_iff_ne.mpr c5
            obtain rfl := Option.some.inj H
            have p259 : 0 ≤ (x5_1 : Int) := of_decide_eq_true dt_
            have q259 : x5_1 < (l0.length : Int) := of_decide_eq_true dt_
            obtain ⟨ad259, A259_1, c259_1, A259_2, c259_2, A259_3, c259_3, e259, hx259_0, hx259_1, hx259_2, hx259_3, hl259_1, hi259_1, hl259_2, hi259_2, hl259_3, hi259_3⟩ := at_Group HR0.out x5_1 p259 q259
            cases e259
            have HR259_1 := Aside0.mk hi259_1
            have HC259_1 := Aside0.mk hl259_1
            clear hi259_1 hl259_1
            have HR259_2 := Aside0.mk hi259_2
            have HC259_2 := Aside0.mk hl259_2
            clear hi259_2 hl259_2
            have HR259_3 := Aside0.mk hi259_3
            have HC259_3 := Aside0.mk hl259_3
            clear hi259_3 hl259_3
            replace p259 := eq_true p259
            replace q259 := eq_true q259
            go_wp2
            go_ret
            exact ⟨qe3_, qe5_⟩
        · rw [if_neg c4] at H
          exact absurd H (by simp)
      · rw [if_neg c3] at H
        have c3b0 : decide (x5_1 < (l0.length : Int)) = false := decide_eq_false c3
        clear c3
        obtain rfl := Option.some.inj H
        go_wp2
        go_ret
        exact ⟨qe3_, qe5_⟩
end Go.Proofs.Ythmjhhkheohgfaa.Q
