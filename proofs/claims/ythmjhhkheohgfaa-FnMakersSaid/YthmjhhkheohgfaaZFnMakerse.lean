/- Made by a program of ours out of the print of the loaded functions: for each of some functions a plain function, and the walk that shows that a call comes to what it says. No condition but those of each theorem. -/
import Derived.Test.YthmjhhkheohgfaaZFnMakers0
import Derived.Test.YthmjhhkheohgfaaZFnMakersa
namespace Go.Proofs.Ythmjhhkheohgfaa.Q
open Go.RowKit Go.Proofs.YthmjhhkheohgfaaW.PrintWords Go.Proofs.YthmjhhkheohgfaaW.PrintLast Go.Proofs.YthmjhhkheohgfaaW.PrintMore
attribute [local go_sem] max2_int min2_int max_two min_two max_three min_three max_four min_four   -- for this text's walks alone
set_option linter.unusedVariables false
set_option linter.unusedSimpArgs false
theorem qe0_ {P : Prop} (h : P := by first | rfl | (simp; done) | (simp [*]; done)) : P := h
theorem qe1_ {P : Prop} (h : P := by have := HJ2.out; have := HJ19.out; have := HK3.out; have := HJ22.out; first | omega | exact Nat.le_refl _) : P := h
theorem qe2_ {P : Prop} (h : P := by have := HK1.out; have := HJ4.out; first | omega | exact Nat.le_refl _) : P := h
theorem qe3_ {P : Prop} (h : P := by have := HJ2.out; first | omega | exact Nat.le_refl _) : P := h
theorem qe4_ {P : Prop} (h : P := by first | omega | exact Nat.le_refl _) : P := h
theorem qe5_ {P : Prop} (h : P := by have hgv : wr.heap.size ≤ gv := Nat.le_of_eq GV.out.symm; rw [hw]; exact below_set (below_set (below_set (below_set (below_set B7.out hgv) hgv) hgv) hgv) hgv) : P := h
theorem qeh0_ {P : Prop} (h : P := by repeat' first | (with_reducible exact ih0 _ _ _ _ _ _) | (with_reducible exact ih1 _ _ _ _ _) | (with_reducible exact ih2 _ _ _ _ _ _ _ _) | (with_reducible exact ih3 _ _ _ _ _ _ _ _) | (with_reducible exact ih4 _ _ _ _ _ _ _ _ _) | (with_reducible exact LeO.refl _) | (with_reducible exact LeO.none _) | (with_reducible refine LeO.ite ?_ ?_) | (with_reducible refine LeO.bind ?_ (fun _ => ?_)) | exact ih0 _ _ _ _ _ _ | exact ih1 _ _ _ _ _ | exact ih2 _ _ _ _ _ _ _ _ | exact ih3 _ _ _ _ _ _ _ _ | exact ih4 _ _ _ _ _ _ _ _ _ | exact LeO.none _ | refine LeO.ite ?_ ?_ | refine LeO.bind ?_ (fun _ => ?_)) : P := h
theorem qeh1_ {P : Prop} (h : P := by repeat' first | (with_reducible exact ih0 _ _ _ _ _ _) | (with_reducible exact ih1 _ _ _ _ _ _) | (with_reducible exact ih2 _ _ _ _ _) | (with_reducible exact ih3 _ _ _ _ _ _ _) | (with_reducible exact ih4 _ _ _ _ _ _ _) | (with_reducible exact ih5 _ _ _ _ _ _ _ _) | (with_reducible exact LeO.refl _) | (with_reducible exact LeO.none _) | (with_reducible refine LeO.ite ?_ ?_) | (with_reducible refine LeO.bind ?_ (fun _ => ?_)) | exact ih0 _ _ _ _ _ _ | exact ih1 _ _ _ _ _ _ | exact ih2 _ _ _ _ _ | exact ih3 _ _ _ _ _ _ _ | exact ih4 _ _ _ _ _ _ _ | exact ih5 _ _ _ _ _ _ _ _ | exact LeO.none _ | refine LeO.ite ?_ ?_ | refine LeO.bind ?_ (fun _ => ?_)) : P := h

/-! ### impl_MakerOk: function 41 -/
abbrev impl_MakerOk.m0 : Array Bool := #[f_,f_,f_,f_,f_,f_,f_,f_,f_,f_,f_,f_,f_,f_,f_,f_,f_,f_,f_,f_,f_,f_,f_,f_,f_,f_,f_,f_,f_,f_,f_,f_,f_,f_]
abbrev impl_MakerOk.m1 : Array Bool := #[t_,f_,f_,f_,f_,f_,f_,f_,f_,f_,f_,f_,f_,f_,f_,f_,f_,f_,f_,f_,f_,f_,f_,f_,f_,f_,f_,f_,f_,f_,f_,f_,f_,f_]
abbrev impl_MakerOk.m2 : Array Bool := #[t_,f_,t_,f_,f_,f_,f_,f_,f_,f_,f_,f_,f_,f_,f_,f_,f_,f_,f_,f_,f_,f_,f_,f_,f_,f_,f_,f_,f_,f_,f_,f_,f_,f_]
abbrev impl_MakerOk.m3 : Array Bool := #[t_,f_,t_,f_,t_,f_,f_,f_,f_,f_,f_,f_,f_,f_,f_,f_,f_,f_,f_,f_,f_,f_,f_,f_,f_,f_,f_,f_,f_,f_,f_,f_,f_,f_]
abbrev impl_MakerOk.m4 : Array Bool := #[t_,f_,t_,f_,t_,f_,f_,f_,f_,t_,f_,f_,f_,f_,f_,f_,f_,f_,f_,f_,f_,f_,f_,f_,f_,f_,f_,f_,f_,f_,f_,f_,f_,f_]
abbrev impl_MakerOk.m5 : Array Bool := #[t_,t_,t_,f_,t_,f_,f_,f_,f_,t_,f_,f_,f_,f_,f_,f_,f_,f_,f_,f_,f_,f_,f_,f_,f_,f_,f_,f_,f_,f_,f_,f_,f_,f_]
abbrev impl_MakerOk.m6 : Array Bool := #[t_,t_,t_,t_,t_,f_,f_,f_,f_,t_,f_,f_,f_,f_,f_,f_,f_,f_,f_,f_,f_,f_,f_,f_,f_,f_,f_,f_,f_,f_,f_,f_,f_,f_]
abbrev impl_MakerOk.m7 : Array Bool := #[t_,t_,t_,t_,t_,t_,f_,f_,f_,t_,f_,f_,f_,f_,f_,f_,f_,f_,f_,f_,f_,f_,f_,f_,f_,f_,f_,f_,f_,f_,f_,f_,f_,f_]
abbrev impl_MakerOk.m8 : Array Bool := #[t_,t_,t_,t_,t_,t_,t_,f_,f_,t_,f_,f_,f_,f_,f_,f_,f_,f_,f_,f_,f_,f_,f_,f_,f_,f_,f_,f_,f_,f_,f_,f_,f_,f_]
abbrev impl_MakerOk.m9 : Array Bool := #[t_,t_,t_,t_,t_,t_,t_,t_,f_,t_,f_,f_,f_,f_,f_,f_,f_,f_,f_,f_,f_,f_,f_,f_,f_,f_,f_,f_,f_,f_,f_,f_,f_,f_]
abbrev impl_MakerOk.m10 : Array Bool := #[t_,t_,t_,t_,t_,t_,t_,t_,t_,t_,f_,f_,f_,f_,f_,f_,f_,f_,f_,f_,f_,f_,f_,f_,f_,f_,f_,f_,f_,f_,f_,f_,f_,f_]
abbrev impl_MakerOk.m11 : Array Bool := #[t_,t_,t_,t_,t_,t_,t_,t_,t_,t_,t_,f_,f_,f_,f_,f_,f_,f_,f_,f_,f_,f_,f_,f_,f_,f_,f_,f_,f_,f_,f_,f_,f_,f_]
abbrev impl_MakerOk.m12 : Array Bool := #[t_,t_,t_,t_,t_,t_,t_,t_,t_,t_,t_,t_,f_,f_,f_,f_,f_,f_,f_,f_,f_,f_,f_,f_,f_,f_,f_,f_,f_,f_,f_,f_,f_,f_]
abbrev impl_MakerOk.m13 : Array Bool := #[t_,t_,t_,t_,t_,t_,t_,t_,t_,t_,t_,t_,t_,f_,f_,f_,f_,f_,f_,f_,f_,f_,f_,f_,f_,f_,f_,f_,f_,f_,f_,f_,f_,f_]
abbrev impl_MakerOk.m14 : Array Bool := #[t_,t_,t_,t_,t_,t_,t_,t_,t_,t_,t_,t_,t_,t_,f_,f_,f_,f_,f_,f_,f_,f_,f_,f_,f_,f_,f_,f_,f_,f_,f_,f_,f_,f_]
abbrev impl_MakerOk.m15 : Array Bool := #[t_,t_,t_,t_,t_,t_,t_,t_,t_,t_,t_,t_,t_,t_,t_,f_,f_,f_,f_,f_,f_,f_,f_,f_,f_,f_,f_,f_,f_,f_,f_,f_,f_,f_]
abbrev impl_MakerOk.m16 : Array Bool := #[t_,t_,t_,t_,t_,t_,t_,t_,t_,t_,t_,t_,t_,t_,t_,t_,f_,f_,f_,f_,f_,f_,f_,f_,f_,f_,f_,f_,f_,f_,f_,f_,f_,f_]
abbrev impl_MakerOk.m17 : Array Bool := #[t_,t_,t_,t_,t_,t_,t_,t_,t_,t_,t_,t_,t_,t_,t_,t_,t_,f_,f_,f_,f_,f_,f_,f_,f_,f_,f_,f_,f_,f_,f_,f_,f_,f_]
abbrev impl_MakerOk.m18 : Array Bool := #[t_,t_,t_,t_,t_,t_,t_,t_,t_,t_,t_,t_,t_,t_,t_,t_,t_,t_,f_,f_,f_,f_,f_,f_,f_,f_,f_,f_,f_,f_,f_,f_,f_,f_]
abbrev impl_MakerOk.m19 : Array Bool := #[t_,t_,t_,t_,t_,t_,t_,t_,t_,t_,t_,t_,t_,t_,t_,t_,t_,t_,t_,f_,f_,f_,f_,f_,f_,f_,f_,f_,f_,f_,f_,f_,f_,f_]
abbrev impl_MakerOk.m20 : Array Bool := #[t_,t_,t_,t_,t_,t_,t_,t_,t_,t_,t_,t_,t_,t_,t_,t_,t_,t_,t_,t_,f_,f_,f_,f_,f_,f_,f_,f_,f_,f_,f_,f_,f_,f_]
abbrev impl_MakerOk.m21 : Array Bool := #[t_,t_,t_,t_,t_,t_,t_,t_,t_,t_,t_,t_,t_,t_,t_,t_,t_,t_,t_,t_,t_,f_,f_,f_,f_,f_,f_,f_,f_,f_,f_,f_,f_,f_]
abbrev impl_MakerOk.m22 : Array Bool := #[t_,t_,t_,t_,t_,t_,t_,t_,t_,t_,t_,t_,t_,t_,t_,t_,t_,t_,t_,t_,t_,t_,f_,f_,f_,f_,f_,f_,f_,f_,f_,f_,f_,f_]
abbrev impl_MakerOk.m23 : Array Bool := #[t_,t_,t_,t_,t_,t_,t_,t_,t_,t_,t_,t_,t_,t_,t_,t_,t_,t_,t_,t_,t_,t_,t_,f_,f_,f_,f_,f_,f_,f_,f_,f_,f_,f_]
abbrev impl_MakerOk.m24 : Array Bool := #[t_,t_,t_,t_,t_,t_,t_,t_,t_,t_,t_,t_,t_,t_,t_,t_,t_,t_,t_,t_,t_,t_,t_,t_,t_,t_,t_,t_,t_,t_,f_,f_,f_,f_]
abbrev impl_MakerOk.m25 : Array Bool := #[t_,t_,t_,t_,t_,t_,t_,t_,t_,t_,t_,t_,t_,t_,t_,t_,t_,t_,t_,t_,t_,t_,t_,t_,t_,t_,t_,t_,t_,t_,t_,f_,f_,f_]
abbrev impl_MakerOk.m26 : Array Bool := #[t_,t_,t_,t_,t_,t_,t_,t_,t_,t_,t_,t_,t_,t_,t_,t_,t_,t_,t_,t_,t_,t_,t_,t_,t_,t_,t_,t_,t_,t_,t_,t_,f_,f_]
abbrev impl_MakerOk.m27 : Array Bool := #[t_,t_,t_,t_,t_,t_,t_,t_,t_,t_,t_,t_,t_,t_,t_,t_,t_,t_,t_,t_,t_,t_,t_,t_,t_,t_,t_,t_,t_,t_,t_,t_,t_,f_]
abbrev impl_MakerOk.m28 : Array Bool := #[t_,t_,t_,t_,t_,t_,t_,t_,t_,t_,t_,t_,t_,t_,t_,t_,t_,t_,t_,t_,t_,t_,t_,t_,t_,t_,t_,t_,t_,t_,t_,t_,t_,t_]
abbrev impl_MakerOk.m29 : Array Bool := #[t_,t_,t_,t_,t_,t_,t_,t_,t_,t_,t_,t_,t_,t_,t_,t_,t_,t_,t_,t_,t_,t_,t_,t_,f_,f_,f_,f_,f_,f_,f_,f_,f_,f_]
abbrev impl_MakerOk.m30 : Array Bool := #[t_,t_,t_,t_,t_,t_,t_,t_,t_,t_,t_,t_,t_,t_,t_,t_,t_,t_,t_,t_,t_,t_,t_,t_,t_,f_,f_,f_,f_,f_,f_,f_,f_,f_]
abbrev impl_MakerOk.m31 : Array Bool := #[t_,t_,t_,t_,t_,t_,t_,t_,t_,t_,t_,t_,t_,t_,t_,t_,t_,t_,t_,t_,t_,t_,t_,t_,t_,t_,f_,f_,f_,f_,f_,f_,f_,f_]
abbrev impl_MakerOk.m32 : Array Bool := #[t_,t_,t_,t_,t_,t_,t_,t_,t_,t_,t_,t_,t_,t_,t_,t_,t_,t_,t_,t_,t_,t_,t_,t_,t_,t_,t_,f_,f_,f_,f_,f_,f_,f_]
abbrev impl_MakerOk.m33 : Array Bool := #[t_,t_,t_,t_,t_,t_,t_,t_,t_,t_,t_,t_,t_,t_,t_,t_,t_,t_,t_,t_,t_,t_,t_,t_,t_,t_,t_,t_,f_,f_,f_,f_,f_,f_]
abbrev impl_MakerOk.m34 : Array Bool := #[t_,t_,t_,t_,t_,t_,t_,t_,t_,t_,t_,t_,t_,t_,t_,t_,t_,t_,t_,t_,t_,t_,t_,t_,t_,t_,t_,t_,t_,f_,f_,f_,f_,f_]
mutual
def impl_MakerOk.j0 : Nat → Bool → Int → Int → Int → Int → List (S_Mark) → Option (Bool)
 | 0, _, _, _, _, _, _ => none
 | k + 1, x45, x994000, x994001, x994002, x994003, x994004 => if x45 = true then (some false) else (impl_MakerOk.j1 k x994000 x994001 x994002 x994003 x994004)
def impl_MakerOk.j1 : Nat → Int → Int → Int → Int → List (S_Mark) → Option (Bool)
 | 0, _, _, _, _, _ => none
 | k + 1, x994000, x994001, x994002, x994003, x994004 => impl_MakerOk.l0 k x994004 (x994004.length : Int) 0 x994000 x994001 x994002 x994003 x994004
def impl_MakerOk.l0 : Nat → List (S_Mark) → Int → Int → Int → Int → Int → Int → List (S_Mark) → Option (Bool)
 | 0, _, _, _, _, _, _, _, _ => none
 | k + 1, x47, x48, x49, x994000, x994001, x994002, x994003, x994004 => if x49 < x48 then (impl_MakerOk.j3 k x47 x48 x49 x994000 x994001 x994002 x994003 x994004) else (some true)
def impl_MakerOk.j3 : Nat → List (S_Mark) → Int → Int → Int → Int → Int → Int → List (S_Mark) → Option (Bool)
 | 0, _, _, _, _, _, _, _, _ => none
 | k + 1, x47, x48, x49, x994000, x994001, x994002, x994003, x994004 => if 0 ≤ x49 then (if x49 < (x47.length : Int) then (if ((rd_Mark x47 x49).f0) = (wrap64 ((wrap64 ((wrap64 (x994003 - (x994004.length : Int))) + 1)) + x49)) then ((impl_within.f ((rd_Mark x47 x49).f1) 0 100000).bind fun t1000 => (if t1000 = true then (if x49 > 0 then (if 0 ≤ (wrap64 (x49 - 1)) then (if (wrap64 (x49 - 1)) < (x994004.length : Int) then (impl_MakerOk.j4 k x47 x48 x49 (decide (((rd_Mark x994004 (wrap64 (x49 - 1))).f1) ≥ ((rd_Mark x47 x49).f1))) x994000 x994001 x994002 x994003 x994004) else (none)) else (none)) else (impl_MakerOk.j4 k x47 x48 x49 false x994000 x994001 x994002 x994003 x994004)) else (impl_MakerOk.j4 k x47 x48 x49 true x994000 x994001 x994002 x994003 x994004))) else (impl_MakerOk.j4 k x47 x48 x49 true x994000 x994001 x994002 x994003 x994004)) else (none)) else (none)
def impl_MakerOk.j4 : Nat → List (S_Mark) → Int → Int → Bool → Int → Int → Int → Int → List (S_Mark) → Option (Bool)
 | 0, _, _, _, _, _, _, _, _, _ => none
 | k + 1, x47, x48, x49, x87, x994000, x994001, x994002, x994003, x994004 => if x87 = true then (some false) else (impl_MakerOk.l0 k x47 x48 (wrap64 (x49 + 1)) x994000 x994001 x994002 x994003 x994004)
end
def impl_MakerOk.f (k : Nat) (a0_0 : Int) (a0_1 : Int) (a0_2 : Int) (a0_3 : Int) (l0_4 : List (S_Mark)) (a1 : Int) : Option (Bool) := (impl_within.f a0_0 0 3).bind fun t994 => (if t994 = true then ((impl_within.f a0_1 0 3).bind fun t995 => (if t995 = true then ((impl_within.f a0_2 0 100000).bind fun t996 => (if t996 = true then ((impl_within.f a0_3 (-1) 100000).bind fun t997 => (if t997 = true then (if (l0_4.length : Int) > a1 then (impl_MakerOk.j0 k true a0_0 a0_1 a0_2 a0_3 l0_4) else (impl_MakerOk.j0 k ((a0_3 == (-1)) != ((l0_4.length : Int) == 0)) a0_0 a0_1 a0_2 a0_3 l0_4)) else (impl_MakerOk.j0 k true a0_0 a0_1 a0_2 a0_3 l0_4))) else (impl_MakerOk.j0 k true a0_0 a0_1 a0_2 a0_3 l0_4))) else (impl_MakerOk.j0 k true a0_0 a0_1 a0_2 a0_3 l0_4))) else (impl_MakerOk.j0 k true a0_0 a0_1 a0_2 a0_3 l0_4))
theorem impl_MakerOk.mono_l : ∀ k, (∀ y0 y1 y2 y3 y4 y5, LeO (impl_MakerOk.j0 k y0 y1 y2 y3 y4 y5) (impl_MakerOk.j0 (k + 1) y0 y1 y2 y3 y4 y5)) ∧ (∀ y0 y1 y2 y3 y4, LeO (impl_MakerOk.j1 k y0 y1 y2 y3 y4) (impl_MakerOk.j1 (k + 1) y0 y1 y2 y3 y4)) ∧ (∀ y0 y1 y2 y3 y4 y5 y6 y7, LeO (impl_MakerOk.l0 k y0 y1 y2 y3 y4 y5 y6 y7) (impl_MakerOk.l0 (k + 1) y0 y1 y2 y3 y4 y5 y6 y7)) ∧ (∀ y0 y1 y2 y3 y4 y5 y6 y7, LeO (impl_MakerOk.j3 k y0 y1 y2 y3 y4 y5 y6 y7) (impl_MakerOk.j3 (k + 1) y0 y1 y2 y3 y4 y5 y6 y7)) ∧ (∀ y0 y1 y2 y3 y4 y5 y6 y7 y8, LeO (impl_MakerOk.j4 k y0 y1 y2 y3 y4 y5 y6 y7 y8) (impl_MakerOk.j4 (k + 1) y0 y1 y2 y3 y4 y5 y6 y7 y8))
 | 0 => ⟨fun _ _ _ _ _ _ r h => by simp [impl_MakerOk.j0] at h, fun _ _ _ _ _ r h => by simp [impl_MakerOk.j1] at h, fun _ _ _ _ _ _ _ _ r h => by simp [impl_MakerOk.l0] at h, fun _ _ _ _ _ _ _ _ r h => by simp [impl_MakerOk.j3] at h, fun _ _ _ _ _ _ _ _ _ r h => by simp [impl_MakerOk.j4] at h⟩
 | k + 1 => by
  obtain ⟨ih0, ih1, ih2, ih3, ih4⟩ := impl_MakerOk.mono_l k
  refine ⟨?_, ?_, ?_, ?_, ?_⟩
  ·
   intro y0 y1 y2 y3 y4 y5
   unfold impl_MakerOk.j0
   exact qeh0_
  ·
   intro y0 y1 y2 y3 y4
   unfold impl_MakerOk.j1
   exact qeh0_
  ·
   intro y0 y1 y2 y3 y4 y5 y6 y7
   unfold impl_MakerOk.l0
   exact qeh0_
  ·
   intro y0 y1 y2 y3 y4 y5 y6 y7
   unfold impl_MakerOk.j3
   exact qeh0_
  ·
   intro y0 y1 y2 y3 y4 y5 y6 y7 y8
   unfold impl_MakerOk.j4
   exact qeh0_
theorem impl_MakerOk.mono : ∀ a0 a1 a2 a3 a4 a5 k, LeO (impl_MakerOk.f k a0 a1 a2 a3 a4 a5) (impl_MakerOk.f (k + 1) a0 a1 a2 a3 a4 a5) := by
 intro a0 a1 a2 a3 a4 a5 k
 obtain ⟨ih0, ih1, ih2, ih3, ih4⟩ := impl_MakerOk.mono_l k
 unfold impl_MakerOk.f
 exact qeh0_
def impl_MakerOk.T6 : Bool × List (List Nat × List Nat) := (true, [([], []), ([0], [0]), ([], []), ([2], [2]), ([], []), ([4], [4]), ([5], [5]), ([3, 6], [3, 6]), ([7], [7]), ([], []), ([8, 9], [8, 9]), ([1, 10], [1, 10]), ([11], [11]), ([12], [12]), ([13, 12], [12, 13]), ([14, 12, 12], [12, 14]), ([15, 12], [12, 15]), ([12, 16], [12, 16]), ([17, 15], [17]), ([18], [18]), ([19, 18], [18, 19]), ([20, 18, 18], [18, 20]), ([21], [21]), ([22, 21], [21, 22]), ([21], [21]), ([24, 21], [21, 24]), ([23, 25, 21], [21, 23, 25]), ([26, 21], [21, 26]), ([27, 21], [21, 27]), ([21], [21]), ([29, 21], [21, 29]), ([28, 30, 21], [21, 28, 30]), ([21, 31, 18], [18, 21, 31]), ([18, 32], [18, 32])])
def impl_MakerOk.B6 : List Nat := [0, 1, 0, 4, 0, 16, 48, 124, 252, 0, 1020, 2047, 4095, 8191, 16383, 32767, 65535, 131071, 262143, 524287, 1048575, 2097151, 4194303, 8388607, 4194303, 20971519, 67108863, 134217727, 268435455, 4194303, 541065215, 2147483647, 4294967295, 8589934591]
theorem impl_MakerOk.tab6 : rtab .any (opsOf Try.f41 6) = impl_MakerOk.T6 := by kernel_rfl
theorem impl_MakerOk.bits6 : waitsOk impl_MakerOk.T6.2 impl_MakerOk.B6 = true := by kernel_rfl
set_option maxHeartbeats 8000000 in
set_option maxRecDepth 100000 in
theorem impl_MakerOk.calls (k : Nat) (a0_0 : Int) (a0_1 : Int) (a0_2 : Int) (a0_3 : Int) (A0_4 : Option Addr) (c0_4 : Nat) (l0_4 : List (S_Mark)) (a1 : Int) (r : Bool) (w : World) (hr0_4 : Kd.C k_Mark w A0_4 l0_4.length l0_4) (hc0_4 : l0_4.length ≤ c0_4) (h : impl_MakerOk.f k a0_0 a0_1 a0_2 a0_3 l0_4 a1 = some r) :
 Calls Try.prog 41 #[.agg #[.int .i64 a0_0, .int .i64 a0_1, .int .i64 a0_2, .int .i64 a0_3, .slice A0_4 l0_4.length c0_4], .int .i64 a1] w fun e w' => e = .returned (.bool r) ∧ Below w.heap.size w w' := by
 have hu38 := Try.underlying38
 have hu110 := Try.underlying110
 have HR0_4 := Aside0.mk hr0_4
 have HC0_4 := Aside0.mk hc0_4
 clear hr0_4 hc0_4
 have HB := Aside0.mk (Below.refl w.heap.size w)
 have H : ((impl_within.f a0_0 0 3).bind fun t994 => (if t994 = true then ((impl_within.f a0_1 0 3).bind fun t995 => (if t995 = true then ((impl_within.f a0_2 0 100000).bind fun t996 => (if t996 = true then ((impl_within.f a0_3 (-1) 100000).bind fun t997 => (if t997 = true then (if (l0_4.length : Int) > a1 then (impl_MakerOk.j0 k true a0_0 a0_1 a0_2 a0_3 l0_4) else (impl_MakerOk.j0 k ((a0_3 == (-1)) != ((l0_4.length : Int) == 0)) a0_0 a0_1 a0_2 a0_3 l0_4)) else (impl_MakerOk.j0 k true a0_0 a0_1 a0_2 a0_3 l0_4))) else (impl_MakerOk.j0 k true a0_0 a0_1 a0_2 a0_3 l0_4))) else (impl_MakerOk.j0 k true a0_0 a0_1 a0_2 a0_3 l0_4))) else (impl_MakerOk.j0 k true a0_0 a0_1 a0_2 a0_3 l0_4))) = some r := h
 clear h
 have HC3 := Aside0.mk H
 clear H
 go_enter Try.func41, Try.ntmps41
 go_upto_region 1 with (first | ((with_reducible refine gate_dst (N := 2) rfl ?_); (try (refine gate_guard (by rfl) ?_; dsimp only)); refine box_event ?hg (N := 2) ?hd (cs := #[.int .i64 a0_0, .int .i64 a0_1, .int .i64 a0_2, .int .i64 a0_3, .slice A0_4 l0_4.length c0_4]) (t := 38) ?hr ?_; (case hd => rfl); (case hg => rfl); (case hr => first | (go_simp; done) | (go_simp; rfl)); intro gb993 hg w4 hbox hb; have BK993 := Aside0.mk (hbox); have GW993 := cz_ HB hg; have GE993 := cz_ HB hg; replace HB := ch_ HB hb; clear hb hbox hg))
 (try simp only [Act.put, List.setIfInBounds_toArray, List.set_cons_zero, List.set_cons_succ])
 go_cut [45] (fun v45 wc => ∃ (kq : Nat) (x45_2 : Bool), v45 = .bool x45_2 ∧ Aside0 (impl_MakerOk.j0 kq x45_2 a0_0 a0_1 a0_2 a0_3 l0_4 = some r) ∧ Aside0 (kq ≤ k) ∧ Aside0 (wc.heap[gb993]? = some (.cells #[.int .i64 a0_0, .int .i64 a0_1, .int .i64 a0_2, .int .i64 a0_3, (.slice A0_4 l0_4.length c0_4)] 38 (0, 0))) ∧ Aside0 (Below w.heap.size w wc))
 case first =>
  have H := HC3.out
  clear HC3
  replace H := Option.bind_eq_some_iff.mp H
  obtain ⟨t994, A50, H⟩ := H
  replace H : (if t994 = true then ((impl_within.f a0_1 0 3).bind fun t995 => (if t995 = true then ((impl_within.f a0_2 0 100000).bind fun t996 => (if t996 = true then ((impl_within.f a0_3 (-1) 100000).bind fun t997 => (if t997 = true then (if (l0_4.length : Int) > a1 then (impl_MakerOk.j0 k true a0_0 a0_1 a0_2 a0_3 l0_4) else (impl_MakerOk.j0 k ((a0_3 == (-1)) != ((l0_4.length : Int) == 0)) a0_0 a0_1 a0_2 a0_3 l0_4)) else (impl_MakerOk.j0 k true a0_0 a0_1 a0_2 a0_3 l0_4))) else (impl_MakerOk.j0 k true a0_0 a0_1 a0_2 a0_3 l0_4))) else (impl_MakerOk.j0 k true a0_0 a0_1 a0_2 a0_3 l0_4))) else (impl_MakerOk.j0 k true a0_0 a0_1 a0_2 a0_3 l0_4)) = some r := H
  have A5 := Aside0.mk A50
  clear A50
  by_cases c6 : t994 = true
  ·
   subst c6
   have H1 : ((impl_within.f a0_1 0 3).bind fun t995 => (if t995 = true then ((impl_within.f a0_2 0 100000).bind fun t996 => (if t996 = true then ((impl_within.f a0_3 (-1) 100000).bind fun t997 => (if t997 = true then (if (l0_4.length : Int) > a1 then (impl_MakerOk.j0 k true a0_0 a0_1 a0_2 a0_3 l0_4) else (impl_MakerOk.j0 k ((a0_3 == (-1)) != ((l0_4.length : Int) == 0)) a0_0 a0_1 a0_2 a0_3 l0_4)) else (impl_MakerOk.j0 k true a0_0 a0_1 a0_2 a0_3 l0_4))) else (impl_MakerOk.j0 k true a0_0 a0_1 a0_2 a0_3 l0_4))) else (impl_MakerOk.j0 k true a0_0 a0_1 a0_2 a0_3 l0_4))) = some r := by rw [if_pos rfl] at H; exact H
   clear H
   have H := H1
   clear H1
   replace H := Option.bind_eq_some_iff.mp H
   obtain ⟨t995, A70, H⟩ := H
   replace H : (if t995 = true then ((impl_within.f a0_2 0 100000).bind fun t996 => (if t996 = true then ((impl_within.f a0_3 (-1) 100000).bind fun t997 => (if t997 = true then (if (l0_4.length : Int) > a1 then (impl_MakerOk.j0 k true a0_0 a0_1 a0_2 a0_3 l0_4) else (impl_MakerOk.j0 k ((a0_3 == (-1)) != ((l0_4.length : Int) == 0)) a0_0 a0_1 a0_2 a0_3 l0_4)) else (impl_MakerOk.j0 k true a0_0 a0_1 a0_2 a0_3 l0_4))) else (impl_MakerOk.j0 k true a0_0 a0_1 a0_2 a0_3 l0_4))) else (impl_MakerOk.j0 k true a0_0 a0_1 a0_2 a0_3 l0_4)) = some r := H
   have A7 := Aside0.mk A70
   clear A70
   by_cases c8 : t995 = true
   ·
    subst c8
    have H1 : ((impl_within.f a0_2 0 100000).bind fun t996 => (if t996 = true then ((impl_within.f a0_3 (-1) 100000).bind fun t997 => (if t997 = true then (if (l0_4.length : Int) > a1 then (impl_MakerOk.j0 k true a0_0 a0_1 a0_2 a0_3 l0_4) else (impl_MakerOk.j0 k ((a0_3 == (-1)) != ((l0_4.length : Int) == 0)) a0_0 a0_1 a0_2 a0_3 l0_4)) else (impl_MakerOk.j0 k true a0_0 a0_1 a0_2 a0_3 l0_4))) else (impl_MakerOk.j0 k true a0_0 a0_1 a0_2 a0_3 l0_4))) = some r := by rw [if_pos rfl] at H; exact H
    clear H
    have H := H1
    clear H1
    replace H := Option.bind_eq_some_iff.mp H
    obtain ⟨t996, A90, H⟩ := H
    replace H : (if t996 = true then ((impl_within.f a0_3 (-1) 100000).bind fun t997 => (if t997 = true then (if (l0_4.length : Int) > a1 then (impl_MakerOk.j0 k true a0_0 a0_1 a0_2 a0_3 l0_4) else (impl_MakerOk.j0 k ((a0_3 == (-1)) != ((l0_4.length : Int) == 0)) a0_0 a0_1 a0_2 a0_3 l0_4)) else (impl_MakerOk.j0 k true a0_0 a0_1 a0_2 a0_3 l0_4))) else (impl_MakerOk.j0 k true a0_0 a0_1 a0_2 a0_3 l0_4)) = some r := H
    have A9 := Aside0.mk A90
    clear A90
    by_cases c10 : t996 = true
    ·
     subst c10
     have H1 : ((impl_within.f a0_3 (-1) 100000).bind fun t997 => (if t997 = true then (if (l0_4.length : Int) > a1 then (impl_MakerOk.j0 k true a0_0 a0_1 a0_2 a0_3 l0_4) else (impl_MakerOk.j0 k ((a0_3 == (-1)) != ((l0_4.length : Int) == 0)) a0_0 a0_1 a0_2 a0_3 l0_4)) else (impl_MakerOk.j0 k true a0_0 a0_1 a0_2 a0_3 l0_4))) = some r := by rw [if_pos rfl] at H; exact H
     clear H
     have H := H1
     clear H1
     replace H := Option.bind_eq_some_iff.mp H
     obtain ⟨t997, A110, H⟩ := H
     replace H : (if t997 = true then (if (l0_4.length : Int) > a1 then (impl_MakerOk.j0 k true a0_0 a0_1 a0_2 a0_3 l0_4) else (impl_MakerOk.j0 k ((a0_3 == (-1)) != ((l0_4.length : Int) == 0)) a0_0 a0_1 a0_2 a0_3 l0_4)) else (impl_MakerOk.j0 k true a0_0 a0_1 a0_2 a0_3 l0_4)) = some r := H
     have A11 := Aside0.mk A110
     clear A110
     by_cases c12 : t997 = true
     ·
      subst c12
      have H1 : (if (l0_4.length : Int) > a1 then (impl_MakerOk.j0 k true a0_0 a0_1 a0_2 a0_3 l0_4) else (impl_MakerOk.j0 k ((a0_3 == (-1)) != ((l0_4.length : Int) == 0)) a0_0 a0_1 a0_2 a0_3 l0_4)) = some r := by rw [if_pos rfl] at H; exact H
      clear H
      have H := H1
      clear H1
      by_cases c13 : (l0_4.length : Int) > a1
      ·
       rw [if_pos c13] at H
       have c13b0 : decide (a1 < (l0_4.length : Int)) = true := decide_eq_true c13
       clear c13
       (first | rw [c13b0] | (simp only [i64_w, i32_w]; rw [c13b0]) | rw [c13b4] | rw [c13b3] | skip)
       have H' := Aside0.mk H
       clear H
       have hcz14_0 : w4.cell? ⟨gb993, 0, none⟩ = some (.int .i64 a0_0) := bc_ BK993 0
       have hcz14_1 : w4.cell? ⟨gb993, 1, none⟩ = some (.int .i64 a0_1) := bc_ BK993 1
       have hcz14_2 : w4.cell? ⟨gb993, 2, none⟩ = some (.int .i64 a0_2) := bc_ BK993 2
       have hcz14_3 : w4.cell? ⟨gb993, 3, none⟩ = some (.int .i64 a0_3) := bc_ BK993 3
       have hcz14_4 : w4.cell? ⟨gb993, 4, none⟩ = some (.slice A0_4 l0_4.length c0_4) := bc_ BK993 4
       have hfz14_0 := blk_frozen BK993.out 0
       have hfz14_1 := blk_frozen BK993.out 1
       have hfz14_2 := blk_frozen BK993.out 2
       have hfz14_3 := blk_frozen BK993.out 3
       have hfz14_4 := blk_frozen BK993.out 4
       go_wp2_with (first | ((with_reducible refine gate_callee (f := 58) rfl ?_); refine goesL_ (some 9) rfl rfl Try.func58 (by kernel_rfl) rfl #[.int .i64 a0_0, .int .i64 0, .int .i64 3] rfl sm_ ?_; (with_reducible refine (impl_within.calls a0_0 0 3 true _ A5.out).mono ?_); rintro e w' ⟨rfl, ⟨nd, rfl⟩⟩; refine ⟨_, rfl, ?_⟩) | (go_at_call 58; (with_reducible refine (impl_within.calls a0_1 0 3 true _ A7.out).mono ?_); rintro e w' ⟨rfl, ⟨nd, rfl⟩⟩) | (go_at_call 58; (with_reducible refine (impl_within.calls a0_2 0 100000 true _ A9.out).mono ?_); rintro e w' ⟨rfl, ⟨nd, rfl⟩⟩) | (go_at_call 58; (with_reducible refine (impl_within.calls a0_3 (-1) 100000 true _ A11.out).mono ?_); rintro e w' ⟨rfl, ⟨nd, rfl⟩⟩))
       go_meet
       case rel => exact ⟨_, (true), (qe0_), H', ⟨qe4_⟩, ⟨bq_ BK993.out⟩, ⟨hb_ HB.out⟩⟩
      ·
       rw [if_neg c13] at H
       have c13b0 : decide (a1 < (l0_4.length : Int)) = false := decide_eq_false c13
       clear c13
       (first | rw [c13b0] | (simp only [i64_w, i32_w]; rw [c13b0]) | rw [c13b4] | rw [c13b3] | skip)
       have H' := Aside0.mk H
       clear H
       have hcz15_0 : w4.cell? ⟨gb993, 0, none⟩ = some (.int .i64 a0_0) := bc_ BK993 0
       have hcz15_1 : w4.cell? ⟨gb993, 1, none⟩ = some (.int .i64 a0_1) := bc_ BK993 1
       have hcz15_2 : w4.cell? ⟨gb993, 2, none⟩ = some (.int .i64 a0_2) := bc_ BK993 2
       have hcz15_3 : w4.cell? ⟨gb993, 3, none⟩ = some (.int .i64 a0_3) := bc_ BK993 3
       have hcz15_4 : w4.cell? ⟨gb993, 4, none⟩ = some (.slice A0_4 l0_4.length c0_4) := bc_ BK993 4
       have hfz15_0 := blk_frozen BK993.out 0
       have hfz15_1 := blk_frozen BK993.out 1
       have hfz15_2 := blk_frozen BK993.out 2
       have hfz15_3 := blk_frozen BK993.out 3
       have hfz15_4 := blk_frozen BK993.out 4
       go_wp2_with (first | ((with_reducible refine gate_callee (f := 58) rfl ?_); refine goesL_ (some 9) rfl rfl Try.func58 (by kernel_rfl) rfl #[.int .i64 a0_0, .int .i64 0, .int .i64 3] rfl sm_ ?_; (with_reducible refine (impl_within.calls a0_0 0 3 true _ A5.out).mono ?_); rintro e w' ⟨rfl, ⟨nd, rfl⟩⟩; refine ⟨_, rfl, ?_⟩) | (go_at_call 58; (with_reducible refine (impl_within.calls a0_1 0 3 true _ A7.out).mono ?_); rintro e w' ⟨rfl, ⟨nd, rfl⟩⟩) | (go_at_call 58; (with_reducible refine (impl_within.calls a0_2 0 100000 true _ A9.out).mono ?_); rintro e w' ⟨rfl, ⟨nd, rfl⟩⟩) | (go_at_call 58; (with_reducible refine (impl_within.calls a0_3 (-1) 100000 true _ A11.out).mono ?_); rintro e w' ⟨rfl, ⟨nd, rfl⟩⟩))
       go_meet
       case rel => exact ⟨_, (((a0_3 == (-1)) != ((l0_4.length : Int) == 0))), (qe0_), H', ⟨qe4_⟩, ⟨bq_ BK993.out⟩, ⟨hb_ HB.out⟩⟩
     ·
      replace c12 := Bool.eq_false_iff.mpr c12
      subst c12
      have H1 : (impl_MakerOk.j0 k true a0_0 a0_1 a0_2 a0_3 l0_4) = some r := by rw [if_neg (show ¬ (false = true) by decide)] at H; exact H
      clear H
      have H := H1
      clear H1
      have H' := Aside0.mk H
      clear H
      have hcz16_0 : w4.cell? ⟨gb993, 0, none⟩ = some (.int .i64 a0_0) := bc_ BK993 0
      have hcz16_1 : w4.cell? ⟨gb993, 1, none⟩ = some (.int .i64 a0_1) := bc_ BK993 1
      have hcz16_2 : w4.cell? ⟨gb993, 2, none⟩ = some (.int .i64 a0_2) := bc_ BK993 2
      have hcz16_3 : w4.cell? ⟨gb993, 3, none⟩ = some (.int .i64 a0_3) := bc_ BK993 3
      have hcz16_4 : w4.cell? ⟨gb993, 4, none⟩ = some (.slice A0_4 l0_4.length c0_4) := bc_ BK993 4
      have hfz16_0 := blk_frozen BK993.out 0
      have hfz16_1 := blk_frozen BK993.out 1
      have hfz16_2 := blk_frozen BK993.out 2
      have hfz16_3 := blk_frozen BK993.out 3
      have hfz16_4 := blk_frozen BK993.out 4
      go_wp2_with (first | ((with_reducible refine gate_callee (f := 58) rfl ?_); refine goesL_ (some 9) rfl rfl Try.func58 (by kernel_rfl) rfl #[.int .i64 a0_0, .int .i64 0, .int .i64 3] rfl sm_ ?_; (with_reducible refine (impl_within.calls a0_0 0 3 true _ A5.out).mono ?_); rintro e w' ⟨rfl, ⟨nd, rfl⟩⟩; refine ⟨_, rfl, ?_⟩) | (go_at_call 58; (with_reducible refine (impl_within.calls a0_1 0 3 true _ A7.out).mono ?_); rintro e w' ⟨rfl, ⟨nd, rfl⟩⟩) | (go_at_call 58; (with_reducible refine (impl_within.calls a0_2 0 100000 true _ A9.out).mono ?_); rintro e w' ⟨rfl, ⟨nd, rfl⟩⟩) | (go_at_call 58; (with_reducible refine (impl_within.calls a0_3 (-1) 100000 false _ A11.out).mono ?_); rintro e w' ⟨rfl, ⟨nd, rfl⟩⟩))
      go_meet
      case rel => exact ⟨_, (true), (qe0_), H', ⟨qe4_⟩, ⟨bq_ BK993.out⟩, ⟨hb_ HB.out⟩⟩
    ·
     replace c10 := Bool.eq_false_iff.mpr c10
     subst c10
     have H1 : (impl_MakerOk.j0 k true a0_0 a0_1 a0_2 a0_3 l0_4) = some r := by rw [if_neg (show ¬ (false = true) by decide)] at H; exact H
     clear H
     have H := H1
     clear H1
     have H' := Aside0.mk H
     clear H
     have hcz17_0 : w4.cell? ⟨gb993, 0, none⟩ = some (.int .i64 a0_0) := bc_ BK993 0
     have hcz17_1 : w4.cell? ⟨gb993, 1, none⟩ = some (.int .i64 a0_1) := bc_ BK993 1
     have hcz17_2 : w4.cell? ⟨gb993, 2, none⟩ = some (.int .i64 a0_2) := bc_ BK993 2
     have hcz17_3 : w4.cell? ⟨gb993, 3, none⟩ = some (.int .i64 a0_3) := bc_ BK993 3
     have hcz17_4 : w4.cell? ⟨gb993, 4, none⟩ = some (.slice A0_4 l0_4.length c0_4) := bc_ BK993 4
     have hfz17_0 := blk_frozen BK993.out 0
     have hfz17_1 := blk_frozen BK993.out 1
     have hfz17_2 := blk_frozen BK993.out 2
     have hfz17_3 := blk_frozen BK993.out 3
     have hfz17_4 := blk_frozen BK993.out 4
     go_wp2_with (first | ((with_reducible refine gate_callee (f := 58) rfl ?_); refine goesL_ (some 9) rfl rfl Try.func58 (by kernel_rfl) rfl #[.int .i64 a0_0, .int .i64 0, .int .i64 3] rfl sm_ ?_; (with_reducible refine (impl_within.calls a0_0 0 3 true _ A5.out).mono ?_); rintro e w' ⟨rfl, ⟨nd, rfl⟩⟩; refine ⟨_, rfl, ?_⟩) | (go_at_call 58; (with_reducible refine (impl_within.calls a0_1 0 3 true _ A7.out).mono ?_); rintro e w' ⟨rfl, ⟨nd, rfl⟩⟩) | (go_at_call 58; (with_reducible refine (impl_within.calls a0_2 0 100000 false _ A9.out).mono ?_); rintro e w' ⟨rfl, ⟨nd, rfl⟩⟩))
     go_meet
     case rel => exact ⟨_, (true), (qe0_), H', ⟨qe4_⟩, ⟨bq_ BK993.out⟩, ⟨hb_ HB.out⟩⟩
   ·
    replace c8 := Bool.eq_false_iff.mpr c8
    subst c8
    have H1 : (impl_MakerOk.j0 k true a0_0 a0_1 a0_2 a0_3 l0_4) = some r := by rw [if_neg (show ¬ (false = true) by decide)] at H; exact H
    clear H
    have H := H1
    clear H1
    have H' := Aside0.mk H
    clear H
    have hcz18_0 : w4.cell? ⟨gb993, 0, none⟩ = some (.int .i64 a0_0) := bc_ BK993 0
    have hcz18_1 : w4.cell? ⟨gb993, 1, none⟩ = some (.int .i64 a0_1) := bc_ BK993 1
    have hcz18_2 : w4.cell? ⟨gb993, 2, none⟩ = some (.int .i64 a0_2) := bc_ BK993 2
    have hcz18_3 : w4.cell? ⟨gb993, 3, none⟩ = some (.int .i64 a0_3) := bc_ BK993 3
    have hcz18_4 : w4.cell? ⟨gb993, 4, none⟩ = some (.slice A0_4 l0_4.length c0_4) := bc_ BK993 4
    have hfz18_0 := blk_frozen BK993.out 0
    have hfz18_1 := blk_frozen BK993.out 1
    have hfz18_2 := blk_frozen BK993.out 2
    have hfz18_3 := blk_frozen BK993.out 3
    have hfz18_4 := blk_frozen BK993.out 4
    go_wp2_with (first | ((with_reducible refine gate_callee (f := 58) rfl ?_); refine goesL_ (some 9) rfl rfl Try.func58 (by kernel_rfl) rfl #[.int .i64 a0_0, .int .i64 0, .int .i64 3] rfl sm_ ?_; (with_reducible refine (impl_within.calls a0_0 0 3 true _ A5.out).mono ?_); rintro e w' ⟨rfl, ⟨nd, rfl⟩⟩; refine ⟨_, rfl, ?_⟩) | (go_at_call 58; (with_reducible refine (impl_within.calls a0_1 0 3 false _ A7.out).mono ?_); rintro e w' ⟨rfl, ⟨nd, rfl⟩⟩))
    go_meet
    case rel => exact ⟨_, (true), (qe0_), H', ⟨qe4_⟩, ⟨bq_ BK993.out⟩, ⟨hb_ HB.out⟩⟩
  ·
   replace c6 := Bool.eq_false_iff.mpr c6
   subst c6
   have H1 : (impl_MakerOk.j0 k true a0_0 a0_1 a0_2 a0_3 l0_4) = some r := by rw [if_neg (show ¬ (false = true) by decide)] at H; exact H
   clear H
   have H := H1
   clear H1
   have H' := Aside0.mk H
   clear H
   have hcz19_0 : w4.cell? ⟨gb993, 0, none⟩ = some (.int .i64 a0_0) := bc_ BK993 0
   have hcz19_1 : w4.cell? ⟨gb993, 1, none⟩ = some (.int .i64 a0_1) := bc_ BK993 1
   have hcz19_2 : w4.cell? ⟨gb993, 2, none⟩ = some (.int .i64 a0_2) := bc_ BK993 2
   have hcz19_3 : w4.cell? ⟨gb993, 3, none⟩ = some (.int .i64 a0_3) := bc_ BK993 3
   have hcz19_4 : w4.cell? ⟨gb993, 4, none⟩ = some (.slice A0_4 l0_4.length c0_4) := bc_ BK993 4
   have hfz19_0 := blk_frozen BK993.out 0
   have hfz19_1 := blk_frozen BK993.out 1
   have hfz19_2 := blk_frozen BK993.out 2
   have hfz19_3 := blk_frozen BK993.out 3
   have hfz19_4 := blk_frozen BK993.out 4
   go_wp2_with (first | ((with_reducible refine gate_callee (f := 58) rfl ?_); refine goesL_ (some 9) rfl rfl Try.func58 (by kernel_rfl) rfl #[.int .i64 a0_0, .int .i64 0, .int .i64 3] rfl sm_ ?_; (with_reducible refine (impl_within.calls a0_0 0 3 false _ A5.out).mono ?_); rintro e w' ⟨rfl, ⟨nd, rfl⟩⟩; refine ⟨_, rfl, ?_⟩))
   go_meet
   case rel => exact ⟨_, (true), (qe0_), H', ⟨qe4_⟩, ⟨bq_ BK993.out⟩, ⟨hb_ HB.out⟩⟩
 case rest =>
  clear HC3
  obtain ⟨kq, x45_2, rfl, HA, HJ2, BK993, HB⟩ := hcut
  cases kq with
  | zero => exact absurd HA.out (by simp [impl_MakerOk.j0])
  | succ kj2 =>
   have H := HA.out
   clear HA
   simp only [impl_MakerOk.j0] at H
   have HC20 := Aside0.mk H
   clear H
   go_upto_if 45 with (fail)
   go_cut [] (fun wc => ∃ (kq : Nat), Aside0 (impl_MakerOk.j1 kq a0_0 a0_1 a0_2 a0_3 l0_4 = some r) ∧ Aside0 (kq ≤ kj2) ∧ Aside0 (wc.heap[gb993]? = some (.cells #[.int .i64 a0_0, .int .i64 a0_1, .int .i64 a0_2, .int .i64 a0_3, (.slice A0_4 l0_4.length c0_4)] 38 (0, 0))) ∧ Aside0 (Below w.heap.size w wc))
   case first =>
    have H := HC20.out
    clear HC20
    by_cases c21 : x45_2 = true
    ·
     subst c21
     have H1 : (some false) = some r := by rw [if_pos rfl] at H; exact H
     clear H
     have H := H1
     clear H1
     obtain rfl := Option.some.inj H
     go_wp2
     go_ret
     exact ⟨er_, hb_ HB.out⟩
    ·
     replace c21 := Bool.eq_false_iff.mpr c21
     subst c21
     have H1 : (impl_MakerOk.j1 kj2 a0_0 a0_1 a0_2 a0_3 l0_4) = some r := by rw [if_neg (show ¬ (false = true) by decide)] at H; exact H
     clear H
     have H := H1
     clear H1
     have H' := Aside0.mk H
     clear H
     go_wp2
     go_meet
     case rel => exact ⟨_, H', ⟨qe3_⟩, ⟨bq_ BK993.out⟩, ⟨hb_ HB.out⟩⟩
   case rest =>
    clear HC20
    obtain ⟨kq, HA, HJ19, BK993, HB⟩ := hcut
    cases kq with
    | zero => exact absurd HA.out (by simp [impl_MakerOk.j1])
    | succ kj19 =>
     have H := HA.out
     clear HA
     simp only [impl_MakerOk.j1] at H
     have H' := Aside0.mk H
     clear H
     have hcz22_0 : wc.cell? ⟨gb993, 0, none⟩ = some (.int .i64 a0_0) := bc_ BK993 0
     have hcz22_1 : wc.cell? ⟨gb993, 1, none⟩ = some (.int .i64 a0_1) := bc_ BK993 1
     have hcz22_2 : wc.cell? ⟨gb993, 2, none⟩ = some (.int .i64 a0_2) := bc_ BK993 2
     have hcz22_3 : wc.cell? ⟨gb993, 3, none⟩ = some (.int .i64 a0_3) := bc_ BK993 3
     have hcz22_4 : wc.cell? ⟨gb993, 4, none⟩ = some (.slice A0_4 l0_4.length c0_4) := bc_ BK993 4
     have hfz22_0 := blk_frozen BK993.out 0
     have hfz22_1 := blk_frozen BK993.out 1
     have hfz22_2 := blk_frozen BK993.out 2
     have hfz22_3 := blk_frozen BK993.out 3
     have hfz22_4 := blk_frozen BK993.out 4
     go_wp2
     go_loopg [49] kj19 (fun kq v49 w' => ∃ (x49_3 : Int), v49 = .int .i64 x49_3 ∧ Aside0 (impl_MakerOk.l0 kq l0_4 (l0_4.length : Int) x49_3 a0_0 a0_1 a0_2 a0_3 l0_4 = some r) ∧ Aside0 (kq ≤ kj19) ∧ Aside0 (w'.heap[gb993]? = some (.cells #[.int .i64 a0_0, .int .i64 a0_1, .int .i64 a0_2, .int .i64 a0_3, (.slice A0_4 l0_4.length c0_4)] 38 (0, 0))) ∧ Aside0 (Below w.heap.size w w'))
     case atStart => exact ⟨(0), (qe0_), H', ⟨Nat.le_refl _⟩, ⟨bq_ BK993.out⟩, ⟨hb_ HB.out⟩⟩
     case round =>
      clear H'
      (try clear hcz22_0); (try clear hcz22_1); (try clear hcz22_2); (try clear hcz22_3); (try clear hcz22_4); (try clear hfz22_0); (try clear hfz22_1); (try clear hfz22_2); (try clear hfz22_3); (try clear hfz22_4)
      obtain ⟨x49_3, rfl, HA, HK3, BK993, HB⟩ := hrel
      cases gk with
      | zero => exact absurd HA.out (by simp [impl_MakerOk.l0])
      | succ k3 =>
       have H := HA.out
       clear HA
       simp only [impl_MakerOk.l0] at H
       have HC23 := Aside0.mk H
       clear H
       go_upto_if 50 with (fail)
       go_cut [] (fun wc => ∃ (kq : Nat), Aside0 (impl_MakerOk.j3 kq l0_4 (l0_4.length : Int) x49_3 a0_0 a0_1 a0_2 a0_3 l0_4 = some r) ∧ Aside0 (kq ≤ k3) ∧ Aside0 (wc.heap[gb993]? = some (.cells #[.int .i64 a0_0, .int .i64 a0_1, .int .i64 a0_2, .int .i64 a0_3, (.slice A0_4 l0_4.length c0_4)] 38 (0, 0))) ∧ Aside0 (Below w.heap.size w wc))
       case first =>
        have H := HC23.out
        clear HC23
        by_cases c24 : x49_3 < (l0_4.length : Int)
        ·
         rw [if_pos c24] at H
         have c24b0 : decide (x49_3 < (l0_4.length : Int)) = true := decide_eq_true c24
         clear c24
         (first | rw [c24b0] | (simp only [i64_w, i32_w]; rw [c24b0]) | rw [c24b4] | rw [c24b3] | skip)
         have H' := Aside0.mk H
         clear H
         go_wp2
         go_meet
         case rel => exact ⟨_, H', ⟨by have := HJ2.out; have := HJ19.out; have := HK3.out; first | omega | exact Nat.le_refl _⟩, ⟨bq_ BK993.out⟩, ⟨hb_ HB.out⟩⟩
        ·
         rw [if_neg c24] at H
         have c24b0 : decide (x49_3 < (l0_4.length : Int)) = false := decide_eq_false c24
         clear c24
         (first | rw [c24b0] | (simp only [i64_w, i32_w]; rw [c24b0]) | rw [c24b4] | rw [c24b3] | skip)
         obtain rfl := Option.some.inj H
         go_wp2
         go_ret
         exact ⟨er_, hb_ HB.out⟩
       case rest =>
        clear HC23
        obtain ⟨kq, HA, HJ22, BK993, HB⟩ := hcut
        cases kq with
        | zero => exact absurd HA.out (by simp [impl_MakerOk.j3])
        | succ kj22 =>
         have H := HA.out
         clear HA
         simp only [impl_MakerOk.j3] at H
         by_cases c25 : 0 ≤ x49_3
         ·
          rw [if_pos c25] at H
          have c25b0 : decide (0 ≤ x49_3) = true := decide_eq_true c25
          clear c25
          by_cases c26 : x49_3 < (l0_4.length : Int)
          ·
           rw [if_pos c26] at H
           have c26b0 : decide (x49_3 < (l0_4.length : Int)) = true := decide_eq_true c26
           clear c26
           have HC27 := Aside0.mk H
           clear H
           have p998 : 0 ≤ (x49_3 : Int) := of_decide_eq_true dt_
           have q998 : x49_3 < (l0_4.length : Int) := of_decide_eq_true dt_
           obtain ⟨ad998, e998, hx998_0, hx998_1⟩ := at_Mark HR0_4.out x49_3 p998 q998
           cases e998
           replace hx998_0 := hc_ HB hx998_0
           replace hx998_1 := hc_ HB hx998_1
           replace p998 := eq_true p998
           replace q998 := eq_true q998
           go_upto_region 6 with (first | ((with_reducible refine gate_dst (N := 6) rfl ?_); (try (refine gate_guard (by rfl) ?_; dsimp only)); refine box_event ?hg (N := 6) ?hd (cs := #[.int .i64 0, .int .i64 0]) (t := 110) ?hr ?_; (case hd => rfl); (case hg => rfl); (case hr => first | (go_simp; done) | (go_simp; rfl)); intro gb999 hg w28 hbox hb; have BK999 := Aside0.mk (hbox); have GW999 := cz_ HB hg; have GE999 := cz_ HB hg; have NB993_999 := cn_ BK993 hg; have NB999_993 := cm_ BK993 hg; replace BK993 := cb_ BK993 hb; replace HB := ch_ HB hb; clear hb hbox hg; have hnb29 := NB999_993.out; have hnc29 := NB993_999.out; have hcz30_0 : w28.cell? ⟨gb999, 0, none⟩ = some (.int .i64 0) := bc_ BK999 0; have hcz30_1 : w28.cell? ⟨gb999, 1, none⟩ = some (.int .i64 0) := bc_ BK999 1; have hfz30_0 := blk_frozen BK999.out 0; have hfz30_1 := blk_frozen BK999.out 1))
           (try simp only [Act.put, List.setIfInBounds_toArray, List.set_cons_zero, List.set_cons_succ])
           go_cut [87] (fun v87 wc => ∃ (kq : Nat) (x87_26 : Bool), v87 = .bool x87_26 ∧ Aside0 (impl_MakerOk.j4 kq l0_4 (l0_4.length : Int) x49_3 x87_26 a0_0 a0_1 a0_2 a0_3 l0_4 = some r) ∧ Aside0 (kq ≤ kj22) ∧ Aside0 (wc.heap[gb993]? = some (.cells #[.int .i64 a0_0, .int .i64 a0_1, .int .i64 a0_2, .int .i64 a0_3, (.slice (some ad998) l0_4.length c0_4)] 38 (0, 0))) ∧ Aside0 (wc.heap[gb999]? = some (.cells #[.int .i64 ((rd_Mark l0_4 x49_3).f0), .int .i64 ((rd_Mark l0_4 x49_3).f1)] 110 (0, 0))) ∧ Aside0 (Below w.heap.size w wc))
           case first =>
            have H := HC27.out
            clear HC27
            by_cases c31 : ((rd_Mark l0_4 x49_3).f0) = (wrap64 ((wrap64 ((wrap64 (a0_3 - (l0_4.length : Int))) + 1)) + x49_3))
            ·
             rw [if_pos c31] at H
             have c31b0 : (((rd_Mark l0_4 x49_3).f0) == (wrap64 ((wrap64 ((wrap64 (a0_3 - (l0_4.length : Int))) + 1)) + x49_3))) = true := beq_iff_eq.mpr c31
             have c31b1 : (((rd_Mark l0_4 x49_3).f0) != (wrap64 ((wrap64 ((wrap64 (a0_3 - (l0_4.length : Int))) + 1)) + x49_3))) = false := bne_eq_false_iff_eq.mpr c31
             clear c31
             (first | rw [c31b0] | (simp only [i64_w, i32_w]; rw [c31b0]) | rw [c31b4] | rw [c31b3] | skip)
             replace H := Option.bind_eq_some_iff.mp H
             obtain ⟨t1000, A320, H⟩ := H
             replace H : (if t1000 = true then (if x49_3 > 0 then (if 0 ≤ (wrap64 (x49_3 - 1)) then (if (wrap64 (x49_3 - 1)) < (l0_4.length : Int) then (impl_MakerOk.j4 kj22 l0_4 (l0_4.length : Int) x49_3 (decide (((rd_Mark l0_4 (wrap64 (x49_3 - 1))).f1) ≥ ((rd_Mark l0_4 x49_3).f1))) a0_0 a0_1 a0_2 a0_3 l0_4) else (none)) else (none)) else (impl_MakerOk.j4 kj22 l0_4 (l0_4.length : Int) x49_3 false a0_0 a0_1 a0_2 a0_3 l0_4)) else (impl_MakerOk.j4 kj22 l0_4 (l0_4.length : Int) x49_3 true a0_0 a0_1 a0_2 a0_3 l0_4)) = some r := H
             have A32 := Aside0.mk A320
             clear A320
             by_cases c33 : t1000 = true
             ·
              subst c33
              have H1 : (if x49_3 > 0 then (if 0 ≤ (wrap64 (x49_3 - 1)) then (if (wrap64 (x49_3 - 1)) < (l0_4.length : Int) then (impl_MakerOk.j4 kj22 l0_4 (l0_4.length : Int) x49_3 (decide (((rd_Mark l0_4 (wrap64 (x49_3 - 1))).f1) ≥ ((rd_Mark l0_4 x49_3).f1))) a0_0 a0_1 a0_2 a0_3 l0_4) else (none)) else (none)) else (impl_MakerOk.j4 kj22 l0_4 (l0_4.length : Int) x49_3 false a0_0 a0_1 a0_2 a0_3 l0_4)) = some r := by rw [if_pos rfl] at H; exact H
              clear H
              have H := H1
              clear H1
              by_cases c34 : x49_3 > 0
              ·
               rw [if_pos c34] at H
               have c34b0 : decide (0 < x49_3) = true := decide_eq_true c34
               clear c34
               obtain ⟨ji35, hji35⟩ : ∃ j_ : Int, (wrap64 (x49_3 - 1)) = j_ := ⟨_, rfl⟩
               replace H : (if 0 ≤ (ji35) then (if (ji35) < (l0_4.length : Int) then (impl_MakerOk.j4 kj22 l0_4 (l0_4.length : Int) x49_3 (decide (((rd_Mark l0_4 (ji35)).f1) ≥ ((rd_Mark l0_4 x49_3).f1))) a0_0 a0_1 a0_2 a0_3 l0_4) else (none)) else (none)) = some r := by first | (rw [hji35] at H; exact H) | (simp only [hji35] at H ⊢; exact H)
               (try rw [hji35] at A32)
               have hji35w : (IntKind.i64.wrap (x49_3 - 1)) = ji35 := (i64_w _).trans hji35
               by_cases c36 : 0 ≤ (ji35)
               ·
                rw [if_pos c36] at H
                have c36b0 : decide (0 ≤ (ji35)) = true := decide_eq_true c36
                clear c36
                by_cases c37 : (ji35) < (l0_4.length : Int)
                ·
                 rw [if_pos c37] at H
                 have c37b0 : decide ((ji35) < (l0_4.length : Int)) = true := decide_eq_true c37
                 clear c37
                 have H' := Aside0.mk H
                 clear H
                 try go_wp2
                 obtain ⟨w38, qe_⟩ : ∃ x_, x_ = ((w28.setCell ⟨gb999, 0, none⟩ (.int .i64 ((rd_Mark l0_4 x49_3).f0))).setCell ⟨gb999, 1, none⟩ (.int .i64 ((rd_Mark l0_4 x49_3).f1))) := ⟨_, rfl⟩
                 rw [← qe_]
                 replace BK993 := fl_ qe_ BK993
                 replace BK999 : Aside0 (w38.heap[gb999]? = some (.cells #[.int .i64 ((rd_Mark l0_4 x49_3).f0), .int .i64 ((rd_Mark l0_4 x49_3).f1)] 110 (0, 0))) := ⟨by rw [qe_]; exact bp_ BK999.out⟩
                 replace HB : Aside0 (Below w.heap.size w w38) := ⟨by rw [qe_]; exact hb_ HB.out⟩
                 clear qe_
                 replace BK993 := Aside0.mk (blk_drew BK993.out)
                 replace BK999 := Aside0.mk (blk_drew BK999.out)
                 replace HB := Aside0.mk (below_drew1 HB.out)
                 have p1001 : 0 ≤ ((ji35) : Int) := of_decide_eq_true dt_
                 have q1001 : (ji35) < (l0_4.length : Int) := of_decide_eq_true dt_
                 obtain ⟨ad1001, e1001, hx1001_0, hx1001_1⟩ := at_Mark HR0_4.out (ji35) p1001 q1001
                 have hw1001_1 := hx1001_1
                 have hw1001_0 := hx1001_0
                 obtain rfl : ad998 = ad1001 := (by injection e1001)
                 replace hx1001_0 := hc_ HB hx1001_0
                 replace hx1001_1 := hc_ HB hx1001_1
                 replace p1001 := eq_true p1001
                 replace q1001 := eq_true q1001
                 refine start_ (n := 34) (S := fun w' => w'.cell? ⟨gb999, 0, none⟩ = some (.int .i64 ((rd_Mark l0_4 x49_3).f0)) ∧ w'.cell? ⟨gb999, 1, none⟩ = some (.int .i64 ((rd_Mark l0_4 x49_3).f1)) ∧ w'.cell? ⟨gb993, 0, none⟩ = some (.int .i64 a0_0) ∧ w'.cell? ⟨gb993, 1, none⟩ = some (.int .i64 a0_1) ∧ w'.cell? ⟨gb993, 2, none⟩ = some (.int .i64 a0_2) ∧ w'.cell? ⟨gb993, 3, none⟩ = some (.int .i64 a0_3) ∧ w'.cell? ⟨gb993, 4, none⟩ = some (.slice (some ad998) l0_4.length c0_4) ∧ w'.cell? (ad998.add (((ji35)).toNat * 2)) = some (.int .i64 ((rd_Mark l0_4 (ji35)).f0)) ∧ w'.cell? ⟨(ad998.add (((ji35)).toNat * 2)).block, (ad998.add (((ji35)).toNat * 2)).off + 1, none⟩ = some (.int .i64 ((rd_Mark l0_4 (ji35)).f1))) (ds := []) impl_MakerOk.m0 (by kernel_rfl) rfl rfl ⟨bc_ BK999 0, bc_ BK999 1, bc_ BK993 0, bc_ BK993 1, bc_ BK993 2, bc_ BK993 3, bc_ BK993 4, (hd_ HB hw1001_0), (hd_ HB hw1001_1)⟩ (fun hHeld => ?_); refine with_tabW impl_MakerOk.tab6 impl_MakerOk.bits6 (fun HT_ HW_ => ?_)
                 generalize w38.drew = w39 at BK993 BK999 HB hx1001_0 hx1001_1 hHeld ⊢
                 refine pI_ 0 54 HT_ impl_MakerOk.m1 rfl rfl ?_
                 refine pI_ 2 56 HT_ impl_MakerOk.m2 rfl rfl ?_
                 refine pI_ 4 58 HT_ impl_MakerOk.m3 rfl rfl ?_
                 refine pI_ 9 63 HT_ impl_MakerOk.m4 rfl rfl ?_
                 refine tk_ 1 55 HT_ HW_ impl_MakerOk.m5 rfl rfl hHeld ?_
                 refine tk_ 3 57 HT_ HW_ impl_MakerOk.m6 rfl rfl hHeld ?_
                 refine tk_ 5 59 HT_ HW_ impl_MakerOk.m7 rfl rfl hHeld ?_
                 refine pI_ 6 60 HT_ impl_MakerOk.m8 rfl rfl ?_
                 refine pI_ 7 61 HT_ impl_MakerOk.m9 rfl rfl ?_
                 refine pI_ 8 62 HT_ impl_MakerOk.m10 rfl rfl ?_
                 refine pI_ 10 64 HT_ impl_MakerOk.m11 rfl rfl ?_
                 refine pI_ 11 65 HT_ impl_MakerOk.m12 rfl rfl ?_
                 refine pI_ 12 66 HT_ impl_MakerOk.m13 rfl rfl ?_
                 refine pI_ 13 67 HT_ impl_MakerOk.m14 rfl rfl ?_
                 refine tk_ 14 68 HT_ HW_ impl_MakerOk.m15 rfl rfl hHeld ?_
                 refine on_ 15 69 HT_ impl_MakerOk.m16 rfl rfl (fun K hK => ?_)
                 refine goes_ Try.func58 (by kernel_rfl) rfl #[.int .i64 ((rd_Mark l0_4 x49_3).f1), .int .i64 0, .int .i64 100000] (by rfl) rfl rfl sm_ ?_
                 with_reducible refine (impl_within.calls ((rd_Mark l0_4 x49_3).f1) 0 100000 true _ A32.out).mono ?_
                 rintro e w' ⟨rfl, ⟨nd, rfl⟩⟩
                 refine ⟨_, rfl, ?_⟩
                 refine hK.out _ _ ⟨bc_ BK999 0, bc_ BK999 1, bc_ BK993 0, bc_ BK993 1, bc_ BK993 2, bc_ BK993 3, bc_ BK993 4, (hd_ HB hw1001_0), (hd_ HB hw1001_1)⟩ (fun hHeld => ?_)
                 clear hK K
                 refine nm_ ?_
                 refine pI_ 16 70 HT_ impl_MakerOk.m17 rfl rfl ?_
                 refine pI_ 17 71 HT_ impl_MakerOk.m18 rfl rfl ?_
                 refine pI_ 18 72 HT_ impl_MakerOk.m19 rfl rfl ?_
                 refine pI_ 19 73 HT_ impl_MakerOk.m20 rfl rfl ?_
                 refine pI_ 20 74 HT_ impl_MakerOk.m21 rfl rfl ?_
                 refine pI_ 21 75 HT_ impl_MakerOk.m22 rfl rfl ?_
                 refine pI_ 22 76 HT_ impl_MakerOk.m23 rfl rfl ?_
                 refine pI_ 24 78 HT_ #[true, true, true, true, true, true, true, true, true, true, true, true, true, true, true, true, true, true, true, true, true, true, true, false, true, false, false, false, false, false, false, false, false, false] rfl rfl ?_
                 refine pI_ 25 79 HT_ #[true, true, true, true, true, true, true, true, true, true, true, true, true, true, true, true, true, true, true, true, true, true, true, false, true, true, false, false, false, false, false, false, false, false] rfl rfl ?_
                 refine pI_ 29 83 HT_ #[true, true, true, true, true, true, true, true, true, true, true, true, true, true, true, true, true, true, true, true, true, true, true, false, true, true, false, false, false, true, false, false, false, false] rfl rfl ?_
                 refine tk_ 23 77 HT_ HW_ #[true, true, true, true, true, true, true, true, true, true, true, true, true, true, true, true, true, true, true, true, true, true, true, true, true, true, false, false, false, true, false, false, false, false] rfl rfl hHeld ?_
                 refine pI_ 26 80 HT_ #[true, true, true, true, true, true, true, true, true, true, true, true, true, true, true, true, true, true, true, true, true, true, true, true, true, true, true, false, false, true, false, false, false, false] rfl rfl ?_
                 refine pI_ 27 81 HT_ #[true, true, true, true, true, true, true, true, true, true, true, true, true, true, true, true, true, true, true, true, true, true, true, true, true, true, true, true, false, true, false, false, false, false] rfl rfl ?_
                 refine tk_ 28 82 HT_ HW_ impl_MakerOk.m24 rfl rfl hHeld ?_
                 refine tk_ 30 84 HT_ HW_ impl_MakerOk.m25 rfl rfl hHeld ?_
                 refine pI_ 31 85 HT_ impl_MakerOk.m26 rfl rfl ?_
                 refine pI_ 32 86 HT_ impl_MakerOk.m27 rfl rfl ?_
                 refine pI_ 33 87 HT_ impl_MakerOk.m28 rfl rfl ?_
                 refine done_ (done_of HT_.out (by kernel_rfl)) ?_
                 try go_wp2
                 go_meet
                 case rel => exact ⟨_, (decide (((rd_Mark l0_4 (ji35)).f1) ≥ ((rd_Mark l0_4 x49_3).f1))), (by first | rfl | (simp; done) | (simp only [← hji35] <;> (first | rfl | simp)) | (simp [*]; done)), H', ⟨qe1_⟩, ⟨bq_ BK993.out⟩, ⟨bq_ BK999.out⟩, ⟨hb_ HB.out⟩⟩
                ·
                 rw [if_neg c37] at H
                 exact absurd H (by simp)
               ·
                rw [if_neg c36] at H
                exact absurd H (by simp)
              ·
               rw [if_neg c34] at H
               have c34b0 : decide (0 < x49_3) = false := decide_eq_false c34
               clear c34
               have H' := Aside0.mk H
               clear H
               try go_wp2
               obtain ⟨w40, qe_⟩ : ∃ x_, x_ = ((w28.setCell ⟨gb999, 0, none⟩ (.int .i64 ((rd_Mark l0_4 x49_3).f0))).setCell ⟨gb999, 1, none⟩ (.int .i64 ((rd_Mark l0_4 x49_3).f1))) := ⟨_, rfl⟩
               rw [← qe_]
               replace BK993 := fl_ qe_ BK993
               replace BK999 : Aside0 (w40.heap[gb999]? = some (.cells #[.int .i64 ((rd_Mark l0_4 x49_3).f0), .int .i64 ((rd_Mark l0_4 x49_3).f1)] 110 (0, 0))) := ⟨by rw [qe_]; exact bp_ BK999.out⟩
               replace HB : Aside0 (Below w.heap.size w w40) := ⟨by rw [qe_]; exact hb_ HB.out⟩
               clear qe_
               replace BK993 := Aside0.mk (blk_drew BK993.out)
               replace BK999 := Aside0.mk (blk_drew BK999.out)
               replace HB := Aside0.mk (below_drew1 HB.out)
               refine start_ (n := 34) (S := fun w' => w'.cell? ⟨gb999, 0, none⟩ = some (.int .i64 ((rd_Mark l0_4 x49_3).f0)) ∧ w'.cell? ⟨gb999, 1, none⟩ = some (.int .i64 ((rd_Mark l0_4 x49_3).f1)) ∧ w'.cell? ⟨gb993, 0, none⟩ = some (.int .i64 a0_0) ∧ w'.cell? ⟨gb993, 1, none⟩ = some (.int .i64 a0_1) ∧ w'.cell? ⟨gb993, 2, none⟩ = some (.int .i64 a0_2) ∧ w'.cell? ⟨gb993, 3, none⟩ = some (.int .i64 a0_3) ∧ w'.cell? ⟨gb993, 4, none⟩ = some (.slice (some ad998) l0_4.length c0_4)) (ds := []) impl_MakerOk.m0 (by kernel_rfl) rfl rfl ⟨bc_ BK999 0, bc_ BK999 1, bc_ BK993 0, bc_ BK993 1, bc_ BK993 2, bc_ BK993 3, bc_ BK993 4⟩ (fun hHeld => ?_); refine with_tabW impl_MakerOk.tab6 impl_MakerOk.bits6 (fun HT_ HW_ => ?_)
               generalize w40.drew = w41 at BK993 BK999 HB hHeld ⊢
               refine pI_ 0 54 HT_ impl_MakerOk.m1 rfl rfl ?_
               refine pI_ 2 56 HT_ impl_MakerOk.m2 rfl rfl ?_
               refine pI_ 4 58 HT_ impl_MakerOk.m3 rfl rfl ?_
               refine pI_ 9 63 HT_ impl_MakerOk.m4 rfl rfl ?_
               refine tk_ 1 55 HT_ HW_ impl_MakerOk.m5 rfl rfl hHeld ?_
               refine tk_ 3 57 HT_ HW_ impl_MakerOk.m6 rfl rfl hHeld ?_
               refine tk_ 5 59 HT_ HW_ impl_MakerOk.m7 rfl rfl hHeld ?_
               refine pI_ 6 60 HT_ impl_MakerOk.m8 rfl rfl ?_
               refine pI_ 7 61 HT_ impl_MakerOk.m9 rfl rfl ?_
               refine pI_ 8 62 HT_ impl_MakerOk.m10 rfl rfl ?_
               refine pI_ 10 64 HT_ impl_MakerOk.m11 rfl rfl ?_
               refine pI_ 11 65 HT_ impl_MakerOk.m12 rfl rfl ?_
               refine pI_ 12 66 HT_ impl_MakerOk.m13 rfl rfl ?_
               refine pI_ 13 67 HT_ impl_MakerOk.m14 rfl rfl ?_
               refine tk_ 14 68 HT_ HW_ impl_MakerOk.m15 rfl rfl hHeld ?_
               refine on_ 15 69 HT_ impl_MakerOk.m16 rfl rfl (fun K hK => ?_)
               refine goes_ Try.func58 (by kernel_rfl) rfl #[.int .i64 ((rd_Mark l0_4 x49_3).f1), .int .i64 0, .int .i64 100000] (by rfl) rfl rfl sm_ ?_
               with_reducible refine (impl_within.calls ((rd_Mark l0_4 x49_3).f1) 0 100000 true _ A32.out).mono ?_
               rintro e w' ⟨rfl, ⟨nd, rfl⟩⟩
               refine ⟨_, rfl, ?_⟩
               refine hK.out _ _ ⟨bc_ BK999 0, bc_ BK999 1, bc_ BK993 0, bc_ BK993 1, bc_ BK993 2, bc_ BK993 3, bc_ BK993 4⟩ (fun hHeld => ?_)
               clear hK K
               refine nm_ ?_
               refine pI_ 16 70 HT_ impl_MakerOk.m17 rfl rfl ?_
               refine pI_ 17 71 HT_ impl_MakerOk.m18 rfl rfl ?_
               refine pI_ 18 72 HT_ impl_MakerOk.m19 rfl rfl ?_
               refine pI_ 19 73 HT_ impl_MakerOk.m20 rfl rfl ?_
               refine pI_ 20 74 HT_ impl_MakerOk.m21 rfl rfl ?_
               refine pI_ 21 75 HT_ impl_MakerOk.m22 rfl rfl ?_
               refine pU_ 22 76 HT_ impl_MakerOk.m23 rfl rfl ?_
               refine pU_ 23 77 HT_ impl_MakerOk.m29 rfl rfl ?_
               refine pU_ 24 78 HT_ impl_MakerOk.m30 rfl rfl ?_
               refine pU_ 25 79 HT_ impl_MakerOk.m31 rfl rfl ?_
               refine pU_ 26 80 HT_ impl_MakerOk.m32 rfl rfl ?_
               refine pU_ 27 81 HT_ impl_MakerOk.m33 rfl rfl ?_
               refine pU_ 28 82 HT_ impl_MakerOk.m34 rfl rfl ?_
               refine pU_ 29 83 HT_ impl_MakerOk.m24 rfl rfl ?_
               refine pU_ 30 84 HT_ impl_MakerOk.m25 rfl rfl ?_
               refine pU_ 31 85 HT_ impl_MakerOk.m26 rfl rfl ?_
               refine pI_ 32 86 HT_ impl_MakerOk.m27 rfl rfl ?_
               refine pI_ 33 87 HT_ impl_MakerOk.m28 rfl rfl ?_
               refine done_ (done_of HT_.out (by kernel_rfl)) ?_
               try go_wp2
               go_meet
               case rel => exact ⟨_, (false), (qe0_), H', ⟨qe1_⟩, ⟨bq_ BK993.out⟩, ⟨bq_ BK999.out⟩, ⟨hb_ HB.out⟩⟩
             ·
              replace c33 := Bool.eq_false_iff.mpr c33
              subst c33
              have H1 : (impl_MakerOk.j4 kj22 l0_4 (l0_4.length : Int) x49_3 true a0_0 a0_1 a0_2 a0_3 l0_4) = some r := by rw [if_neg (show ¬ (false = true) by decide)] at H; exact H
              clear H
              have H := H1
              clear H1
              have H' := Aside0.mk H
              clear H
              try go_wp2
              obtain ⟨w42, qe_⟩ : ∃ x_, x_ = ((w28.setCell ⟨gb999, 0, none⟩ (.int .i64 ((rd_Mark l0_4 x49_3).f0))).setCell ⟨gb999, 1, none⟩ (.int .i64 ((rd_Mark l0_4 x49_3).f1))) := ⟨_, rfl⟩
              rw [← qe_]
              replace BK993 := fl_ qe_ BK993
              replace BK999 : Aside0 (w42.heap[gb999]? = some (.cells #[.int .i64 ((rd_Mark l0_4 x49_3).f0), .int .i64 ((rd_Mark l0_4 x49_3).f1)] 110 (0, 0))) := ⟨by rw [qe_]; exact bp_ BK999.out⟩
              replace HB : Aside0 (Below w.heap.size w w42) := ⟨by rw [qe_]; exact hb_ HB.out⟩
              clear qe_
              replace BK993 := Aside0.mk (blk_drew BK993.out)
              replace BK999 := Aside0.mk (blk_drew BK999.out)
              replace HB := Aside0.mk (below_drew1 HB.out)
              refine start_ (n := 34) (S := fun w' => w'.cell? ⟨gb999, 0, none⟩ = some (.int .i64 ((rd_Mark l0_4 x49_3).f0)) ∧ w'.cell? ⟨gb999, 1, none⟩ = some (.int .i64 ((rd_Mark l0_4 x49_3).f1)) ∧ w'.cell? ⟨gb993, 0, none⟩ = some (.int .i64 a0_0) ∧ w'.cell? ⟨gb993, 1, none⟩ = some (.int .i64 a0_1) ∧ w'.cell? ⟨gb993, 2, none⟩ = some (.int .i64 a0_2) ∧ w'.cell? ⟨gb993, 3, none⟩ = some (.int .i64 a0_3) ∧ w'.cell? ⟨gb993, 4, none⟩ = some (.slice (some ad998) l0_4.length c0_4)) (ds := []) impl_MakerOk.m0 (by kernel_rfl) rfl rfl ⟨bc_ BK999 0, bc_ BK999 1, bc_ BK993 0, bc_ BK993 1, bc_ BK993 2, bc_ BK993 3, bc_ BK993 4⟩ (fun hHeld => ?_); refine with_tabW impl_MakerOk.tab6 impl_MakerOk.bits6 (fun HT_ HW_ => ?_)
              generalize w42.drew = w43 at BK993 BK999 HB hHeld ⊢
              refine pI_ 0 54 HT_ impl_MakerOk.m1 rfl rfl ?_
              refine pI_ 2 56 HT_ impl_MakerOk.m2 rfl rfl ?_
              refine pI_ 4 58 HT_ impl_MakerOk.m3 rfl rfl ?_
              refine pI_ 9 63 HT_ impl_MakerOk.m4 rfl rfl ?_
              refine tk_ 1 55 HT_ HW_ impl_MakerOk.m5 rfl rfl hHeld ?_
              refine tk_ 3 57 HT_ HW_ impl_MakerOk.m6 rfl rfl hHeld ?_
              refine tk_ 5 59 HT_ HW_ impl_MakerOk.m7 rfl rfl hHeld ?_
              refine pI_ 6 60 HT_ impl_MakerOk.m8 rfl rfl ?_
              refine pI_ 7 61 HT_ impl_MakerOk.m9 rfl rfl ?_
              refine pI_ 8 62 HT_ impl_MakerOk.m10 rfl rfl ?_
              refine pI_ 10 64 HT_ impl_MakerOk.m11 rfl rfl ?_
              refine pI_ 11 65 HT_ impl_MakerOk.m12 rfl rfl ?_
              refine pI_ 12 66 HT_ impl_MakerOk.m13 rfl rfl ?_
              refine pI_ 13 67 HT_ impl_MakerOk.m14 rfl rfl ?_
              refine tk_ 14 68 HT_ HW_ impl_MakerOk.m15 rfl rfl hHeld ?_
              refine on_ 15 69 HT_ impl_MakerOk.m16 rfl rfl (fun K hK => ?_)
              refine goes_ Try.func58 (by kernel_rfl) rfl #[.int .i64 ((rd_Mark l0_4 x49_3).f1), .int .i64 0, .int .i64 100000] (by rfl) rfl rfl sm_ ?_
              with_reducible refine (impl_within.calls ((rd_Mark l0_4 x49_3).f1) 0 100000 false _ A32.out).mono ?_
              rintro e w' ⟨rfl, ⟨nd, rfl⟩⟩
              refine ⟨_, rfl, ?_⟩
              refine hK.out _ _ ⟨bc_ BK999 0, bc_ BK999 1, bc_ BK993 0, bc_ BK993 1, bc_ BK993 2, bc_ BK993 3, bc_ BK993 4⟩ (fun hHeld => ?_)
              clear hK K
              refine nm_ ?_
              refine pI_ 16 70 HT_ impl_MakerOk.m17 rfl rfl ?_
              refine pI_ 17 71 HT_ impl_MakerOk.m18 rfl rfl ?_
              refine pI_ 18 72 HT_ impl_MakerOk.m19 rfl rfl ?_
              refine pU_ 19 73 HT_ impl_MakerOk.m20 rfl rfl ?_
              refine pU_ 20 74 HT_ impl_MakerOk.m21 rfl rfl ?_
              refine pU_ 21 75 HT_ impl_MakerOk.m22 rfl rfl ?_
              refine pU_ 22 76 HT_ impl_MakerOk.m23 rfl rfl ?_
              refine pU_ 23 77 HT_ impl_MakerOk.m29 rfl rfl ?_
              refine pU_ 24 78 HT_ impl_MakerOk.m30 rfl rfl ?_
              refine pU_ 25 79 HT_ impl_MakerOk.m31 rfl rfl ?_
              refine pU_ 26 80 HT_ impl_MakerOk.m32 rfl rfl ?_
              refine pU_ 27 81 HT_ impl_MakerOk.m33 rfl rfl ?_
              refine pU_ 28 82 HT_ impl_MakerOk.m34 rfl rfl ?_
              refine pU_ 29 83 HT_ impl_MakerOk.m24 rfl rfl ?_
              refine pU_ 30 84 HT_ impl_MakerOk.m25 rfl rfl ?_
              refine pU_ 31 85 HT_ impl_MakerOk.m26 rfl rfl ?_
              refine pU_ 32 86 HT_ impl_MakerOk.m27 rfl rfl ?_
              refine pI_ 33 87 HT_ impl_MakerOk.m28 rfl rfl ?_
              refine done_ (done_of HT_.out (by kernel_rfl)) ?_
              try go_wp2
              go_meet
              case rel => exact ⟨_, (true), (qe0_), H', ⟨qe1_⟩, ⟨bq_ BK993.out⟩, ⟨bq_ BK999.out⟩, ⟨hb_ HB.out⟩⟩
            ·
             rw [if_neg c31] at H
             have c31b0 : (((rd_Mark l0_4 x49_3).f0) == (wrap64 ((wrap64 ((wrap64 (a0_3 - (l0_4.length : Int))) + 1)) + x49_3))) = false := beq_eq_false_iff_ne.mpr c31
             have c31b1 : (((rd_Mark l0_4 x49_3).f0) != (wrap64 ((wrap64 ((wrap64 (a0_3 - (l0_4.length : Int))) + 1)) + x49_3))) = true := bne_iff_ne.mpr c31
             (first | rw [c31b0] | (simp only [i64_w, i32_w]; rw [c31b0]) | rw [c31b4] | rw [c31b3] | skip)
             have H' := Aside0.mk H
             clear H
             try go_wp2
             obtain ⟨w44, qe_⟩ : ∃ x_, x_ = ((w28.setCell ⟨gb999, 0, none⟩ (.int .i64 ((rd_Mark l0_4 x49_3).f0))).setCell ⟨gb999, 1, none⟩ (.int .i64 ((rd_Mark l0_4 x49_3).f1))) := ⟨_, rfl⟩
             rw [← qe_]
             replace BK993 := fl_ qe_ BK993
             replace BK999 : Aside0 (w44.heap[gb999]? = some (.cells #[.int .i64 ((rd_Mark l0_4 x49_3).f0), .int .i64 ((rd_Mark l0_4 x49_3).f1)] 110 (0, 0))) := ⟨by rw [qe_]; exact bp_ BK999.out⟩
             replace HB : Aside0 (Below w.heap.size w w44) := ⟨by rw [qe_]; exact hb_ HB.out⟩
             clear qe_
             replace BK993 := Aside0.mk (blk_drew BK993.out)
             replace BK999 := Aside0.mk (blk_drew BK999.out)
             replace HB := Aside0.mk (below_drew1 HB.out)
             refine start_ (n := 34) (S := fun w' => w'.cell? ⟨gb999, 0, none⟩ = some (.int .i64 ((rd_Mark l0_4 x49_3).f0)) ∧ w'.cell? ⟨gb999, 1, none⟩ = some (.int .i64 ((rd_Mark l0_4 x49_3).f1)) ∧ w'.cell? ⟨gb993, 0, none⟩ = some (.int .i64 a0_0) ∧ w'.cell? ⟨gb993, 1, none⟩ = some (.int .i64 a0_1) ∧ w'.cell? ⟨gb993, 2, none⟩ = some (.int .i64 a0_2) ∧ w'.cell? ⟨gb993, 3, none⟩ = some (.int .i64 a0_3) ∧ w'.cell? ⟨gb993, 4, none⟩ = some (.slice (some ad998) l0_4.length c0_4)) (ds := []) impl_MakerOk.m0 (by kernel_rfl) rfl rfl ⟨bc_ BK999 0, bc_ BK999 1, bc_ BK993 0, bc_ BK993 1, bc_ BK993 2, bc_ BK993 3, bc_ BK993 4⟩ (fun hHeld => ?_); refine with_tabW impl_MakerOk.tab6 impl_MakerOk.bits6 (fun HT_ HW_ => ?_)
             generalize w44.drew = w45 at BK993 BK999 HB hHeld ⊢
             refine pI_ 0 54 HT_ impl_MakerOk.m1 rfl rfl ?_
             refine pI_ 2 56 HT_ impl_MakerOk.m2 rfl rfl ?_
             refine pI_ 4 58 HT_ impl_MakerOk.m3 rfl rfl ?_
             refine pI_ 9 63 HT_ impl_MakerOk.m4 rfl rfl ?_
             refine tk_ 1 55 HT_ HW_ impl_MakerOk.m5 rfl rfl hHeld ?_
             refine tk_ 3 57 HT_ HW_ impl_MakerOk.m6 rfl rfl hHeld ?_
             refine tk_ 5 59 HT_ HW_ impl_MakerOk.m7 rfl rfl hHeld ?_
             refine pI_ 6 60 HT_ impl_MakerOk.m8 rfl rfl ?_
             refine pI_ 7 61 HT_ impl_MakerOk.m9 rfl rfl ?_
             refine pI_ 8 62 HT_ impl_MakerOk.m10 rfl rfl ?_
             refine pI_ 10 64 HT_ impl_MakerOk.m11 rfl rfl ?_
             refine pI_ 11 65 HT_ impl_MakerOk.m12 rfl rfl ?_
             refine pI_ 12 66 HT_ impl_MakerOk.m13 rfl rfl ?_
             refine pU_ 13 67 HT_ impl_MakerOk.m14 rfl rfl ?_
             refine pU_ 14 68 HT_ impl_MakerOk.m15 rfl rfl ?_
             refine pU_ 15 69 HT_ impl_MakerOk.m16 rfl rfl ?_
             refine pU_ 16 70 HT_ impl_MakerOk.m17 rfl rfl ?_
             refine pI_ 17 71 HT_ impl_MakerOk.m18 rfl rfl ?_
             refine pI_ 18 72 HT_ impl_MakerOk.m19 rfl rfl ?_
             refine pU_ 19 73 HT_ impl_MakerOk.m20 rfl rfl ?_
             refine pU_ 20 74 HT_ impl_MakerOk.m21 rfl rfl ?_
             refine pU_ 21 75 HT_ impl_MakerOk.m22 rfl rfl ?_
             refine pU_ 22 76 HT_ impl_MakerOk.m23 rfl rfl ?_
             refine pU_ 23 77 HT_ impl_MakerOk.m29 rfl rfl ?_
             refine pU_ 24 78 HT_ impl_MakerOk.m30 rfl rfl ?_
             refine pU_ 25 79 HT_ impl_MakerOk.m31 rfl rfl ?_
             refine pU_ 26 80 HT_ impl_MakerOk.m32 rfl rfl ?_
             refine pU_ 27 81 HT_ impl_MakerOk.m33 rfl rfl ?_
             refine pU_ 28 82 HT_ impl_MakerOk.m34 rfl rfl ?_
             refine pU_ 29 83 HT_ impl_MakerOk.m24 rfl rfl ?_
             refine pU_ 30 84 HT_ impl_MakerOk.m25 rfl rfl ?_
             refine pU_ 31 85 HT_ impl_MakerOk.m26 rfl rfl ?_
             refine pU_ 32 86 HT_ impl_MakerOk.m27 rfl rfl ?_
             refine pI_ 33 87 HT_ impl_MakerOk.m28 rfl rfl ?_
             refine done_ (done_of HT_.out (by kernel_rfl)) ?_
             try go_wp2
             go_meet
             case rel => exact ⟨_, (true), (qe0_), H', ⟨qe1_⟩, ⟨bq_ BK993.out⟩, ⟨bq_ BK999.out⟩, ⟨hb_ HB.out⟩⟩
           case rest =>
            clear HC27
            obtain ⟨kq, x87_26, rfl, HA, HJ26, BK993, BK999, HB⟩ := hcut
            cases kq with
            | zero => exact absurd HA.out (by simp [impl_MakerOk.j4])
            | succ kj26 =>
             have H := HA.out
             clear HA
             simp only [impl_MakerOk.j4] at H
             by_cases c46 : x87_26 = true
             ·
              subst c46
              have H1 : (some false) = some r := by rw [if_pos rfl] at H; exact H
              clear H
              have H := H1
              clear H1
              obtain rfl := Option.some.inj H
              go_wp2
              go_ret
              exact ⟨er_, hb_ HB.out⟩
             ·
              replace c46 := Bool.eq_false_iff.mpr c46
              subst c46
              have H1 : (impl_MakerOk.l0 kj26 l0_4 (l0_4.length : Int) (wrap64 (x49_3 + 1)) a0_0 a0_1 a0_2 a0_3 l0_4) = some r := by rw [if_neg (show ¬ (false = true) by decide)] at H; exact H
              clear H
              have H := H1
              clear H1
              have H' := Aside0.mk H
              clear H
              go_wp2
              go_roundg kj26
              case measure => have := HJ2.out; have := HJ19.out; have := HK3.out; have := HJ22.out; have := HJ26.out; omega
              case rel => exact ⟨(wrap64 (x49_3 + 1)), (qe0_), H', ⟨by have := HJ2.out; have := HJ19.out; have := HK3.out; have := HJ22.out; have := HJ26.out; omega⟩, ⟨bq_ BK993.out⟩, ⟨hb_ HB.out⟩⟩
          ·
           rw [if_neg c26] at H
           exact absurd H (by simp)
         ·
          rw [if_neg c25] at H
          exact absurd H (by simp)
/-! ### spec_MakerOk: function 42 -/
abbrev spec_MakerOk.m0 : Array Bool := #[f_,f_,f_,f_,f_,f_,f_,f_,f_,f_,f_,f_,f_,f_,f_,f_,f_,f_,f_,f_,f_,f_,f_,f_,f_,f_,f_,f_,f_,f_,f_,f_,f_,f_,f_,f_,f_,f_,f_,f_,f_,f_,f_,f_,f_,f_]
abbrev spec_MakerOk.m1 : Array Bool := #[t_,f_,f_,f_,f_,f_,f_,f_,f_,f_,f_,f_,f_,f_,f_,f_,f_,f_,f_,f_,f_,f_,f_,f_,f_,f_,f_,f_,f_,f_,f_,f_,f_,f_,f_,f_,f_,f_,f_,f_,f_,f_,f_,f_,f_,f_]
abbrev spec_MakerOk.m2 : Array Bool := #[t_,f_,t_,f_,f_,f_,f_,f_,f_,f_,f_,f_,f_,f_,f_,f_,f_,f_,f_,f_,f_,f_,f_,f_,f_,f_,f_,f_,f_,f_,f_,f_,f_,f_,f_,f_,f_,f_,f_,f_,f_,f_,f_,f_,f_,f_]
abbrev spec_MakerOk.m3 : Array Bool := #[t_,t_,t_,f_,f_,f_,f_,f_,f_,f_,f_,f_,f_,f_,f_,f_,f_,f_,f_,f_,f_,f_,f_,f_,f_,f_,f_,f_,f_,f_,f_,f_,f_,f_,f_,f_,f_,f_,f_,f_,f_,f_,f_,f_,f_,f_]
abbrev spec_MakerOk.m4 : Array Bool := #[t_,t_,t_,t_,f_,f_,f_,f_,f_,f_,f_,f_,f_,f_,f_,f_,f_,f_,f_,f_,f_,f_,f_,f_,f_,f_,f_,f_,f_,f_,f_,f_,f_,f_,f_,f_,f_,f_,f_,f_,f_,f_,f_,f_,f_,f_]
abbrev spec_MakerOk.m5 : Array Bool := #[t_,t_,t_,t_,t_,f_,f_,f_,f_,f_,f_,f_,f_,f_,f_,f_,f_,f_,f_,f_,f_,f_,f_,f_,f_,f_,f_,f_,f_,f_,f_,f_,f_,f_,f_,f_,f_,f_,f_,f_,f_,f_,f_,f_,f_,f_]
abbrev spec_MakerOk.m6 : Array Bool := #[t_,t_,t_,t_,t_,t_,f_,f_,f_,f_,f_,f_,f_,f_,f_,f_,f_,f_,f_,f_,f_,f_,f_,f_,f_,f_,f_,f_,f_,f_,f_,f_,f_,f_,f_,f_,f_,f_,f_,f_,f_,f_,f_,f_,f_,f_]
abbrev spec_MakerOk.m7 : Array Bool := #[t_,t_,t_,t_,t_,t_,t_,f_,f_,f_,f_,f_,f_,f_,f_,f_,f_,f_,f_,f_,f_,f_,f_,f_,f_,f_,f_,f_,f_,f_,f_,f_,f_,f_,f_,f_,f_,f_,f_,f_,f_,f_,f_,f_,f_,f_]
abbrev spec_MakerOk.m8 : Array Bool := #[t_,t_,t_,t_,t_,t_,t_,t_,f_,f_,f_,f_,f_,f_,f_,f_,f_,f_,f_,f_,f_,f_,f_,f_,f_,f_,f_,f_,f_,f_,f_,f_,f_,f_,f_,f_,f_,f_,f_,f_,f_,f_,f_,f_,f_,f_]
abbrev spec_MakerOk.m9 : Array Bool := #[t_,t_,t_,t_,t_,t_,t_,t_,t_,f_,f_,f_,f_,f_,f_,f_,f_,f_,f_,f_,f_,f_,f_,f_,f_,f_,f_,f_,f_,f_,f_,f_,f_,f_,f_,f_,f_,f_,f_,f_,f_,f_,f_,f_,f_,f_]
abbrev spec_MakerOk.m10 : Array Bool := #[t_,t_,t_,t_,t_,t_,t_,t_,t_,t_,f_,f_,f_,f_,f_,f_,f_,f_,f_,f_,f_,f_,f_,f_,f_,f_,f_,f_,f_,f_,f_,f_,f_,f_,f_,f_,f_,f_,f_,f_,f_,f_,f_,f_,f_,f_]
abbrev spec_MakerOk.m11 : Array Bool := #[t_,t_,t_,t_,t_,t_,t_,t_,t_,t_,f_,t_,f_,f_,f_,f_,f_,f_,f_,f_,f_,f_,f_,f_,f_,f_,f_,f_,f_,f_,f_,f_,f_,f_,f_,f_,f_,f_,f_,f_,f_,f_,f_,f_,f_,f_]
abbrev spec_MakerOk.m12 : Array Bool := #[t_,t_,t_,t_,t_,t_,t_,t_,t_,t_,f_,t_,f_,f_,f_,t_,f_,f_,f_,f_,f_,f_,f_,f_,f_,f_,f_,f_,f_,f_,f_,f_,f_,f_,f_,f_,f_,f_,f_,f_,f_,f_,f_,f_,f_,f_]
abbrev spec_MakerOk.m13 : Array Bool := #[t_,t_,t_,t_,t_,t_,t_,t_,t_,t_,f_,t_,f_,f_,f_,t_,f_,t_,f_,f_,f_,f_,f_,f_,f_,f_,f_,f_,f_,f_,f_,f_,f_,f_,f_,f_,f_,f_,f_,f_,f_,f_,f_,f_,f_,f_]
abbrev spec_MakerOk.m14 : Array Bool := #[t_,t_,t_,t_,t_,t_,t_,t_,t_,t_,f_,t_,f_,f_,f_,t_,f_,t_,f_,f_,f_,t_,f_,f_,f_,f_,f_,f_,f_,f_,f_,f_,f_,f_,f_,f_,f_,f_,f_,f_,f_,f_,f_,f_,f_,f_]
abbrev spec_MakerOk.m15 : Array Bool := #[t_,t_,t_,t_,t_,t_,t_,t_,t_,t_,t_,t_,f_,f_,f_,t_,f_,t_,f_,f_,f_,t_,f_,f_,f_,f_,f_,f_,f_,f_,f_,f_,f_,f_,f_,f_,f_,f_,f_,f_,f_,f_,f_,f_,f_,f_]
abbrev spec_MakerOk.m16 : Array Bool := #[t_,t_,t_,t_,t_,t_,t_,t_,t_,t_,t_,t_,t_,f_,f_,t_,f_,t_,f_,f_,f_,t_,f_,f_,f_,f_,f_,f_,f_,f_,f_,f_,f_,f_,f_,f_,f_,f_,f_,f_,f_,f_,f_,f_,f_,f_]
abbrev spec_MakerOk.m17 : Array Bool := #[t_,t_,t_,t_,t_,t_,t_,t_,t_,t_,t_,t_,t_,t_,f_,t_,f_,t_,f_,f_,f_,t_,f_,f_,f_,f_,f_,f_,f_,f_,f_,f_,f_,f_,f_,f_,f_,f_,f_,f_,f_,f_,f_,f_,f_,f_]
abbrev spec_MakerOk.m18 : Array Bool := #[t_,t_,t_,t_,t_,t_,t_,t_,t_,t_,t_,t_,t_,t_,t_,t_,f_,t_,f_,f_,f_,t_,f_,f_,f_,f_,f_,f_,f_,f_,f_,f_,f_,f_,f_,f_,f_,f_,f_,f_,f_,f_,f_,f_,f_,f_]
abbrev spec_MakerOk.m19 : Array Bool := #[t_,t_,t_,t_,t_,t_,t_,t_,t_,t_,t_,t_,t_,t_,t_,t_,t_,t_,f_,f_,f_,t_,f_,f_,f_,f_,f_,f_,f_,f_,f_,f_,f_,f_,f_,f_,f_,f_,f_,f_,f_,f_,f_,f_,f_,f_]
abbrev spec_MakerOk.m20 : Array Bool := #[t_,t_,t_,t_,t_,t_,t_,t_,t_,t_,t_,t_,t_,t_,t_,t_,t_,t_,t_,f_,f_,t_,f_,f_,f_,f_,f_,f_,f_,f_,f_,f_,f_,f_,f_,f_,f_,f_,f_,f_,f_,f_,f_,f_,f_,f_]
abbrev spec_MakerOk.m21 : Array Bool := #[t_,t_,t_,t_,t_,t_,t_,t_,t_,t_,t_,t_,t_,t_,t_,t_,t_,t_,t_,t_,f_,t_,f_,f_,f_,f_,f_,f_,f_,f_,f_,f_,f_,f_,f_,f_,f_,f_,f_,f_,f_,f_,f_,f_,f_,f_]
abbrev spec_MakerOk.m22 : Array Bool := #[t_,t_,t_,t_,t_,t_,t_,t_,t_,t_,t_,t_,t_,t_,t_,t_,t_,t_,t_,t_,t_,t_,f_,f_,f_,f_,f_,f_,f_,f_,f_,f_,f_,f_,f_,f_,f_,f_,f_,f_,f_,f_,f_,f_,f_,f_]
abbrev spec_MakerOk.m23 : Array Bool := #[t_,t_,t_,t_,t_,t_,t_,t_,t_,t_,t_,t_,t_,t_,t_,t_,t_,t_,t_,t_,t_,t_,t_,f_,f_,f_,f_,f_,f_,f_,f_,f_,f_,f_,f_,f_,f_,f_,f_,f_,f_,f_,f_,f_,f_,f_]
abbrev spec_MakerOk.m24 : Array Bool := #[t_,t_,t_,t_,t_,t_,t_,t_,t_,t_,t_,t_,t_,t_,t_,t_,t_,t_,t_,t_,t_,t_,t_,t_,f_,f_,f_,f_,f_,f_,f_,f_,f_,f_,f_,f_,f_,f_,f_,f_,f_,f_,f_,f_,f_,f_]
abbrev spec_MakerOk.m25 : Array Bool := #[t_,t_,t_,t_,t_,t_,t_,t_,t_,t_,t_,t_,t_,t_,t_,t_,t_,t_,t_,t_,t_,t_,t_,t_,t_,f_,f_,f_,f_,f_,f_,f_,f_,f_,f_,f_,f_,f_,f_,f_,f_,f_,f_,f_,f_,f_]
abbrev spec_MakerOk.m26 : Array Bool := #[t_,t_,t_,t_,t_,t_,t_,t_,t_,t_,t_,t_,t_,t_,t_,t_,t_,t_,t_,t_,t_,t_,t_,t_,t_,t_,f_,f_,f_,f_,f_,f_,f_,f_,f_,f_,f_,f_,f_,f_,f_,f_,f_,f_,f_,f_]
abbrev spec_MakerOk.m27 : Array Bool := #[t_,t_,t_,t_,t_,t_,t_,t_,t_,t_,t_,t_,t_,t_,t_,t_,t_,t_,t_,t_,t_,t_,t_,t_,t_,t_,t_,f_,f_,f_,f_,f_,f_,f_,f_,f_,f_,f_,f_,f_,f_,f_,f_,f_,f_,f_]
abbrev spec_MakerOk.m28 : Array Bool := #[t_,t_,t_,t_,t_,t_,t_,t_,t_,t_,t_,t_,t_,t_,t_,t_,t_,t_,t_,t_,t_,t_,t_,t_,t_,t_,t_,t_,f_,f_,f_,f_,f_,f_,f_,f_,f_,f_,f_,f_,f_,f_,f_,f_,f_,f_]
abbrev spec_MakerOk.m29 : Array Bool := #[t_,t_,t_,t_,t_,t_,t_,t_,t_,t_,t_,t_,t_,t_,t_,t_,t_,t_,t_,t_,t_,t_,t_,t_,t_,t_,t_,t_,t_,f_,f_,f_,f_,f_,f_,f_,f_,f_,f_,f_,f_,f_,f_,f_,f_,f_]
abbrev spec_MakerOk.m30 : Array Bool := #[t_,t_,t_,t_,t_,t_,t_,t_,t_,t_,t_,t_,t_,t_,t_,t_,t_,t_,t_,t_,t_,t_,t_,t_,t_,t_,t_,t_,t_,t_,f_,f_,f_,f_,f_,f_,f_,f_,f_,f_,f_,f_,f_,f_,f_,f_]
abbrev spec_MakerOk.m31 : Array Bool := #[t_,t_,t_,t_,t_,t_,t_,t_,t_,t_,t_,t_,t_,t_,t_,t_,t_,t_,t_,t_,t_,t_,t_,t_,t_,t_,t_,t_,t_,t_,t_,f_,f_,f_,f_,f_,f_,f_,f_,f_,f_,f_,f_,f_,f_,f_]
abbrev spec_MakerOk.m32 : Array Bool := #[t_,t_,t_,t_,t_,t_,t_,t_,t_,t_,t_,t_,t_,t_,t_,t_,t_,t_,t_,t_,t_,t_,t_,t_,t_,t_,t_,t_,t_,t_,t_,t_,t_,t_,t_,t_,t_,t_,t_,t_,f_,f_,f_,f_,f_,f_]
abbrev spec_MakerOk.m33 : Array Bool := #[t_,t_,t_,t_,t_,t_,t_,t_,t_,t_,t_,t_,t_,t_,t_,t_,t_,t_,t_,t_,t_,t_,t_,t_,t_,t_,t_,t_,t_,t_,t_,t_,t_,t_,t_,t_,t_,t_,t_,t_,t_,f_,f_,f_,f_,f_]
abbrev spec_MakerOk.m34 : Array Bool := #[t_,t_,t_,t_,t_,t_,t_,t_,t_,t_,t_,t_,t_,t_,t_,t_,t_,t_,t_,t_,t_,t_,t_,t_,t_,t_,t_,t_,t_,t_,t_,t_,t_,t_,t_,t_,t_,t_,t_,t_,t_,t_,f_,f_,f_,f_]
abbrev spec_MakerOk.m35 : Array Bool := #[t_,t_,t_,t_,t_,t_,t_,t_,t_,t_,t_,t_,t_,t_,t_,t_,t_,t_,t_,t_,t_,t_,t_,t_,t_,t_,t_,t_,t_,t_,t_,t_,t_,t_,t_,t_,t_,t_,t_,t_,t_,t_,t_,f_,f_,f_]
abbrev spec_MakerOk.m36 : Array Bool := #[t_,t_,t_,t_,t_,t_,t_,t_,t_,t_,t_,t_,t_,t_,t_,t_,t_,t_,t_,t_,t_,t_,t_,t_,t_,t_,t_,t_,t_,t_,t_,t_,t_,t_,t_,t_,t_,t_,t_,t_,t_,t_,t_,t_,f_,f_]
abbrev spec_MakerOk.m37 : Array Bool := #[t_,t_,t_,t_,t_,t_,t_,t_,t_,t_,t_,t_,t_,t_,t_,t_,t_,t_,t_,t_,t_,t_,t_,t_,t_,t_,t_,t_,t_,t_,t_,t_,t_,t_,t_,t_,t_,t_,t_,t_,t_,t_,t_,t_,t_,f_]
abbrev spec_MakerOk.m38 : Array Bool := #[t_,t_,t_,t_,t_,t_,t_,t_,t_,t_,t_,t_,t_,t_,t_,t_,t_,t_,t_,t_,t_,t_,t_,t_,t_,t_,t_,t_,t_,t_,t_,t_,t_,t_,t_,t_,t_,t_,t_,t_,t_,t_,t_,t_,t_,t_]
abbrev spec_MakerOk.m39 : Array Bool := #[t_,t_,t_,t_,t_,t_,t_,t_,t_,t_,t_,t_,t_,t_,t_,t_,t_,t_,t_,t_,t_,t_,t_,t_,t_,t_,t_,t_,t_,t_,t_,t_,f_,f_,f_,f_,f_,f_,f_,f_,f_,f_,f_,f_,f_,f_]
abbrev spec_MakerOk.m40 : Array Bool := #[t_,t_,t_,t_,t_,t_,t_,t_,t_,t_,t_,t_,t_,t_,t_,t_,t_,t_,t_,t_,t_,t_,t_,t_,t_,t_,t_,t_,t_,t_,t_,t_,t_,f_,f_,f_,f_,f_,f_,f_,f_,f_,f_,f_,f_,f_]
abbrev spec_MakerOk.m41 : Array Bool := #[t_,t_,t_,t_,t_,t_,t_,t_,t_,t_,t_,t_,t_,t_,t_,t_,t_,t_,t_,t_,t_,t_,t_,t_,t_,t_,t_,t_,t_,t_,t_,t_,t_,t_,f_,f_,f_,f_,f_,f_,f_,f_,f_,f_,f_,f_]
abbrev spec_MakerOk.m42 : Array Bool := #[t_,t_,t_,t_,t_,t_,t_,t_,t_,t_,t_,t_,t_,t_,t_,t_,t_,t_,t_,t_,t_,t_,t_,t_,t_,t_,t_,t_,t_,t_,t_,t_,t_,t_,t_,f_,f_,f_,f_,f_,f_,f_,f_,f_,f_,f_]
abbrev spec_MakerOk.m43 : Array Bool := #[t_,t_,t_,t_,t_,t_,t_,t_,t_,t_,t_,t_,t_,t_,t_,t_,t_,t_,t_,t_,t_,t_,t_,t_,t_,t_,t_,t_,t_,t_,t_,t_,t_,t_,t_,t_,f_,f_,f_,f_,f_,f_,f_,f_,f_,f_]
abbrev spec_MakerOk.m44 : Array Bool := #[t_,t_,t_,t_,t_,t_,t_,t_,t_,t_,t_,t_,t_,t_,t_,t_,t_,t_,t_,t_,t_,t_,t_,t_,t_,t_,t_,t_,t_,t_,t_,t_,t_,t_,t_,t_,t_,f_,f_,f_,f_,f_,f_,f_,f_,f_]
abbrev spec_MakerOk.m45 : Array Bool := #[t_,t_,t_,t_,t_,t_,t_,t_,t_,t_,t_,t_,t_,t_,t_,t_,t_,t_,t_,t_,t_,t_,t_,t_,t_,t_,t_,t_,t_,t_,t_,t_,t_,t_,t_,t_,t_,t_,f_,f_,f_,f_,f_,f_,f_,f_]
abbrev spec_MakerOk.m46 : Array Bool := #[t_,t_,t_,t_,t_,t_,t_,t_,t_,t_,t_,t_,t_,t_,t_,t_,t_,t_,t_,t_,t_,t_,t_,t_,t_,t_,t_,t_,t_,t_,t_,t_,t_,t_,t_,t_,t_,t_,t_,f_,f_,f_,f_,f_,f_,f_]
mutual
def spec_MakerOk.j3 : Nat → Int → Int → Int → Int → Int → List (S_Mark) → Option (Bool)
 | 0, _, _, _, _, _, _ => none
 | k + 1, x1, x1003000, x1003001, x1003002, x1003003, x1003004 => if (x1003004.length : Int) > x1 then (spec_MakerOk.j4 k true x1003000 x1003001 x1003002 x1003003 x1003004) else (if (x1003004.length : Int) > (wrap64 (x1003003 + 1)) then (spec_MakerOk.j4 k true x1003000 x1003001 x1003002 x1003003 x1003004) else (if x1003003 ≥ 0 then (spec_MakerOk.j4 k ((x1003004.length : Int) == 0) x1003000 x1003001 x1003002 x1003003 x1003004) else (spec_MakerOk.j4 k false x1003000 x1003001 x1003002 x1003003 x1003004)))
def spec_MakerOk.j4 : Nat → Bool → Int → Int → Int → Int → List (S_Mark) → Option (Bool)
 | 0, _, _, _, _, _, _ => none
 | k + 1, x83, x1003000, x1003001, x1003002, x1003003, x1003004 => if x83 = true then (some false) else (spec_MakerOk.j5 k x1003000 x1003001 x1003002 x1003003 x1003004)
def spec_MakerOk.j5 : Nat → Int → Int → Int → Int → List (S_Mark) → Option (Bool)
 | 0, _, _, _, _, _ => none
 | k + 1, x1003000, x1003001, x1003002, x1003003, x1003004 => (spec_l1In.f x1003000 0 3).bind fun t1008 => (if t1008 = true then ((spec_l1In.f x1003001 0 3).bind fun t1009 => (if t1009 = true then ((spec_l1In.f x1003002 0 100000).bind fun t1010 => (if t1010 = true then ((spec_l1In.f x1003003 (-1) 100000).bind fun t1011 => (some t1011)) else (some false))) else (some false))) else (some false))
def spec_MakerOk.l0 : Nat → Int → Int → Int → Int → Int → Int → List (S_Mark) → Option (Bool)
 | 0, _, _, _, _, _, _, _ => none
 | k + 1, x1, x5, x1003000, x1003001, x1003002, x1003003, x1003004 => if x5 < (x1003004.length : Int) then (spec_MakerOk.j1 k x1 x5 x1003000 x1003001 x1003002 x1003003 x1003004) else (spec_MakerOk.j3 k x1 x1003000 x1003001 x1003002 x1003003 x1003004)
def spec_MakerOk.j1 : Nat → Int → Int → Int → Int → Int → Int → List (S_Mark) → Option (Bool)
 | 0, _, _, _, _, _, _, _ => none
 | k + 1, x1, x5, x1003000, x1003001, x1003002, x1003003, x1003004 => if 0 ≤ x5 then (if x5 < (x1003004.length : Int) then ((spec_l1In.f ((rd_Mark x1003004 x5).f1) 0 100000).bind fun t1004 => (if t1004 = true then (if ((rd_Mark x1003004 x5).f0) = (wrap64 (x1003003 - (wrap64 ((wrap64 ((x1003004.length : Int) - 1)) - x5)))) then (if x5 > 0 then (if 0 ≤ (wrap64 (x5 - 1)) then (if (wrap64 (x5 - 1)) < (x1003004.length : Int) then (spec_MakerOk.j2 k x1 x5 (decide (((rd_Mark x1003004 (wrap64 (x5 - 1))).f1) ≥ ((rd_Mark x1003004 x5).f1))) x1003000 x1003001 x1003002 x1003003 x1003004) else (none)) else (none)) else (spec_MakerOk.j2 k x1 x5 false x1003000 x1003001 x1003002 x1003003 x1003004)) else (spec_MakerOk.j2 k x1 x5 true x1003000 x1003001 x1003002 x1003003 x1003004)) else (spec_MakerOk.j2 k x1 x5 true x1003000 x1003001 x1003002 x1003003 x1003004))) else (none)) else (none)
def spec_MakerOk.j2 : Nat → Int → Int → Bool → Int → Int → Int → Int → List (S_Mark) → Option (Bool)
 | 0, _, _, _, _, _, _, _, _ => none
 | k + 1, x1, x5, x58, x1003000, x1003001, x1003002, x1003003, x1003004 => if x58 = true then (some false) else (spec_MakerOk.l0 k x1 (wrap64 (x5 + 1)) x1003000 x1003001 x1003002 x1003003 x1003004)
end
def spec_MakerOk.f (k : Nat) (a0_0 : Int) (a0_1 : Int) (a0_2 : Int) (a0_3 : Int) (l0_4 : List (S_Mark)) (a1 : Int) : Option (Bool) := spec_MakerOk.l0 k a1 0 a0_0 a0_1 a0_2 a0_3 l0_4
theorem spec_MakerOk.mono_l : ∀ k, (∀ y0 y1 y2 y3 y4 y5, LeO (spec_MakerOk.j3 k y0 y1 y2 y3 y4 y5) (spec_MakerOk.j3 (k + 1) y0 y1 y2 y3 y4 y5)) ∧ (∀ y0 y1 y2 y3 y4 y5, LeO (spec_MakerOk.j4 k y0 y1 y2 y3 y4 y5) (spec_MakerOk.j4 (k + 1) y0 y1 y2 y3 y4 y5)) ∧ (∀ y0 y1 y2 y3 y4, LeO (spec_MakerOk.j5 k y0 y1 y2 y3 y4) (spec_MakerOk.j5 (k + 1) y0 y1 y2 y3 y4)) ∧ (∀ y0 y1 y2 y3 y4 y5 y6, LeO (spec_MakerOk.l0 k y0 y1 y2 y3 y4 y5 y6) (spec_MakerOk.l0 (k + 1) y0 y1 y2 y3 y4 y5 y6)) ∧ (∀ y0 y1 y2 y3 y4 y5 y6, LeO (spec_MakerOk.j1 k y0 y1 y2 y3 y4 y5 y6) (spec_MakerOk.j1 (k + 1) y0 y1 y2 y3 y4 y5 y6)) ∧ (∀ y0 y1 y2 y3 y4 y5 y6 y7, LeO (spec_MakerOk.j2 k y0 y1 y2 y3 y4 y5 y6 y7) (spec_MakerOk.j2 (k + 1) y0 y1 y2 y3 y4 y5 y6 y7))
 | 0 => ⟨fun _ _ _ _ _ _ r h => by simp [spec_MakerOk.j3] at h, fun _ _ _ _ _ _ r h => by simp [spec_MakerOk.j4] at h, fun _ _ _ _ _ r h => by simp [spec_MakerOk.j5] at h, fun _ _ _ _ _ _ _ r h => by simp [spec_MakerOk.l0] at h, fun _ _ _ _ _ _ _ r h => by simp [spec_MakerOk.j1] at h, fun _ _ _ _ _ _ _ _ r h => by simp [spec_MakerOk.j2] at h⟩
 | k + 1 => by
  obtain ⟨ih0, ih1, ih2, ih3, ih4, ih5⟩ := spec_MakerOk.mono_l k
  refine ⟨?_, ?_, ?_, ?_, ?_, ?_⟩
  ·
   intro y0 y1 y2 y3 y4 y5
   unfold spec_MakerOk.j3
   exact qeh1_
  ·
   intro y0 y1 y2 y3 y4 y5
   unfold spec_MakerOk.j4
   exact qeh1_
  ·
   intro y0 y1 y2 y3 y4
   unfold spec_MakerOk.j5
   exact qeh1_
  ·
   intro y0 y1 y2 y3 y4 y5 y6
   unfold spec_MakerOk.l0
   exact qeh1_
  ·
   intro y0 y1 y2 y3 y4 y5 y6
   unfold spec_MakerOk.j1
   exact qeh1_
  ·
   intro y0 y1 y2 y3 y4 y5 y6 y7
   unfold spec_MakerOk.j2
   exact qeh1_
theorem spec_MakerOk.mono : ∀ a0 a1 a2 a3 a4 a5 k, LeO (spec_MakerOk.f k a0 a1 a2 a3 a4 a5) (spec_MakerOk.f (k + 1) a0 a1 a2 a3 a4 a5) := by
 intro a0 a1 a2 a3 a4 a5 k
 obtain ⟨ih0, ih1, ih2, ih3, ih4, ih5⟩ := spec_MakerOk.mono_l k
 unfold spec_MakerOk.f
 exact qeh1_
def spec_MakerOk.T4 : Bool × List (List Nat × List Nat) := (true, [([], []), ([0], [0]), ([], []), ([1, 2], [1, 2]), ([3], [3]), ([4], [4]), ([5], [5]), ([6], [6]), ([7, 6], [7]), ([8], [8]), ([9, 8], [8, 9]), ([8], [8]), ([10, 11, 8], [8, 10, 11]), ([12, 8], [8, 12]), ([13, 8], [8, 13]), ([8], [8]), ([15, 8], [8, 15]), ([8], [8]), ([17, 8], [8, 17]), ([18, 8], [8, 18]), ([19, 8], [8, 19]), ([8], [8]), ([20, 21, 8], [8, 20, 21]), ([16, 22, 8], [8, 16, 22]), ([14, 23, 8], [8, 14, 23]), ([8, 24], [8, 24]), ([25, 8], [25]), ([26], [26]), ([27, 26], [26, 27]), ([28, 26, 26], [26, 28]), ([29], [29]), ([30, 29], [29, 30]), ([29], [29]), ([32, 29], [29, 32]), ([31, 33, 29], [29, 31, 33]), ([34, 29], [29, 34]), ([35, 29], [29, 35]), ([29], [29]), ([37, 29], [29, 37]), ([29], [29]), ([38, 39, 29], [29, 38, 39]), ([40, 29], [29, 40]), ([41, 29], [29, 41]), ([36, 42, 29], [29, 36, 42]), ([29, 43, 26], [26, 29, 43]), ([26, 44], [26, 44])])
def spec_MakerOk.B4 : List Nat := [0, 1, 0, 7, 15, 31, 63, 127, 255, 511, 1023, 511, 4095, 8191, 16383, 511, 33279, 511, 131583, 393727, 918015, 511, 4063743, 8356351, 16777215, 33554431, 67108863, 134217727, 268435455, 536870911, 1073741823, 2147483647, 1073741823, 5368709119, 17179869183, 34359738367, 68719476735, 1073741823, 138512695295, 1073741823, 963146416127, 2062658043903, 4261681299455, 8796093022207, 17592186044415, 35184372088831]
theorem spec_MakerOk.tab4 : rtab .any (opsOf Try.f42 4) = spec_MakerOk.T4 := by kernel_rfl
theorem spec_MakerOk.bits4 : waitsOk spec_MakerOk.T4.2 spec_MakerOk.B4 = true := by kernel_rfl
set_option maxHeartbeats 8000000 in
set_option maxRecDepth 100000 in
theorem spec_MakerOk.calls (k : Nat) (a0_0 : Int) (a0_1 : Int) (a0_2 : Int) (a0_3 : Int) (A0_4 : Option Addr) (c0_4 : Nat) (l0_4 : List (S_Mark)) (a1 : Int) (r : Bool) (w : World) (hr0_4 : Kd.C k_Mark w A0_4 l0_4.length l0_4) (hc0_4 : l0_4.length ≤ c0_4) (h : spec_MakerOk.f k a0_0 a0_1 a0_2 a0_3 l0_4 a1 = some r) :
 Calls Try.prog 42 #[.agg #[.int .i64 a0_0, .int .i64 a0_1, .int .i64 a0_2, .int .i64 a0_3, .slice A0_4 l0_4.length c0_4], .int .i64 a1] w fun e w' => e = .returned (.bool r) ∧ Below w.heap.size w w' := by
 have hu38 := Try.underlying38
 have HR0_4 := Aside0.mk hr0_4
 have HC0_4 := Aside0.mk hc0_4
 clear hr0_4 hc0_4
 have HB := Aside0.mk (Below.refl w.heap.size w)
 have H : (spec_MakerOk.l0 k a1 0 a0_0 a0_1 a0_2 a0_3 l0_4) = some r := h
 clear h
 have HC3 := Aside0.mk H
 clear H
 go_enter Try.func42, Try.ntmps42
 go_upto_block 0 with (first | ((with_reducible refine gate_dst (N := 2) rfl ?_); (try (refine gate_guard (by rfl) ?_; dsimp only)); refine box_event ?hg (N := 2) ?hd (cs := #[.int .i64 a0_0, .int .i64 a0_1, .int .i64 a0_2, .int .i64 a0_3, .slice A0_4 l0_4.length c0_4]) (t := 38) ?hr ?_; (case hd => rfl); (case hg => rfl); (case hr => first | (go_simp; done) | (go_simp; rfl)); intro gb1002 hg w4 hbox hb; have BK1002 := Aside0.mk (hbox); have GW1002 := cz_ HB hg; have GE1002 := cz_ HB hg; replace HB := ch_ HB hb; clear hb hbox hg))
 (try simp only [Act.put, List.setIfInBounds_toArray, List.set_cons_zero, List.set_cons_succ])
 go_cut [] (fun wc => ∃ (kq : Nat), Aside0 (spec_MakerOk.j3 kq a1 a0_0 a0_1 a0_2 a0_3 l0_4 = some r) ∧ Aside0 (kq ≤ k) ∧ Aside0 (wc.heap[gb1002]? = some (.cells #[.int .i64 a0_0, .int .i64 a0_1, .int .i64 a0_2, .int .i64 a0_3, (.slice A0_4 l0_4.length c0_4)] 38 (0, 0))) ∧ Aside0 (Below w.heap.size w wc))
 case first =>
  have H := HC3.out
  clear HC3
  have H' := Aside0.mk H
  clear H
  go_wp2
  go_loopg [5] k (fun kq v5 w' => ∃ (x5_1 : Int), v5 = .int .i64 x5_1 ∧ Aside0 (spec_MakerOk.l0 kq a1 x5_1 a0_0 a0_1 a0_2 a0_3 l0_4 = some r) ∧ Aside0 (kq ≤ k) ∧ Aside0 (w'.heap[gb1002]? = some (.cells #[.int .i64 a0_0, .int .i64 a0_1, .int .i64 a0_2, .int .i64 a0_3, (.slice A0_4 l0_4.length c0_4)] 38 (0, 0))) ∧ Aside0 (Below w.heap.size w w'))
  case atStart => exact ⟨(0), (qe0_), H', ⟨Nat.le_refl _⟩, ⟨bq_ BK1002.out⟩, ⟨hb_ HB.out⟩⟩
  case round =>
   clear H'
   obtain ⟨x5_1, rfl, HA, HK1, BK1002, HB⟩ := hrel
   cases gk with
   | zero => exact absurd HA.out (by simp [spec_MakerOk.l0])
   | succ k1 =>
    have H := HA.out
    clear HA
    simp only [spec_MakerOk.l0] at H
    have HC5 := Aside0.mk H
    clear H
    have hcz6_0 : wr.cell? ⟨gb1002, 0, none⟩ = some (.int .i64 a0_0) := bc_ BK1002 0
    have hcz6_1 : wr.cell? ⟨gb1002, 1, none⟩ = some (.int .i64 a0_1) := bc_ BK1002 1
    have hcz6_2 : wr.cell? ⟨gb1002, 2, none⟩ = some (.int .i64 a0_2) := bc_ BK1002 2
    have hcz6_3 : wr.cell? ⟨gb1002, 3, none⟩ = some (.int .i64 a0_3) := bc_ BK1002 3
    have hcz6_4 : wr.cell? ⟨gb1002, 4, none⟩ = some (.slice A0_4 l0_4.length c0_4) := bc_ BK1002 4
    have hfz6_0 := blk_frozen BK1002.out 0
    have hfz6_1 := blk_frozen BK1002.out 1
    have hfz6_2 := blk_frozen BK1002.out 2
    have hfz6_3 := blk_frozen BK1002.out 3
    have hfz6_4 := blk_frozen BK1002.out 4
    go_upto_if 10 with (fail)
    go_cut [] (fun wc => ∃ (kq : Nat), Aside0 (spec_MakerOk.j1 kq a1 x5_1 a0_0 a0_1 a0_2 a0_3 l0_4 = some r) ∧ Aside0 (kq ≤ k1) ∧ Aside0 (wc.heap[gb1002]? = some (.cells #[.int .i64 a0_0, .int .i64 a0_1, .int .i64 a0_2, .int .i64 a0_3, (.slice A0_4 l0_4.length c0_4)] 38 (0, 0))) ∧ Aside0 (Below w.heap.size w wc))
    case first =>
     have H := HC5.out
     clear HC5
     by_cases c7 : x5_1 < (l0_4.length : Int)
     ·
      rw [if_pos c7] at H
      have c7b0 : decide (x5_1 < (l0_4.length : Int)) = true := decide_eq_true c7
      clear c7
      (first | rw [c7b0] | (simp only [i64_w, i32_w]; rw [c7b0]) | rw [c7b4] | rw [c7b3] | skip)
      have H' := Aside0.mk H
      clear H
      go_wp2
      go_meet
      case rel => exact ⟨_, H', ⟨by have := HK1.out; first | omega | exact Nat.le_refl _⟩, ⟨bq_ BK1002.out⟩, ⟨hb_ HB.out⟩⟩
     ·
      rw [if_neg c7] at H
      have c7b0 : decide (x5_1 < (l0_4.length : Int)) = false := decide_eq_false c7
      clear c7
      (first | rw [c7b0] | (simp only [i64_w, i32_w]; rw [c7b0]) | rw [c7b4] | rw [c7b3] | skip)
      have H' := Aside0.mk H
      clear H
      go_wp2
      go_meet
      case rel => exact ⟨_, H', ⟨by have := HK1.out; first | omega | exact Nat.le_refl _⟩, ⟨bq_ BK1002.out⟩, ⟨hb_ HB.out⟩⟩
    case rest =>
     clear HC5
     (try clear hcz6_0); (try clear hcz6_1); (try clear hcz6_2); (try clear hcz6_3); (try clear hcz6_4); (try clear hfz6_0); (try clear hfz6_1); (try clear hfz6_2); (try clear hfz6_3); (try clear hfz6_4)
     obtain ⟨kq, HA, HJ4, BK1002, HB⟩ := hcut
     cases kq with
     | zero => exact absurd HA.out (by simp [spec_MakerOk.j1])
     | succ kj4 =>
      have H := HA.out
      clear HA
      simp only [spec_MakerOk.j1] at H
      have HC8 := Aside0.mk H
      clear H
      go_upto_region 4 with (fail)
      go_cut [58] (fun v58 wc => ∃ (kq : Nat) (x58_7 : Bool), v58 = .bool x58_7 ∧ Aside0 (spec_MakerOk.j2 kq a1 x5_1 x58_7 a0_0 a0_1 a0_2 a0_3 l0_4 = some r) ∧ Aside0 (kq ≤ kj4) ∧ Aside0 (wc.heap[gb1002]? = some (.cells #[.int .i64 a0_0, .int .i64 a0_1, .int .i64 a0_2, .int .i64 a0_3, (.slice A0_4 l0_4.length c0_4)] 38 (0, 0))) ∧ Aside0 (Below w.heap.size w wc))
      case first =>
       have H := HC8.out
       clear HC8
       by_cases c9 : 0 ≤ x5_1
       ·
        rw [if_pos c9] at H
        have c9b0 : decide (0 ≤ x5_1) = true := decide_eq_true c9
        clear c9
        (first | rw [c9b0] | (simp only [i64_w, i32_w]; rw [c9b0]) | rw [c9b4] | rw [c9b3] | skip)
        by_cases c10 : x5_1 < (l0_4.length : Int)
        ·
         rw [if_pos c10] at H
         have c10b0 : decide (x5_1 < (l0_4.length : Int)) = true := decide_eq_true c10
         clear c10
         replace H := Option.bind_eq_some_iff.mp H
         obtain ⟨t1004, A110, H⟩ := H
         replace H : (if t1004 = true then (if ((rd_Mark l0_4 x5_1).f0) = (wrap64 (a0_3 - (wrap64 ((wrap64 ((l0_4.length : Int) - 1)) - x5_1)))) then (if x5_1 > 0 then (if 0 ≤ (wrap64 (x5_1 - 1)) then (if (wrap64 (x5_1 - 1)) < (l0_4.length : Int) then (spec_MakerOk.j2 kj4 a1 x5_1 (decide (((rd_Mark l0_4 (wrap64 (x5_1 - 1))).f1) ≥ ((rd_Mark l0_4 x5_1).f1))) a0_0 a0_1 a0_2 a0_3 l0_4) else (none)) else (none)) else (spec_MakerOk.j2 kj4 a1 x5_1 false a0_0 a0_1 a0_2 a0_3 l0_4)) else (spec_MakerOk.j2 kj4 a1 x5_1 true a0_0 a0_1 a0_2 a0_3 l0_4)) else (spec_MakerOk.j2 kj4 a1 x5_1 true a0_0 a0_1 a0_2 a0_3 l0_4)) = some r := H
         have A11 := Aside0.mk A110
         clear A110
         by_cases c12 : t1004 = true
         ·
          subst c12
          have H1 : (if ((rd_Mark l0_4 x5_1).f0) = (wrap64 (a0_3 - (wrap64 ((wrap64 ((l0_4.length : Int) - 1)) - x5_1)))) then (if x5_1 > 0 then (if 0 ≤ (wrap64 (x5_1 - 1)) then (if (wrap64 (x5_1 - 1)) < (l0_4.length : Int) then (spec_MakerOk.j2 kj4 a1 x5_1 (decide (((rd_Mark l0_4 (wrap64 (x5_1 - 1))).f1) ≥ ((rd_Mark l0_4 x5_1).f1))) a0_0 a0_1 a0_2 a0_3 l0_4) else (none)) else (none)) else (spec_MakerOk.j2 kj4 a1 x5_1 false a0_0 a0_1 a0_2 a0_3 l0_4)) else (spec_MakerOk.j2 kj4 a1 x5_1 true a0_0 a0_1 a0_2 a0_3 l0_4)) = some r := by rw [if_pos rfl] at H; exact H
          clear H
          have H := H1
          clear H1
          by_cases c13 : ((rd_Mark l0_4 x5_1).f0) = (wrap64 (a0_3 - (wrap64 ((wrap64 ((l0_4.length : Int) - 1)) - x5_1))))
          ·
           rw [if_pos c13] at H
           have c13b0 : (((rd_Mark l0_4 x5_1).f0) == (wrap64 (a0_3 - (wrap64 ((wrap64 ((l0_4.length : Int) - 1)) - x5_1))))) = true := beq_iff_eq.mpr c13
           have c13b1 : (((rd_Mark l0_4 x5_1).f0) != (wrap64 (a0_3 - (wrap64 ((wrap64 ((l0_4.length : Int) - 1)) - x5_1))))) = false := bne_eq_false_iff_eq.mpr c13
           clear c13
           by_cases c14 : x5_1 > 0
           ·
            rw [if_pos c14] at H
            have c14b0 : decide (0 < x5_1) = true := decide_eq_true c14
            clear c14
            obtain ⟨ji15, hji15⟩ : ∃ j_ : Int, (wrap64 (x5_1 - 1)) = j_ := ⟨_, rfl⟩
            replace H : (if 0 ≤ (ji15) then (if (ji15) < (l0_4.length : Int) then (spec_MakerOk.j2 kj4 a1 x5_1 (decide (((rd_Mark l0_4 (ji15)).f1) ≥ ((rd_Mark l0_4 x5_1).f1))) a0_0 a0_1 a0_2 a0_3 l0_4) else (none)) else (none)) = some r := by first | (rw [hji15] at H; exact H) | (simp only [hji15] at H ⊢; exact H)
            (try rw [hji15] at A11)
            have hji15w : (IntKind.i64.wrap (x5_1 - 1)) = ji15 := (i64_w _).trans hji15
            by_cases c16 : 0 ≤ (ji15)
            ·
             rw [if_pos c16] at H
             have c16b0 : decide (0 ≤ (ji15)) = true := decide_eq_true c16
             clear c16
             by_cases c17 : (ji15) < (l0_4.length : Int)
             ·
              rw [if_pos c17] at H
              have c17b0 : decide ((ji15) < (l0_4.length : Int)) = true := decide_eq_true c17
              clear c17
              have H' := Aside0.mk H
              clear H
              try go_wp2
              replace BK1002 := Aside0.mk (blk_drew BK1002.out)
              replace HB := Aside0.mk (below_drew1 HB.out)
              have p1003 : 0 ≤ (x5_1 : Int) := of_decide_eq_true dt_
              have q1003 : x5_1 < (l0_4.length : Int) := of_decide_eq_true dt_
              obtain ⟨ad1003, e1003, hx1003_0, hx1003_1⟩ := at_Mark HR0_4.out x5_1 p1003 q1003
              have hw1003_1 := hx1003_1
              have hw1003_0 := hx1003_0
              cases e1003
              replace hx1003_0 := hc_ HB hx1003_0
              replace hx1003_1 := hc_ HB hx1003_1
              replace p1003 := eq_true p1003
              replace q1003 := eq_true q1003
              have p1005 : 0 ≤ (x5_1 : Int) := of_decide_eq_true dt_
              have q1005 : x5_1 < (l0_4.length : Int) := of_decide_eq_true dt_
              obtain ⟨ad1005, e1005, hx1005_0, hx1005_1⟩ := at_Mark HR0_4.out x5_1 p1005 q1005
              have hw1005_1 := hx1005_1
              have hw1005_0 := hx1005_0
              obtain rfl : ad1003 = ad1005 := (by injection e1005)
              replace hx1005_0 := hc_ HB hx1005_0
              replace hx1005_1 := hc_ HB hx1005_1
              replace p1005 := eq_true p1005
              replace q1005 := eq_true q1005
              have p1006 : 0 ≤ ((ji15) : Int) := of_decide_eq_true dt_
              have q1006 : (ji15) < (l0_4.length : Int) := of_decide_eq_true dt_
              obtain ⟨ad1006, e1006, hx1006_0, hx1006_1⟩ := at_Mark HR0_4.out (ji15) p1006 q1006
              have hw1006_1 := hx1006_1
              have hw1006_0 := hx1006_0
              obtain rfl : ad1003 = ad1006 := (by injection e1006)
              replace hx1006_0 := hc_ HB hx1006_0
              replace hx1006_1 := hc_ HB hx1006_1
              replace p1006 := eq_true p1006
              replace q1006 := eq_true q1006
              have p1007 : 0 ≤ (x5_1 : Int) := of_decide_eq_true dt_
              have q1007 : x5_1 < (l0_4.length : Int) := of_decide_eq_true dt_
              obtain ⟨ad1007, e1007, hx1007_0, hx1007_1⟩ := at_Mark HR0_4.out x5_1 p1007 q1007
              have hw1007_1 := hx1007_1
              have hw1007_0 := hx1007_0
              obtain rfl : ad1003 = ad1007 := (by injection e1007)
              replace hx1007_0 := hc_ HB hx1007_0
              replace hx1007_1 := hc_ HB hx1007_1
              replace p1007 := eq_true p1007
              replace q1007 := eq_true q1007
              refine start_ (n := 46) (S := fun w' => w'.cell? ⟨gb1002, 0, none⟩ = some (.int .i64 a0_0) ∧ w'.cell? ⟨gb1002, 1, none⟩ = some (.int .i64 a0_1) ∧ w'.cell? ⟨gb1002, 2, none⟩ = some (.int .i64 a0_2) ∧ w'.cell? ⟨gb1002, 3, none⟩ = some (.int .i64 a0_3) ∧ w'.cell? ⟨gb1002, 4, none⟩ = some (.slice (some ad1003) l0_4.length c0_4) ∧ w'.cell? (ad1003.add ((x5_1).toNat * 2)) = some (.int .i64 ((rd_Mark l0_4 x5_1).f0)) ∧ w'.cell? ⟨(ad1003.add ((x5_1).toNat * 2)).block, (ad1003.add ((x5_1).toNat * 2)).off + 1, none⟩ = some (.int .i64 ((rd_Mark l0_4 x5_1).f1)) ∧ w'.cell? (ad1003.add ((x5_1).toNat * 2)) = some (.int .i64 ((rd_Mark l0_4 x5_1).f0)) ∧ w'.cell? ⟨(ad1003.add ((x5_1).toNat * 2)).block, (ad1003.add ((x5_1).toNat * 2)).off + 1, none⟩ = some (.int .i64 ((rd_Mark l0_4 x5_1).f1)) ∧ w'.cell? (ad1003.add (((ji15)).toNat * 2)) = some (.int .i64 ((rd_Mark l0_4 (ji15)).f0)) ∧ w'.cell? ⟨(ad1003.add (((ji15)).toNat * 2)).block, (ad1003.add (((ji15)).toNat * 2)).off + 1, none⟩ = some (.int .i64 ((rd_Mark l0_4 (ji15)).f1)) ∧ w'.cell? (ad1003.add ((x5_1).toNat * 2)) = some (.int .i64 ((rd_Mark l0_4 x5_1).f0)) ∧ w'.cell? ⟨(ad1003.add ((x5_1).toNat * 2)).block, (ad1003.add ((x5_1).toNat * 2)).off + 1, none⟩ = some (.int .i64 ((rd_Mark l0_4 x5_1).f1))) (ds := []) spec_MakerOk.m0 (by kernel_rfl) rfl rfl ⟨bc_ BK1002 0, bc_ BK1002 1, bc_ BK1002 2, bc_ BK1002 3, bc_ BK1002 4, (hd_ HB hw1003_0), (hd_ HB hw1003_1), (hd_ HB hw1005_0), (hd_ HB hw1005_1), (hd_ HB hw1006_0), (hd_ HB hw1006_1), (hd_ HB hw1007_0), (hd_ HB hw1007_1)⟩ (fun hHeld => ?_); refine with_tabW spec_MakerOk.tab4 spec_MakerOk.bits4 (fun HT_ HW_ => ?_)
              generalize wc.drew = w18 at BK1002 HB hx1003_0 hx1003_1 hx1005_0 hx1005_1 hx1006_0 hx1006_1 hx1007_0 hx1007_1 hHeld ⊢
              refine pI_ 0 13 HT_ spec_MakerOk.m1 rfl rfl ?_
              refine pI_ 2 15 HT_ spec_MakerOk.m2 rfl rfl ?_
              refine tk_ 1 14 HT_ HW_ spec_MakerOk.m3 rfl rfl hHeld ?_
              refine pI_ 3 16 HT_ spec_MakerOk.m4 rfl rfl ?_
              refine pI_ 4 17 HT_ spec_MakerOk.m5 rfl rfl ?_
              refine tk_ 5 18 HT_ HW_ spec_MakerOk.m6 rfl rfl hHeld ?_
              refine on_ 6 19 HT_ spec_MakerOk.m7 rfl rfl (fun K hK => ?_)
              refine goes_ Try.func74 (by kernel_rfl) rfl #[.int .i64 ((rd_Mark l0_4 x5_1).f1), .int .i64 0, .int .i64 100000] (by rfl) rfl rfl sm_ ?_
              with_reducible refine (spec_l1In.calls ((rd_Mark l0_4 x5_1).f1) 0 100000 true _ A11.out).mono ?_
              rintro e w' ⟨rfl, ⟨nd, rfl⟩⟩
              refine ⟨_, rfl, ?_⟩
              refine hK.out _ _ ⟨bc_ BK1002 0, bc_ BK1002 1, bc_ BK1002 2, bc_ BK1002 3, bc_ BK1002 4, (hd_ HB hw1003_0), (hd_ HB hw1003_1), (hd_ HB hw1005_0), (hd_ HB hw1005_1), (hd_ HB hw1006_0), (hd_ HB hw1006_1), (hd_ HB hw1007_0), (hd_ HB hw1007_1)⟩ (fun hHeld => ?_)
              clear hK K
              refine nm_ ?_
              refine pI_ 7 20 HT_ spec_MakerOk.m8 rfl rfl ?_
              refine pI_ 8 21 HT_ spec_MakerOk.m9 rfl rfl ?_
              refine pI_ 9 22 HT_ spec_MakerOk.m10 rfl rfl ?_
              refine pI_ 11 24 HT_ spec_MakerOk.m11 rfl rfl ?_
              refine pI_ 15 28 HT_ spec_MakerOk.m12 rfl rfl ?_
              refine pI_ 17 30 HT_ spec_MakerOk.m13 rfl rfl ?_
              refine pI_ 21 34 HT_ spec_MakerOk.m14 rfl rfl ?_
              refine tk_ 10 23 HT_ HW_ spec_MakerOk.m15 rfl rfl hHeld ?_
              refine pI_ 12 25 HT_ spec_MakerOk.m16 rfl rfl ?_
              refine pI_ 13 26 HT_ spec_MakerOk.m17 rfl rfl ?_
              refine tk_ 14 27 HT_ HW_ spec_MakerOk.m18 rfl rfl hHeld ?_
              refine tk_ 16 29 HT_ HW_ spec_MakerOk.m19 rfl rfl hHeld ?_
              refine tk_ 18 31 HT_ HW_ spec_MakerOk.m20 rfl rfl hHeld ?_
              refine pI_ 19 32 HT_ spec_MakerOk.m21 rfl rfl ?_
              refine pI_ 20 33 HT_ spec_MakerOk.m22 rfl rfl ?_
              refine pI_ 22 35 HT_ spec_MakerOk.m23 rfl rfl ?_
              refine pI_ 23 36 HT_ spec_MakerOk.m24 rfl rfl ?_
              refine pI_ 24 37 HT_ spec_MakerOk.m25 rfl rfl ?_
              refine pI_ 25 38 HT_ spec_MakerOk.m26 rfl rfl ?_
              refine pI_ 26 39 HT_ spec_MakerOk.m27 rfl rfl ?_
              refine pI_ 27 40 HT_ spec_MakerOk.m28 rfl rfl ?_
              refine pI_ 28 41 HT_ spec_MakerOk.m29 rfl rfl ?_
              refine pI_ 29 42 HT_ spec_MakerOk.m30 rfl rfl ?_
              refine pI_ 30 43 HT_ spec_MakerOk.m31 rfl rfl ?_
              refine pI_ 32 45 HT_ #[true, true, true, true, true, true, true, true, true, true, true, true, true, true, true, true, true, true, true, true, true, true, true, true, true, true, true, true, true, true, true, false, true, false, false, false, false, false, false, false, false, false, false, false, false, false] rfl rfl ?_
              refine pI_ 33 46 HT_ #[true, true, true, true, true, true, true, true, true, true, true, true, true, true, true, true, true, true, true, true, true, true, true, true, true, true, true, true, true, true, true, false, true, true, false, false, false, false, false, false, false, false, false, false, false, false] rfl rfl ?_
              refine pI_ 37 50 HT_ #[true, true, true, true, true, true, true, true, true, true, true, true, true, true, true, true, true, true, true, true, true, true, true, true, true, true, true, true, true, true, true, false, true, true, false, false, false, true, false, false, false, false, false, false, false, false] rfl rfl ?_
              refine pI_ 39 52 HT_ #[true, true, true, true, true, true, true, true, true, true, true, true, true, true, true, true, true, true, true, true, true, true, true, true, true, true, true, true, true, true, true, false, true, true, false, false, false, true, false, true, false, false, false, false, false, false] rfl rfl ?_
              refine tk_ 31 44 HT_ HW_ #[true, true, true, true, true, true, true, true, true, true, true, true, true, true, true, true, true, true, true, true, true, true, true, true, true, true, true, true, true, true, true, true, true, true, false, false, false, true, false, true, false, false, false, false, false, false] rfl rfl hHeld ?_
              refine pI_ 34 47 HT_ #[true, true, true, true, true, true, true, true, true, true, true, true, true, true, true, true, true, true, true, true, true, true, true, true, true, true, true, true, true, true, true, true, true, true, true, false, false, true, false, true, false, false, false, false, false, false] rfl rfl ?_
              refine pI_ 35 48 HT_ #[true, true, true, true, true, true, true, true, true, true, true, true, true, true, true, true, true, true, true, true, true, true, true, true, true, true, true, true, true, true, true, true, true, true, true, true, false, true, false, true, false, false, false, false, false, false] rfl rfl ?_
              refine tk_ 36 49 HT_ HW_ #[true, true, true, true, true, true, true, true, true, true, true, true, true, true, true, true, true, true, true, true, true, true, true, true, true, true, true, true, true, true, true, true, true, true, true, true, true, true, false, true, false, false, false, false, false, false] rfl rfl hHeld ?_
              refine tk_ 38 51 HT_ HW_ spec_MakerOk.m32 rfl rfl hHeld ?_
              refine pI_ 40 53 HT_ spec_MakerOk.m33 rfl rfl ?_
              refine pI_ 41 54 HT_ spec_MakerOk.m34 rfl rfl ?_
              refine tk_ 42 55 HT_ HW_ spec_MakerOk.m35 rfl rfl hHeld ?_
              refine pI_ 43 56 HT_ spec_MakerOk.m36 rfl rfl ?_
              refine pI_ 44 57 HT_ spec_MakerOk.m37 rfl rfl ?_
              refine pI_ 45 58 HT_ spec_MakerOk.m38 rfl rfl ?_
              refine done_ (done_of HT_.out (by kernel_rfl)) ?_
              try go_wp2
              go_meet
              case rel => exact ⟨_, (decide (((rd_Mark l0_4 (ji15)).f1) ≥ ((rd_Mark l0_4 x5_1).f1))), (by first | rfl | (simp; done) | (simp only [← hji15] <;> (first | rfl | simp)) | (simp [*]; done)), H', ⟨qe2_⟩, ⟨bq_ BK1002.out⟩, ⟨hb_ HB.out⟩⟩
             ·
              rw [if_neg c17] at H
              exact absurd H (by simp)
            ·
             rw [if_neg c16] at H
             exact absurd H (by simp)
           ·
            rw [if_neg c14] at H
            have c14b0 : decide (0 < x5_1) = false := decide_eq_false c14
            clear c14
            have H' := Aside0.mk H
            clear H
            try go_wp2
            replace BK1002 := Aside0.mk (blk_drew BK1002.out)
            replace HB := Aside0.mk (below_drew1 HB.out)
            have p1003 : 0 ≤ (x5_1 : Int) := of_decide_eq_true dt_
            have q1003 : x5_1 < (l0_4.length : Int) := of_decide_eq_true dt_
            obtain ⟨ad1003, e1003, hx1003_0, hx1003_1⟩ := at_Mark HR0_4.out x5_1 p1003 q1003
            have hw1003_1 := hx1003_1
            have hw1003_0 := hx1003_0
            cases e1003
            replace hx1003_0 := hc_ HB hx1003_0
            replace hx1003_1 := hc_ HB hx1003_1
            replace p1003 := eq_true p1003
            replace q1003 := eq_true q1003
            have p1005 : 0 ≤ (x5_1 : Int) := of_decide_eq_true dt_
            have q1005 : x5_1 < (l0_4.length : Int) := of_decide_eq_true dt_
            obtain ⟨ad1005, e1005, hx1005_0, hx1005_1⟩ := at_Mark HR0_4.out x5_1 p1005 q1005
            have hw1005_1 := hx1005_1
            have hw1005_0 := hx1005_0
            obtain rfl : ad1003 = ad1005 := (by injection e1005)
            replace hx1005_0 := hc_ HB hx1005_0
            replace hx1005_1 := hc_ HB hx1005_1
            replace p1005 := eq_true p1005
            replace q1005 := eq_true q1005
            refine start_ (n := 46) (S := fun w' => w'.cell? ⟨gb1002, 0, none⟩ = some (.int .i64 a0_0) ∧ w'.cell? ⟨gb1002, 1, none⟩ = some (.int .i64 a0_1) ∧ w'.cell? ⟨gb1002, 2, none⟩ = some (.int .i64 a0_2) ∧ w'.cell? ⟨gb1002, 3, none⟩ = some (.int .i64 a0_3) ∧ w'.cell? ⟨gb1002, 4, none⟩ = some (.slice (some ad1003) l0_4.length c0_4) ∧ w'.cell? (ad1003.add ((x5_1).toNat * 2)) = some (.int .i64 ((rd_Mark l0_4 x5_1).f0)) ∧ w'.cell? ⟨(ad1003.add ((x5_1).toNat * 2)).block, (ad1003.add ((x5_1).toNat * 2)).off + 1, none⟩ = some (.int .i64 ((rd_Mark l0_4 x5_1).f1)) ∧ w'.cell? (ad1003.add ((x5_1).toNat * 2)) = some (.int .i64 ((rd_Mark l0_4 x5_1).f0)) ∧ w'.cell? ⟨(ad1003.add ((x5_1).toNat * 2)).block, (ad1003.add ((x5_1).toNat * 2)).off + 1, none⟩ = some (.int .i64 ((rd_Mark l0_4 x5_1).f1))) (ds := []) spec_MakerOk.m0 (by kernel_rfl) rfl rfl ⟨bc_ BK1002 0, bc_ BK1002 1, bc_ BK1002 2, bc_ BK1002 3, bc_ BK1002 4, (hd_ HB hw1003_0), (hd_ HB hw1003_1), (hd_ HB hw1005_0), (hd_ HB hw1005_1)⟩ (fun hHeld => ?_); refine with_tabW spec_MakerOk.tab4 spec_MakerOk.bits4 (fun HT_ HW_ => ?_)
            generalize wc.drew = w19 at BK1002 HB hx1003_0 hx1003_1 hx1005_0 hx1005_1 hHeld ⊢
            refine pI_ 0 13 HT_ spec_MakerOk.m1 rfl rfl ?_
            refine pI_ 2 15 HT_ spec_MakerOk.m2 rfl rfl ?_
            refine tk_ 1 14 HT_ HW_ spec_MakerOk.m3 rfl rfl hHeld ?_
            refine pI_ 3 16 HT_ spec_MakerOk.m4 rfl rfl ?_
            refine pI_ 4 17 HT_ spec_MakerOk.m5 rfl rfl ?_
            refine tk_ 5 18 HT_ HW_ spec_MakerOk.m6 rfl rfl hHeld ?_
            refine on_ 6 19 HT_ spec_MakerOk.m7 rfl rfl (fun K hK => ?_)
            refine goes_ Try.func74 (by kernel_rfl) rfl #[.int .i64 ((rd_Mark l0_4 x5_1).f1), .int .i64 0, .int .i64 100000] (by rfl) rfl rfl sm_ ?_
            with_reducible refine (spec_l1In.calls ((rd_Mark l0_4 x5_1).f1) 0 100000 true _ A11.out).mono ?_
            rintro e w' ⟨rfl, ⟨nd, rfl⟩⟩
            refine ⟨_, rfl, ?_⟩
            refine hK.out _ _ ⟨bc_ BK1002 0, bc_ BK1002 1, bc_ BK1002 2, bc_ BK1002 3, bc_ BK1002 4, (hd_ HB hw1003_0), (hd_ HB hw1003_1), (hd_ HB hw1005_0), (hd_ HB hw1005_1)⟩ (fun hHeld => ?_)
            clear hK K
            refine nm_ ?_
            refine pI_ 7 20 HT_ spec_MakerOk.m8 rfl rfl ?_
            refine pI_ 8 21 HT_ spec_MakerOk.m9 rfl rfl ?_
            refine pI_ 9 22 HT_ spec_MakerOk.m10 rfl rfl ?_
            refine pI_ 11 24 HT_ spec_MakerOk.m11 rfl rfl ?_
            refine pI_ 15 28 HT_ spec_MakerOk.m12 rfl rfl ?_
            refine pI_ 17 30 HT_ spec_MakerOk.m13 rfl rfl ?_
            refine pI_ 21 34 HT_ spec_MakerOk.m14 rfl rfl ?_
            refine tk_ 10 23 HT_ HW_ spec_MakerOk.m15 rfl rfl hHeld ?_
            refine pI_ 12 25 HT_ spec_MakerOk.m16 rfl rfl ?_
            refine pI_ 13 26 HT_ spec_MakerOk.m17 rfl rfl ?_
            refine tk_ 14 27 HT_ HW_ spec_MakerOk.m18 rfl rfl hHeld ?_
            refine tk_ 16 29 HT_ HW_ spec_MakerOk.m19 rfl rfl hHeld ?_
            refine tk_ 18 31 HT_ HW_ spec_MakerOk.m20 rfl rfl hHeld ?_
            refine pI_ 19 32 HT_ spec_MakerOk.m21 rfl rfl ?_
            refine pI_ 20 33 HT_ spec_MakerOk.m22 rfl rfl ?_
            refine pI_ 22 35 HT_ spec_MakerOk.m23 rfl rfl ?_
            refine pI_ 23 36 HT_ spec_MakerOk.m24 rfl rfl ?_
            refine pI_ 24 37 HT_ spec_MakerOk.m25 rfl rfl ?_
            refine pI_ 25 38 HT_ spec_MakerOk.m26 rfl rfl ?_
            refine pI_ 26 39 HT_ spec_MakerOk.m27 rfl rfl ?_
            refine pI_ 27 40 HT_ spec_MakerOk.m28 rfl rfl ?_
            refine pI_ 28 41 HT_ spec_MakerOk.m29 rfl rfl ?_
            refine pI_ 29 42 HT_ spec_MakerOk.m30 rfl rfl ?_
            refine pU_ 30 43 HT_ spec_MakerOk.m31 rfl rfl ?_
            refine pU_ 31 44 HT_ spec_MakerOk.m39 rfl rfl ?_
            refine pU_ 32 45 HT_ spec_MakerOk.m40 rfl rfl ?_
            refine pU_ 33 46 HT_ spec_MakerOk.m41 rfl rfl ?_
            refine pU_ 34 47 HT_ spec_MakerOk.m42 rfl rfl ?_
            refine pU_ 35 48 HT_ spec_MakerOk.m43 rfl rfl ?_
            refine pU_ 36 49 HT_ spec_MakerOk.m44 rfl rfl ?_
            refine pU_ 37 50 HT_ spec_MakerOk.m45 rfl rfl ?_
            refine pU_ 38 51 HT_ spec_MakerOk.m46 rfl rfl ?_
            refine pU_ 39 52 HT_ spec_MakerOk.m32 rfl rfl ?_
            refine pU_ 40 53 HT_ spec_MakerOk.m33 rfl rfl ?_
            refine pU_ 41 54 HT_ spec_MakerOk.m34 rfl rfl ?_
            refine pU_ 42 55 HT_ spec_MakerOk.m35 rfl rfl ?_
            refine pU_ 43 56 HT_ spec_MakerOk.m36 rfl rfl ?_
            refine pI_ 44 57 HT_ spec_MakerOk.m37 rfl rfl ?_
            refine pI_ 45 58 HT_ spec_MakerOk.m38 rfl rfl ?_
            refine done_ (done_of HT_.out (by kernel_rfl)) ?_
            try go_wp2
            go_meet
            case rel => exact ⟨_, (false), (qe0_), H', ⟨qe2_⟩, ⟨bq_ BK1002.out⟩, ⟨hb_ HB.out⟩⟩
          ·
           rw [if_neg c13] at H
           have c13b0 : (((rd_Mark l0_4 x5_1).f0) == (wrap64 (a0_3 - (wrap64 ((wrap64 ((l0_4.length : Int) - 1)) - x5_1))))) = false := beq_eq_false_iff_ne.mpr c13
           have c13b1 : (((rd_Mark l0_4 x5_1).f0) != (wrap64 (a0_3 - (wrap64 ((wrap64 ((l0_4.length : Int) - 1)) - x5_1))))) = true := bne_iff_ne.mpr c13
           have H' := Aside0.mk H
           clear H
           try go_wp2
           replace BK1002 := Aside0.mk (blk_drew BK1002.out)
           replace HB := Aside0.mk (below_drew1 HB.out)
           have p1003 : 0 ≤ (x5_1 : Int) := of_decide_eq_true dt_
           have q1003 : x5_1 < (l0_4.length : Int) := of_decide_eq_true dt_
           obtain ⟨ad1003, e1003, hx1003_0, hx1003_1⟩ := at_Mark HR0_4.out x5_1 p1003 q1003
           have hw1003_1 := hx1003_1
           have hw1003_0 := hx1003_0
           cases e1003
           replace hx1003_0 := hc_ HB hx1003_0
           replace hx1003_1 := hc_ HB hx1003_1
           replace p1003 := eq_true p1003
           replace q1003 := eq_true q1003
           have p1005 : 0 ≤ (x5_1 : Int) := of_decide_eq_true dt_
           have q1005 : x5_1 < (l0_4.length : Int) := of_decide_eq_true dt_
           obtain ⟨ad1005, e1005, hx1005_0, hx1005_1⟩ := at_Mark HR0_4.out x5_1 p1005 q1005
           have hw1005_1 := hx1005_1
           have hw1005_0 := hx1005_0
           obtain rfl : ad1003 = ad1005 := (by injection e1005)
           replace hx1005_0 := hc_ HB hx1005_0
           replace hx1005_1 := hc_ HB hx1005_1
           replace p1005 := eq_true p1005
           replace q1005 := eq_true q1005
           refine start_ (n := 46) (S := fun w' => w'.cell? ⟨gb1002, 0, none⟩ = some (.int .i64 a0_0) ∧ w'.cell? ⟨gb1002, 1, none⟩ = some (.int .i64 a0_1) ∧ w'.cell? ⟨gb1002, 2, none⟩ = some (.int .i64 a0_2) ∧ w'.cell? ⟨gb1002, 3, none⟩ = some (.int .i64 a0_3) ∧ w'.cell? ⟨gb1002, 4, none⟩ = some (.slice (some ad1003) l0_4.length c0_4) ∧ w'.cell? (ad1003.add ((x5_1).toNat * 2)) = some (.int .i64 ((rd_Mark l0_4 x5_1).f0)) ∧ w'.cell? ⟨(ad1003.add ((x5_1).toNat * 2)).block, (ad1003.add ((x5_1).toNat * 2)).off + 1, none⟩ = some (.int .i64 ((rd_Mark l0_4 x5_1).f1)) ∧ w'.cell? (ad1003.add ((x5_1).toNat * 2)) = some (.int .i64 ((rd_Mark l0_4 x5_1).f0)) ∧ w'.cell? ⟨(ad1003.add ((x5_1).toNat * 2)).block, (ad1003.add ((x5_1).toNat * 2)).off + 1, none⟩ = some (.int .i64 ((rd_Mark l0_4 x5_1).f1))) (ds := []) spec_MakerOk.m0 (by kernel_rfl) rfl rfl ⟨bc_ BK1002 0, bc_ BK1002 1, bc_ BK1002 2, bc_ BK1002 3, bc_ BK1002 4, (hd_ HB hw1003_0), (hd_ HB hw1003_1), (hd_ HB hw1005_0), (hd_ HB hw1005_1)⟩ (fun hHeld => ?_); refine with_tabW spec_MakerOk.tab4 spec_MakerOk.bits4 (fun HT_ HW_ => ?_)
           generalize wc.drew = w20 at BK1002 HB hx1003_0 hx1003_1 hx1005_0 hx1005_1 hHeld ⊢
           refine pI_ 0 13 HT_ spec_MakerOk.m1 rfl rfl ?_
           refine pI_ 2 15 HT_ spec_MakerOk.m2 rfl rfl ?_
           refine tk_ 1 14 HT_ HW_ spec_MakerOk.m3 rfl rfl hHeld ?_
           refine pI_ 3 16 HT_ spec_MakerOk.m4 rfl rfl ?_
           refine pI_ 4 17 HT_ spec_MakerOk.m5 rfl rfl ?_
           refine tk_ 5 18 HT_ HW_ spec_MakerOk.m6 rfl rfl hHeld ?_
           refine on_ 6 19 HT_ spec_MakerOk.m7 rfl rfl (fun K hK => ?_)
           refine goes_ Try.func74 (by kernel_rfl) rfl #[.int .i64 ((rd_Mark l0_4 x5_1).f1), .int .i64 0, .int .i64 100000] (by rfl) rfl rfl sm_ ?_
           with_reducible refine (spec_l1In.calls ((rd_Mark l0_4 x5_1).f1) 0 100000 true _ A11.out).mono ?_
           rintro e w' ⟨rfl, ⟨nd, rfl⟩⟩
           refine ⟨_, rfl, ?_⟩
           refine hK.out _ _ ⟨bc_ BK1002 0, bc_ BK1002 1, bc_ BK1002 2, bc_ BK1002 3, bc_ BK1002 4, (hd_ HB hw1003_0), (hd_ HB hw1003_1), (hd_ HB hw1005_0), (hd_ HB hw1005_1)⟩ (fun hHeld => ?_)
           clear hK K
           refine nm_ ?_
           refine pI_ 7 20 HT_ spec_MakerOk.m8 rfl rfl ?_
           refine pI_ 8 21 HT_ spec_MakerOk.m9 rfl rfl ?_
           refine pI_ 9 22 HT_ spec_MakerOk.m10 rfl rfl ?_
           refine pI_ 11 24 HT_ spec_MakerOk.m11 rfl rfl ?_
           refine pI_ 15 28 HT_ spec_MakerOk.m12 rfl rfl ?_
           refine pI_ 17 30 HT_ spec_MakerOk.m13 rfl rfl ?_
           refine pI_ 21 34 HT_ spec_MakerOk.m14 rfl rfl ?_
           refine tk_ 10 23 HT_ HW_ spec_MakerOk.m15 rfl rfl hHeld ?_
           refine pI_ 12 25 HT_ spec_MakerOk.m16 rfl rfl ?_
           refine pI_ 13 26 HT_ spec_MakerOk.m17 rfl rfl ?_
           refine tk_ 14 27 HT_ HW_ spec_MakerOk.m18 rfl rfl hHeld ?_
           refine tk_ 16 29 HT_ HW_ spec_MakerOk.m19 rfl rfl hHeld ?_
           refine tk_ 18 31 HT_ HW_ spec_MakerOk.m20 rfl rfl hHeld ?_
           refine pI_ 19 32 HT_ spec_MakerOk.m21 rfl rfl ?_
           refine pI_ 20 33 HT_ spec_MakerOk.m22 rfl rfl ?_
           refine pI_ 22 35 HT_ spec_MakerOk.m23 rfl rfl ?_
           refine pI_ 23 36 HT_ spec_MakerOk.m24 rfl rfl ?_
           refine pI_ 24 37 HT_ spec_MakerOk.m25 rfl rfl ?_
           refine pI_ 25 38 HT_ spec_MakerOk.m26 rfl rfl ?_
           refine pI_ 26 39 HT_ spec_MakerOk.m27 rfl rfl ?_
           refine pU_ 27 40 HT_ spec_MakerOk.m28 rfl rfl ?_
           refine pU_ 28 41 HT_ spec_MakerOk.m29 rfl rfl ?_
           refine pU_ 29 42 HT_ spec_MakerOk.m30 rfl rfl ?_
           refine pU_ 30 43 HT_ spec_MakerOk.m31 rfl rfl ?_
           refine pU_ 31 44 HT_ spec_MakerOk.m39 rfl rfl ?_
           refine pU_ 32 45 HT_ spec_MakerOk.m40 rfl rfl ?_
           refine pU_ 33 46 HT_ spec_MakerOk.m41 rfl rfl ?_
           refine pU_ 34 47 HT_ spec_MakerOk.m42 rfl rfl ?_
           refine pU_ 35 48 HT_ spec_MakerOk.m43 rfl rfl ?_
           refine pU_ 36 49 HT_ spec_MakerOk.m44 rfl rfl ?_
           refine pU_ 37 50 HT_ spec_MakerOk.m45 rfl rfl ?_
           refine pU_ 38 51 HT_ spec_MakerOk.m46 rfl rfl ?_
           refine pU_ 39 52 HT_ spec_MakerOk.m32 rfl rfl ?_
           refine pU_ 40 53 HT_ spec_MakerOk.m33 rfl rfl ?_
           refine pU_ 41 54 HT_ spec_MakerOk.m34 rfl rfl ?_
           refine pU_ 42 55 HT_ spec_MakerOk.m35 rfl rfl ?_
           refine pU_ 43 56 HT_ spec_MakerOk.m36 rfl rfl ?_
           refine pU_ 44 57 HT_ spec_MakerOk.m37 rfl rfl ?_
           refine pI_ 45 58 HT_ spec_MakerOk.m38 rfl rfl ?_
           refine done_ (done_of HT_.out (by kernel_rfl)) ?_
           try go_wp2
           go_meet
           case rel => exact ⟨_, (true), (qe0_), H', ⟨qe2_⟩, ⟨bq_ BK1002.out⟩, ⟨hb_ HB.out⟩⟩
         ·
          replace c12 := Bool.eq_false_iff.mpr c12
          subst c12
          have H1 : (spec_MakerOk.j2 kj4 a1 x5_1 true a0_0 a0_1 a0_2 a0_3 l0_4) = some r := by rw [if_neg (show ¬ (false = true) by decide)] at H; exact H
          clear H
          have H := H1
          clear H1
          have H' := Aside0.mk H
          clear H
          try go_wp2
          replace BK1002 := Aside0.mk (blk_drew BK1002.out)
          replace HB := Aside0.mk (below_drew1 HB.out)
          have p1003 : 0 ≤ (x5_1 : Int) := of_decide_eq_true dt_
          have q1003 : x5_1 < (l0_4.length : Int) := of_decide_eq_true dt_
          obtain ⟨ad1003, e1003, hx1003_0, hx1003_1⟩ := at_Mark HR0_4.out x5_1 p1003 q1003
          have hw1003_1 := hx1003_1
          have hw1003_0 := hx1003_0
          cases e1003
          replace hx1003_0 := hc_ HB hx1003_0
          replace hx1003_1 := hc_ HB hx1003_1
          replace p1003 := eq_true p1003
          replace q1003 := eq_true q1003
          refine start_ (n := 46) (S := fun w' => w'.cell? ⟨gb1002, 0, none⟩ = some (.int .i64 a0_0) ∧ w'.cell? ⟨gb1002, 1, none⟩ = some (.int .i64 a0_1) ∧ w'.cell? ⟨gb1002, 2, none⟩ = some (.int .i64 a0_2) ∧ w'.cell? ⟨gb1002, 3, none⟩ = some (.int .i64 a0_3) ∧ w'.cell? ⟨gb1002, 4, none⟩ = some (.slice (some ad1003) l0_4.length c0_4) ∧ w'.cell? (ad1003.add ((x5_1).toNat * 2)) = some (.int .i64 ((rd_Mark l0_4 x5_1).f0)) ∧ w'.cell? ⟨(ad1003.add ((x5_1).toNat * 2)).block, (ad1003.add ((x5_1).toNat * 2)).off + 1, none⟩ = some (.int .i64 ((rd_Mark l0_4 x5_1).f1))) (ds := []) spec_MakerOk.m0 (by kernel_rfl) rfl rfl ⟨bc_ BK1002 0, bc_ BK1002 1, bc_ BK1002 2, bc_ BK1002 3, bc_ BK1002 4, (hd_ HB hw1003_0), (hd_ HB hw1003_1)⟩ (fun hHeld => ?_); refine with_tabW spec_MakerOk.tab4 spec_MakerOk.bits4 (fun HT_ HW_ => ?_)
          generalize wc.drew = w21 at BK1002 HB hx1003_0 hx1003_1 hHeld ⊢
          refine pI_ 0 13 HT_ spec_MakerOk.m1 rfl rfl ?_
          refine pI_ 2 15 HT_ spec_MakerOk.m2 rfl rfl ?_
          refine tk_ 1 14 HT_ HW_ spec_MakerOk.m3 rfl rfl hHeld ?_
          refine pI_ 3 16 HT_ spec_MakerOk.m4 rfl rfl ?_
          refine pI_ 4 17 HT_ spec_MakerOk.m5 rfl rfl ?_
          refine tk_ 5 18 HT_ HW_ spec_MakerOk.m6 rfl rfl hHeld ?_
          refine on_ 6 19 HT_ spec_MakerOk.m7 rfl rfl (fun K hK => ?_)
          refine goes_ Try.func74 (by kernel_rfl) rfl #[.int .i64 ((rd_Mark l0_4 x5_1).f1), .int .i64 0, .int .i64 100000] (by rfl) rfl rfl sm_ ?_
          with_reducible refine (spec_l1In.calls ((rd_Mark l0_4 x5_1).f1) 0 100000 false _ A11.out).mono ?_
          rintro e w' ⟨rfl, ⟨nd, rfl⟩⟩
          refine ⟨_, rfl, ?_⟩
          refine hK.out _ _ ⟨bc_ BK1002 0, bc_ BK1002 1, bc_ BK1002 2, bc_ BK1002 3, bc_ BK1002 4, (hd_ HB hw1003_0), (hd_ HB hw1003_1)⟩ (fun hHeld => ?_)
          clear hK K
          refine nm_ ?_
          refine pI_ 7 20 HT_ spec_MakerOk.m8 rfl rfl ?_
          refine pI_ 8 21 HT_ spec_MakerOk.m9 rfl rfl ?_
          refine pU_ 9 22 HT_ spec_MakerOk.m10 rfl rfl ?_
          refine pU_ 10 23 HT_ #[true, true, true, true, true, true, true, true, true, true, true, false, false, false, false, false, false, false, false, false, false, false, false, false, false, false, false, false, false, false, false, false, false, false, false, false, false, false, false, false, false, false, false, false, false, false] rfl rfl ?_
          refine pU_ 11 24 HT_ #[true, true, true, true, true, true, true, true, true, true, true, true, false, false, false, false, false, false, false, false, false, false, false, false, false, false, false, false, false, false, false, false, false, false, false, false, false, false, false, false, false, false, false, false, false, false] rfl rfl ?_
          refine pU_ 12 25 HT_ #[true, true, true, true, true, true, true, true, true, true, true, true, true, false, false, false, false, false, false, false, false, false, false, false, false, false, false, false, false, false, false, false, false, false, false, false, false, false, false, false, false, false, false, false, false, false] rfl rfl ?_
          refine pU_ 13 26 HT_ #[true, true, true, true, true, true, true, true, true, true, true, true, true, true, false, false, false, false, false, false, false, false, false, false, false, false, false, false, false, false, false, false, false, false, false, false, false, false, false, false, false, false, false, false, false, false] rfl rfl ?_
          refine pU_ 14 27 HT_ #[true, true, true, true, true, true, true, true, true, true, true, true, true, true, true, false, false, false, false, false, false, false, false, false, false, false, false, false, false, false, false, false, false, false, false, false, false, false, false, false, false, false, false, false, false, false] rfl rfl ?_
          refine pU_ 15 28 HT_ #[true, true, true, true, true, true, true, true, true, true, true, true, true, true, true, true, false, false, false, false, false, false, false, false, false, false, false, false, false, false, false, false, false, false, false, false, false, false, false, false, false, false, false, false, false, false] rfl rfl ?_
          refine pU_ 16 29 HT_ #[true, true, true, true, true, true, true, true, true, true, true, true, true, true, true, true, true, false, false, false, false, false, false, false, false, false, false, false, false, false, false, false, false, false, false, false, false, false, false, false, false, false, false, false, false, false] rfl rfl ?_
          refine pU_ 17 30 HT_ #[true, true, true, true, true, true, true, true, true, true, true, true, true, true, true, true, true, true, false, false, false, false, false, false, false, false, false, false, false, false, false, false, false, false, false, false, false, false, false, false, false, false, false, false, false, false] rfl rfl ?_
          refine pU_ 18 31 HT_ #[true, true, true, true, true, true, true, true, true, true, true, true, true, true, true, true, true, true, true, false, false, false, false, false, false, false, false, false, false, false, false, false, false, false, false, false, false, false, false, false, false, false, false, false, false, false] rfl rfl ?_
          refine pU_ 19 32 HT_ #[true, true, true, true, true, true, true, true, true, true, true, true, true, true, true, true, true, true, true, true, false, false, false, false, false, false, false, false, false, false, false, false, false, false, false, false, false, false, false, false, false, false, false, false, false, false] rfl rfl ?_
          refine pU_ 20 33 HT_ #[true, true, true, true, true, true, true, true, true, true, true, true, true, true, true, true, true, true, true, true, true, false, false, false, false, false, false, false, false, false, false, false, false, false, false, false, false, false, false, false, false, false, false, false, false, false] rfl rfl ?_
          refine pU_ 21 34 HT_ spec_MakerOk.m22 rfl rfl ?_
          refine pU_ 22 35 HT_ spec_MakerOk.m23 rfl rfl ?_
          refine pU_ 23 36 HT_ spec_MakerOk.m24 rfl rfl ?_
          refine pU_ 24 37 HT_ spec_MakerOk.m25 rfl rfl ?_
          refine pI_ 25 38 HT_ spec_MakerOk.m26 rfl rfl ?_
          refine pI_ 26 39 HT_ spec_MakerOk.m27 rfl rfl ?_
          refine pU_ 27 40 HT_ spec_MakerOk.m28 rfl rfl ?_
          refine pU_ 28 41 HT_ spec_MakerOk.m29 rfl rfl ?_
          refine pU_ 29 42 HT_ spec_MakerOk.m30 rfl rfl ?_
          refine pU_ 30 43 HT_ spec_MakerOk.m31 rfl rfl ?_
          refine pU_ 31 44 HT_ spec_MakerOk.m39 rfl rfl ?_
          refine pU_ 32 45 HT_ spec_MakerOk.m40 rfl rfl ?_
          refine pU_ 33 46 HT_ spec_MakerOk.m41 rfl rfl ?_
          refine pU_ 34 47 HT_ spec_MakerOk.m42 rfl rfl ?_
          refine pU_ 35 48 HT_ spec_MakerOk.m43 rfl rfl ?_
          refine pU_ 36 49 HT_ spec_MakerOk.m44 rfl rfl ?_
          refine pU_ 37 50 HT_ spec_MakerOk.m45 rfl rfl ?_
          refine pU_ 38 51 HT_ spec_MakerOk.m46 rfl rfl ?_
          refine pU_ 39 52 HT_ spec_MakerOk.m32 rfl rfl ?_
          refine pU_ 40 53 HT_ spec_MakerOk.m33 rfl rfl ?_
          refine pU_ 41 54 HT_ spec_MakerOk.m34 rfl rfl ?_
          refine pU_ 42 55 HT_ spec_MakerOk.m35 rfl rfl ?_
          refine pU_ 43 56 HT_ spec_MakerOk.m36 rfl rfl ?_
          refine pU_ 44 57 HT_ spec_MakerOk.m37 rfl rfl ?_
          refine pI_ 45 58 HT_ spec_MakerOk.m38 rfl rfl ?_
          refine done_ (done_of HT_.out (by kernel_rfl)) ?_
          try go_wp2
          go_meet
          case rel => exact ⟨_, (true), (qe0_), H', ⟨qe2_⟩, ⟨bq_ BK1002.out⟩, ⟨hb_ HB.out⟩⟩
        ·
         rw [if_neg c10] at H
         exact absurd H (by simp)
       ·
        rw [if_neg c9] at H
        exact absurd H (by simp)
      case rest =>
       clear HC8
       obtain ⟨kq, x58_7, rfl, HA, HJ7, BK1002, HB⟩ := hcut
       cases kq with
       | zero => exact absurd HA.out (by simp [spec_MakerOk.j2])
       | succ kj7 =>
        have H := HA.out
        clear HA
        simp only [spec_MakerOk.j2] at H
        by_cases c22 : x58_7 = true
        ·
         subst c22
         have H1 : (some false) = some r := by rw [if_pos rfl] at H; exact H
         clear H
         have H := H1
         clear H1
         obtain rfl := Option.some.inj H
         go_wp2
         go_ret
         exact ⟨er_, hb_ HB.out⟩
        ·
         replace c22 := Bool.eq_false_iff.mpr c22
         subst c22
         have H1 : (spec_MakerOk.l0 kj7 a1 (wrap64 (x5_1 + 1)) a0_0 a0_1 a0_2 a0_3 l0_4) = some r := by rw [if_neg (show ¬ (false = true) by decide)] at H; exact H
         clear H
         have H := H1
         clear H1
         have H' := Aside0.mk H
         clear H
         go_wp2
         go_roundg kj7
         case measure => have := HK1.out; have := HJ4.out; have := HJ7.out; omega
         case rel => exact ⟨(wrap64 (x5_1 + 1)), (qe0_), H', ⟨by have := HK1.out; have := HJ4.out; have := HJ7.out; omega⟩, ⟨bq_ BK1002.out⟩, ⟨hb_ HB.out⟩⟩
 case rest =>
  clear HC3
  obtain ⟨kq, HA, HJ2, BK1002, HB⟩ := hcut
  cases kq with
  | zero => exact absurd HA.out (by simp [spec_MakerOk.j3])
  | succ kj2 =>
   have H := HA.out
   clear HA
   simp only [spec_MakerOk.j3] at H
   have HC23 := Aside0.mk H
   clear H
   go_upto_region 6 with (fail)
   go_cut [83] (fun v83 wc => ∃ (kq : Nat) (x83_22 : Bool), v83 = .bool x83_22 ∧ Aside0 (spec_MakerOk.j4 kq x83_22 a0_0 a0_1 a0_2 a0_3 l0_4 = some r) ∧ Aside0 (kq ≤ kj2) ∧ Aside0 (wc.heap[gb1002]? = some (.cells #[.int .i64 a0_0, .int .i64 a0_1, .int .i64 a0_2, .int .i64 a0_3, (.slice A0_4 l0_4.length c0_4)] 38 (0, 0))) ∧ Aside0 (Below w.heap.size w wc))
   case first =>
    have H := HC23.out
    clear HC23
    by_cases c24 : (l0_4.length : Int) > a1
    ·
     rw [if_pos c24] at H
     have c24b0 : decide (a1 < (l0_4.length : Int)) = true := decide_eq_true c24
     clear c24
     (first | rw [c24b0] | (simp only [i64_w, i32_w]; rw [c24b0]) | rw [c24b4] | rw [c24b3] | skip)
     have H' := Aside0.mk H
     clear H
     have hcz25_0 : wc.cell? ⟨gb1002, 0, none⟩ = some (.int .i64 a0_0) := bc_ BK1002 0
     have hcz25_1 : wc.cell? ⟨gb1002, 1, none⟩ = some (.int .i64 a0_1) := bc_ BK1002 1
     have hcz25_2 : wc.cell? ⟨gb1002, 2, none⟩ = some (.int .i64 a0_2) := bc_ BK1002 2
     have hcz25_3 : wc.cell? ⟨gb1002, 3, none⟩ = some (.int .i64 a0_3) := bc_ BK1002 3
     have hcz25_4 : wc.cell? ⟨gb1002, 4, none⟩ = some (.slice A0_4 l0_4.length c0_4) := bc_ BK1002 4
     have hfz25_0 := blk_frozen BK1002.out 0
     have hfz25_1 := blk_frozen BK1002.out 1
     have hfz25_2 := blk_frozen BK1002.out 2
     have hfz25_3 := blk_frozen BK1002.out 3
     have hfz25_4 := blk_frozen BK1002.out 4
     go_wp2
     go_meet
     case rel => exact ⟨_, (true), (qe0_), H', ⟨qe3_⟩, ⟨bq_ BK1002.out⟩, ⟨hb_ HB.out⟩⟩
    ·
     rw [if_neg c24] at H
     have c24b0 : decide (a1 < (l0_4.length : Int)) = false := decide_eq_false c24
     clear c24
     (first | rw [c24b0] | (simp only [i64_w, i32_w]; rw [c24b0]) | rw [c24b4] | rw [c24b3] | skip)
     by_cases c26 : (l0_4.length : Int) > (wrap64 (a0_3 + 1))
     ·
      rw [if_pos c26] at H
      have c26b0 : decide ((wrap64 (a0_3 + 1)) < (l0_4.length : Int)) = true := decide_eq_true c26
      clear c26
      have H' := Aside0.mk H
      clear H
      have hcz27_0 : wc.cell? ⟨gb1002, 0, none⟩ = some (.int .i64 a0_0) := bc_ BK1002 0
      have hcz27_1 : wc.cell? ⟨gb1002, 1, none⟩ = some (.int .i64 a0_1) := bc_ BK1002 1
      have hcz27_2 : wc.cell? ⟨gb1002, 2, none⟩ = some (.int .i64 a0_2) := bc_ BK1002 2
      have hcz27_3 : wc.cell? ⟨gb1002, 3, none⟩ = some (.int .i64 a0_3) := bc_ BK1002 3
      have hcz27_4 : wc.cell? ⟨gb1002, 4, none⟩ = some (.slice A0_4 l0_4.length c0_4) := bc_ BK1002 4
      have hfz27_0 := blk_frozen BK1002.out 0
      have hfz27_1 := blk_frozen BK1002.out 1
      have hfz27_2 := blk_frozen BK1002.out 2
      have hfz27_3 := blk_frozen BK1002.out 3
      have hfz27_4 := blk_frozen BK1002.out 4
      go_wp2
      go_meet
      case rel => exact ⟨_, (true), (qe0_), H', ⟨qe3_⟩, ⟨bq_ BK1002.out⟩, ⟨hb_ HB.out⟩⟩
     ·
      rw [if_neg c26] at H
      have c26b0 : decide ((wrap64 (a0_3 + 1)) < (l0_4.length : Int)) = false := decide_eq_false c26
      clear c26
      by_cases c28 : a0_3 ≥ 0
      ·
       rw [if_pos c28] at H
       have c28b0 : decide (0 ≤ a0_3) = true := decide_eq_true c28
       clear c28
       have H' := Aside0.mk H
       clear H
       have hcz29_0 : wc.cell? ⟨gb1002, 0, none⟩ = some (.int .i64 a0_0) := bc_ BK1002 0
       have hcz29_1 : wc.cell? ⟨gb1002, 1, none⟩ = some (.int .i64 a0_1) := bc_ BK1002 1
       have hcz29_2 : wc.cell? ⟨gb1002, 2, none⟩ = some (.int .i64 a0_2) := bc_ BK1002 2
       have hcz29_3 : wc.cell? ⟨gb1002, 3, none⟩ = some (.int .i64 a0_3) := bc_ BK1002 3
       have hcz29_4 : wc.cell? ⟨gb1002, 4, none⟩ = some (.slice A0_4 l0_4.length c0_4) := bc_ BK1002 4
       have hfz29_0 := blk_frozen BK1002.out 0
       have hfz29_1 := blk_frozen BK1002.out 1
       have hfz29_2 := blk_frozen BK1002.out 2
       have hfz29_3 := blk_frozen BK1002.out 3
       have hfz29_4 := blk_frozen BK1002.out 4
       go_wp2
       go_meet
       case rel => exact ⟨_, (((l0_4.length : Int) == 0)), (qe0_), H', ⟨qe3_⟩, ⟨bq_ BK1002.out⟩, ⟨hb_ HB.out⟩⟩
      ·
       rw [if_neg c28] at H
       have c28b0 : decide (0 ≤ a0_3) = false := decide_eq_false c28
       clear c28
       have H' := Aside0.mk H
       clear H
       have hcz30_0 : wc.cell? ⟨gb1002, 0, none⟩ = some (.int .i64 a0_0) := bc_ BK1002 0
       have hcz30_1 : wc.cell? ⟨gb1002, 1, none⟩ = some (.int .i64 a0_1) := bc_ BK1002 1
       have hcz30_2 : wc.cell? ⟨gb1002, 2, none⟩ = some (.int .i64 a0_2) := bc_ BK1002 2
       have hcz30_3 : wc.cell? ⟨gb1002, 3, none⟩ = some (.int .i64 a0_3) := bc_ BK1002 3
       have hcz30_4 : wc.cell? ⟨gb1002, 4, none⟩ = some (.slice A0_4 l0_4.length c0_4) := bc_ BK1002 4
       have hfz30_0 := blk_frozen BK1002.out 0
       have hfz30_1 := blk_frozen BK1002.out 1
       have hfz30_2 := blk_frozen BK1002.out 2
       have hfz30_3 := blk_frozen BK1002.out 3
       have hfz30_4 := blk_frozen BK1002.out 4
       go_wp2
       go_meet
       case rel => exact ⟨_, (false), (qe0_), H', ⟨qe3_⟩, ⟨bq_ BK1002.out⟩, ⟨hb_ HB.out⟩⟩
   case rest =>
    clear HC23
    obtain ⟨kq, x83_22, rfl, HA, HJ22, BK1002, HB⟩ := hcut
    cases kq with
    | zero => exact absurd HA.out (by simp [spec_MakerOk.j4])
    | succ kj22 =>
     have H := HA.out
     clear HA
     simp only [spec_MakerOk.j4] at H
     have HC31 := Aside0.mk H
     clear H
     go_upto_if 83 with (fail)
     go_cut [] (fun wc => ∃ (kq : Nat), Aside0 (spec_MakerOk.j5 kq a0_0 a0_1 a0_2 a0_3 l0_4 = some r) ∧ Aside0 (kq ≤ kj22) ∧ Aside0 (wc.heap[gb1002]? = some (.cells #[.int .i64 a0_0, .int .i64 a0_1, .int .i64 a0_2, .int .i64 a0_3, (.slice A0_4 l0_4.length c0_4)] 38 (0, 0))) ∧ Aside0 (Below w.heap.size w wc))
     case first =>
      have H := HC31.out
      clear HC31
      by_cases c32 : x83_22 = true
      ·
       subst c32
       have H1 : (some false) = some r := by rw [if_pos rfl] at H; exact H
       clear H
       have H := H1
       clear H1
       obtain rfl := Option.some.inj H
       go_wp2
       go_ret
       exact ⟨er_, hb_ HB.out⟩
      ·
       replace c32 := Bool.eq_false_iff.mpr c32
       subst c32
       have H1 : (spec_MakerOk.j5 kj22 a0_0 a0_1 a0_2 a0_3 l0_4) = some r := by rw [if_neg (show ¬ (false = true) by decide)] at H; exact H
       clear H
       have H := H1
       clear H1
       have H' := Aside0.mk H
       clear H
       go_wp2
       go_meet
       case rel => exact ⟨_, H', ⟨by have := HJ2.out; have := HJ22.out; first | omega | exact Nat.le_refl _⟩, ⟨bq_ BK1002.out⟩, ⟨hb_ HB.out⟩⟩
     case rest =>
      clear HC31
      obtain ⟨kq, HA, HJ30, BK1002, HB⟩ := hcut
      cases kq with
      | zero => exact absurd HA.out (by simp [spec_MakerOk.j5])
      | succ kj30 =>
       have H := HA.out
       clear HA
       simp only [spec_MakerOk.j5] at H
       replace H := Option.bind_eq_some_iff.mp H
       obtain ⟨t1008, A330, H⟩ := H
       replace H : (if t1008 = true then ((spec_l1In.f a0_1 0 3).bind fun t1009 => (if t1009 = true then ((spec_l1In.f a0_2 0 100000).bind fun t1010 => (if t1010 = true then ((spec_l1In.f a0_3 (-1) 100000).bind fun t1011 => (some t1011)) else (some false))) else (some false))) else (some false)) = some r := H
       have A33 := Aside0.mk A330
       clear A330
       by_cases c34 : t1008 = true
       ·
        subst c34
        have H1 : ((spec_l1In.f a0_1 0 3).bind fun t1009 => (if t1009 = true then ((spec_l1In.f a0_2 0 100000).bind fun t1010 => (if t1010 = true then ((spec_l1In.f a0_3 (-1) 100000).bind fun t1011 => (some t1011)) else (some false))) else (some false))) = some r := by rw [if_pos rfl] at H; exact H
        clear H
        have H := H1
        clear H1
        replace H := Option.bind_eq_some_iff.mp H
        obtain ⟨t1009, A350, H⟩ := H
        replace H : (if t1009 = true then ((spec_l1In.f a0_2 0 100000).bind fun t1010 => (if t1010 = true then ((spec_l1In.f a0_3 (-1) 100000).bind fun t1011 => (some t1011)) else (some false))) else (some false)) = some r := H
        have A35 := Aside0.mk A350
        clear A350
        by_cases c36 : t1009 = true
        ·
         subst c36
         have H1 : ((spec_l1In.f a0_2 0 100000).bind fun t1010 => (if t1010 = true then ((spec_l1In.f a0_3 (-1) 100000).bind fun t1011 => (some t1011)) else (some false))) = some r := by rw [if_pos rfl] at H; exact H
         clear H
         have H := H1
         clear H1
         replace H := Option.bind_eq_some_iff.mp H
         obtain ⟨t1010, A370, H⟩ := H
         replace H : (if t1010 = true then ((spec_l1In.f a0_3 (-1) 100000).bind fun t1011 => (some t1011)) else (some false)) = some r := H
         have A37 := Aside0.mk A370
         clear A370
         by_cases c38 : t1010 = true
         ·
          subst c38
          have H1 : ((spec_l1In.f a0_3 (-1) 100000).bind fun t1011 => (some t1011)) = some r := by rw [if_pos rfl] at H; exact H
          clear H
          have H := H1
          clear H1
          replace H := Option.bind_eq_some_iff.mp H
          obtain ⟨t1011, A390, H⟩ := H
          replace H : (some t1011) = some r := H
          have A39 := Aside0.mk A390
          clear A390
          obtain rfl := Option.some.inj H
          have hcz40_0 : wc.cell? ⟨gb1002, 0, none⟩ = some (.int .i64 a0_0) := bc_ BK1002 0
          have hcz40_1 : wc.cell? ⟨gb1002, 1, none⟩ = some (.int .i64 a0_1) := bc_ BK1002 1
          have hcz40_2 : wc.cell? ⟨gb1002, 2, none⟩ = some (.int .i64 a0_2) := bc_ BK1002 2
          have hcz40_3 : wc.cell? ⟨gb1002, 3, none⟩ = some (.int .i64 a0_3) := bc_ BK1002 3
          have hcz40_4 : wc.cell? ⟨gb1002, 4, none⟩ = some (.slice A0_4 l0_4.length c0_4) := bc_ BK1002 4
          have hfz40_0 := blk_frozen BK1002.out 0
          have hfz40_1 := blk_frozen BK1002.out 1
          have hfz40_2 := blk_frozen BK1002.out 2
          have hfz40_3 := blk_frozen BK1002.out 3
          have hfz40_4 := blk_frozen BK1002.out 4
          go_wp2_with (first | ((with_reducible refine gate_callee (f := 74) rfl ?_); refine goesL_ (some 86) rfl rfl Try.func74 (by kernel_rfl) rfl #[.int .i64 a0_0, .int .i64 0, .int .i64 3] rfl sm_ ?_; (with_reducible refine (spec_l1In.calls a0_0 0 3 true _ A33.out).mono ?_); rintro e w' ⟨rfl, ⟨nd, rfl⟩⟩; refine ⟨_, rfl, ?_⟩) | (go_at_call 74; (with_reducible refine (spec_l1In.calls a0_1 0 3 true _ A35.out).mono ?_); rintro e w' ⟨rfl, ⟨nd, rfl⟩⟩) | (go_at_call 74; (with_reducible refine (spec_l1In.calls a0_2 0 100000 true _ A37.out).mono ?_); rintro e w' ⟨rfl, ⟨nd, rfl⟩⟩) | (go_at_call 74; (with_reducible refine (spec_l1In.calls a0_3 (-1) 100000 t1011 _ A39.out).mono ?_); rintro e w' ⟨rfl, ⟨nd, rfl⟩⟩))
          go_ret
          exact ⟨er_, hb_ HB.out⟩
         ·
          replace c38 := Bool.eq_false_iff.mpr c38
          subst c38
          have H1 : (some false) = some r := by rw [if_neg (show ¬ (false = true) by decide)] at H; exact H
          clear H
          have H := H1
          clear H1
          obtain rfl := Option.some.inj H
          have hcz41_0 : wc.cell? ⟨gb1002, 0, none⟩ = some (.int .i64 a0_0) := bc_ BK1002 0
          have hcz41_1 : wc.cell? ⟨gb1002, 1, none⟩ = some (.int .i64 a0_1) := bc_ BK1002 1
          have hcz41_2 : wc.cell? ⟨gb1002, 2, none⟩ = some (.int .i64 a0_2) := bc_ BK1002 2
          have hcz41_3 : wc.cell? ⟨gb1002, 3, none⟩ = some (.int .i64 a0_3) := bc_ BK1002 3
          have hcz41_4 : wc.cell? ⟨gb1002, 4, none⟩ = some (.slice A0_4 l0_4.length c0_4) := bc_ BK1002 4
          have hfz41_0 := blk_frozen BK1002.out 0
          have hfz41_1 := blk_frozen BK1002.out 1
          have hfz41_2 := blk_frozen BK1002.out 2
          have hfz41_3 := blk_frozen BK1002.out 3
          have hfz41_4 := blk_frozen BK1002.out 4
          go_wp2_with (first | ((with_reducible refine gate_callee (f := 74) rfl ?_); refine goesL_ (some 86) rfl rfl Try.func74 (by kernel_rfl) rfl #[.int .i64 a0_0, .int .i64 0, .int .i64 3] rfl sm_ ?_; (with_reducible refine (spec_l1In.calls a0_0 0 3 true _ A33.out).mono ?_); rintro e w' ⟨rfl, ⟨nd, rfl⟩⟩; refine ⟨_, rfl, ?_⟩) | (go_at_call 74; (with_reducible refine (spec_l1In.calls a0_1 0 3 true _ A35.out).mono ?_); rintro e w' ⟨rfl, ⟨nd, rfl⟩⟩) | (go_at_call 74; (with_reducible refine (spec_l1In.calls a0_2 0 100000 false _ A37.out).mono ?_); rintro e w' ⟨rfl, ⟨nd, rfl⟩⟩))
          go_ret
          exact ⟨er_, hb_ HB.out⟩
        ·
         replace c36 := Bool.eq_false_iff.mpr c36
         subst c36
         have H1 : (some false) = some r := by rw [if_neg (show ¬ (false = true) by decide)] at H; exact H
         clear H
         have H := H1
         clear H1
         obtain rfl := Option.some.inj H
         have hcz42_0 : wc.cell? ⟨gb1002, 0, none⟩ = some (.int .i64 a0_0) := bc_ BK1002 0
         have hcz42_1 : wc.cell? ⟨gb1002, 1, none⟩ = some (.int .i64 a0_1) := bc_ BK1002 1
         have hcz42_2 : wc.cell? ⟨gb1002, 2, none⟩ = some (.int .i64 a0_2) := bc_ BK1002 2
         have hcz42_3 : wc.cell? ⟨gb1002, 3, none⟩ = some (.int .i64 a0_3) := bc_ BK1002 3
         have hcz42_4 : wc.cell? ⟨gb1002, 4, none⟩ = some (.slice A0_4 l0_4.length c0_4) := bc_ BK1002 4
         have hfz42_0 := blk_frozen BK1002.out 0
         have hfz42_1 := blk_frozen BK1002.out 1
         have hfz42_2 := blk_frozen BK1002.out 2
         have hfz42_3 := blk_frozen BK1002.out 3
         have hfz42_4 := blk_frozen BK1002.out 4
         go_wp2_with (first | ((with_reducible refine gate_callee (f := 74) rfl ?_); refine goesL_ (some 86) rfl rfl Try.func74 (by kernel_rfl) rfl #[.int .i64 a0_0, .int .i64 0, .int .i64 3] rfl sm_ ?_; (with_reducible refine (spec_l1In.calls a0_0 0 3 true _ A33.out).mono ?_); rintro e w' ⟨rfl, ⟨nd, rfl⟩⟩; refine ⟨_, rfl, ?_⟩) | (go_at_call 74; (with_reducible refine (spec_l1In.calls a0_1 0 3 false _ A35.out).mono ?_); rintro e w' ⟨rfl, ⟨nd, rfl⟩⟩))
         go_ret
         exact ⟨er_, hb_ HB.out⟩
       ·
        replace c34 := Bool.eq_false_iff.mpr c34
        subst c34
        have H1 : (some false) = some r := by rw [if_neg (show ¬ (false = true) by decide)] at H; exact H
        clear H
        have H := H1
        clear H1
        obtain rfl := Option.some.inj H
        have hcz43_0 : wc.cell? ⟨gb1002, 0, none⟩ = some (.int .i64 a0_0) := bc_ BK1002 0
        have hcz43_1 : wc.cell? ⟨gb1002, 1, none⟩ = some (.int .i64 a0_1) := bc_ BK1002 1
        have hcz43_2 : wc.cell? ⟨gb1002, 2, none⟩ = some (.int .i64 a0_2) := bc_ BK1002 2
        have hcz43_3 : wc.cell? ⟨gb1002, 3, none⟩ = some (.int .i64 a0_3) := bc_ BK1002 3
        have hcz43_4 : wc.cell? ⟨gb1002, 4, none⟩ = some (.slice A0_4 l0_4.length c0_4) := bc_ BK1002 4
        have hfz43_0 := blk_frozen BK1002.out 0
        have hfz43_1 := blk_frozen BK1002.out 1
        have hfz43_2 := blk_frozen BK1002.out 2
        have hfz43_3 := blk_frozen BK1002.out 3
        have hfz43_4 := blk_frozen BK1002.out 4
        go_wp2_with (first | ((with_reducible refine gate_callee (f := 74) rfl ?_); refine goesL_ (some 86) rfl rfl Try.func74 (by kernel_rfl) rfl #[.int .i64 a0_0, .int .i64 0, .int .i64 3] rfl sm_ ?_; (with_reducible refine (spec_l1In.calls a0_0 0 3 false _ A33.out).mono ?_); rintro e w' ⟨rfl, ⟨nd, rfl⟩⟩; refine ⟨_, rfl, ?_⟩))
        go_ret
        exact ⟨er_, hb_ HB.out⟩
/-! ### slices_DeleteFunc_RowTrim: function 54 -/
-- IMPORT Derived.Shelf.Abstract
-- IMPORT Derived.Lib.SliceRun
def hitT (n bk : Int) (x : S_Item) : Bool := wrap64 (Int.tdiv x.f0 n) == bk
/-- the place of the first item of a block, from i on; or -1 -/
def hitAt (n bk : Int) (l : List S_Item) : Nat → Nat → Int
  | 0, _ => -1
  | d + 1, i => if hitT n bk (rd_Item l (i : Int)) = true then (i : Int) else hitAt n bk l d (i + 1)
set_option maxHeartbeats 8000000 in
theorem trimHit (gl gb : Nat) (n bk : Int) (hn : 1 ≤ n) (y0 : Int) (y1 y2 : ByteArray) (y3 y4 : Int) (W : World) (h1 : W.heap[gl]? = some (.cells #[.int .i64 n] 3 (0, 0))) (h2 : W.heap[gb]? = some (.cells #[.int .i64 bk] 3 (0, 0))) :
    Calls Try.prog 55 #[.agg #[.int .i64 y0, .string y1, .string y2, .int .i64 y3, .int .i64 y4], .pointer (some ⟨gl, 0, none⟩), .pointer (some ⟨gb, 0, none⟩)] W fun e w' => e = .returned (.bool (wrap64 (Int.tdiv y0 n) == bk)) ∧ Below W.heap.size W w' := by
  have hu := Try.underlying33
  have c1 : W.cell? ⟨gl, 0, none⟩ = some (.int .i64 n) := (blk_cell h1 0).trans rfl
  have c2 : W.cell? ⟨gb, 0, none⟩ = some (.int .i64 bk) := (blk_cell h2 0).trans rfl
  have l1 : gl < W.heap.size := blk_lt h1
  have l2 : gb < W.heap.size := blk_lt h2
  have e1 : gl ≠ W.heap.size := by omega
  have e2 : gb ≠ W.heap.size := by omega
  have hz : ¬ n = 0 := by omega
  have hz2 : (n == 0) = false := by simp [hz]
  clear h1 h2
  go_enter Try.func55, Try.ntmps55
  go_wp2
  go_quiet (fail)
  go_wp2
  go_ret
  exact ⟨qe0_, by repeat (first | exact Below.refl _ _ | apply below_alloc | apply pw_below_drewN | apply below_drew1)⟩
set_option maxHeartbeats 8000000 in
set_option maxRecDepth 100000 in
theorem trimIdx (gl gb : Nat) (n bk : Int) (hn1 : 1 ≤ n) (A : Option Addr) (c : Nat) (l : List S_Item) (w : World) (h1 : w.heap[gl]? = some (.cells #[.int .i64 n] 3 (0, 0))) (h2 : w.heap[gb]? = some (.cells #[.int .i64 bk] 3 (0, 0))) (hr : Kd.C k_Item w A l.length l) :
    Calls Try.prog 99 #[.slice A l.length c, .func (.func 55) #[] #[.pointer (some ⟨gl, 0, none⟩), .pointer (some ⟨gb, 0, none⟩)]] w fun e w' => e = .returned (.int .i64 (hitAt n bk l l.length 0)) ∧ Below w.heap.size w w' := by
  have eC : ∀ args w, (callFunc 55 args).run Try.prog w = .ok (.enter 55 args) w := enters_of Try.func55 (by kernel_rfl) rfl
  have hu := Try.underlying33
  have HN := Aside0.mk (Kd.C_max hr)
  have HX := Aside0.mk h1
  have HY := Aside0.mk h2
  have HR := Aside0.mk hr
  have HL := Aside0.mk hn1
  clear h1 h2 hr hn1
  go_enter Try.func99, Try.ntmps99
  go_wp2
  go_loopg [5, 8] l.length (fun gg _ s8 wr => ∃ kk : Nat, kk ≤ l.length ∧ l.length - kk ≤ gg ∧ s8 = .int .i64 kk ∧ Aside0 (Below w.heap.size w wr) ∧ Aside0 (hitAt n bk l l.length 0 = hitAt n bk l (l.length - kk) kk))
  case atStart => exact ⟨0, Nat.zero_le _, by omega, rfl, ⟨Below.refl _ w⟩, ⟨rfl⟩⟩
  case round =>
    obtain ⟨kk, hkk, hg, rfl, BW, AX⟩ := hrel
    have hn := HN.out
    by_cases hlt : kk < l.length
    · have hltz : (kk : Int) < (l.length : Int) := by omega
      obtain ⟨ad, rfl, h0, h1, h2, h3, h4⟩ := at_Item HR.out (kk : Int) (by omega) hltz
      replace h0 := pw_cell_below BW.out h0
      replace h1 := pw_cell_below BW.out h1
      replace h2 := pw_cell_below BW.out h2
      replace h3 := pw_cell_below BW.out h3
      replace h4 := pw_cell_below BW.out h4
      simp only [Int.toNat_natCast] at h0 h1 h2 h3 h4
      have hcall := trimHit gl gb n bk HL.out (rd_Item l (kk : Int)).f0 (rd_Item l (kk : Int)).f1 (rd_Item l (kk : Int)).f2 (rd_Item l (kk : Int)).f3 (rd_Item l (kk : Int)).f4 wr (blk_below HX.out BW.out) (blk_below HY.out BW.out)
      cases hq : (wrap64 (Int.tdiv (rd_Item l (kk : Int)).f0 n) == bk) with
      | true =>
        rw [hq] at hcall
        have E : Aside0 (hitAt n bk l l.length 0 = (kk : Int)) := ⟨by
          rw [AX.out, show l.length - kk = (l.length - kk - 1) + 1 by omega]
          unfold hitAt
          exact if_pos hq⟩
        clear AX hq HX HY
        go_wp2_with (go_at_fn 55; refine hcall.mono ?_; rintro e w' ⟨rfl, hb'⟩)
        go_ret
        exact ⟨by rw [E.out]; rfl, below_step BW.out hb'⟩
      | false =>
        rw [hq] at hcall
        have e : hitAt n bk l (l.length - kk) kk = hitAt n bk l (l.length - (kk + 1)) (kk + 1) := by
          rw [show l.length - kk = (l.length - (kk + 1)) + 1 by omega]
          show (if _ then _ else _) = _
          rw [if_neg (by unfold hitT; rw [hq]; simp)]
        have E := Aside0.mk (AX.out.trans e)
        clear e AX hq
        go_wp2_with (go_at_fn 55; refine hcall.mono ?_; rintro e w' ⟨rfl, hb'⟩)
        go_roundg (l.length - (kk + 1))
        case measure => omega
        case rel => exact ⟨kk + 1, by omega, by omega, by go_num, ⟨below_step BW.out hb'⟩, E⟩
    · have hltz : ¬ (kk : Int) < (l.length : Int) := by omega
      have E : Aside0 (hitAt n bk l l.length 0 = -1) := ⟨by
        rw [AX.out, show l.length - kk = 0 by omega]
        rfl⟩
      clear AX
      go_wp2
      go_ret
      exact ⟨by rw [E.out]; rfl, BW.out⟩
theorem hitAt_from (n bk : Int) (l : List S_Item) : ∀ (d i : Nat), i + d = l.length → (hitAt n bk l d i = -1 ∧ ∀ x ∈ l.drop i, hitT n bk x = false) ∨ ∃ k, i ≤ k ∧ k < l.length ∧ hitAt n bk l d i = (k : Int) ∧ hitT n bk (rd_Item l (k : Int)) = true ∧ ∀ x ∈ (l.take k).drop i, hitT n bk x = false := by
  intro d
  induction d with
  | zero => intro i h; exact .inl ⟨rfl, fun x hx => by rw [List.drop_eq_nil_of_le (by omega)] at hx; cases hx⟩
  | succ d ih =>
    intro i h
    have hd : l.drop i = rd_Item l (i : Int) :: l.drop (i + 1) := by
      rw [List.drop_eq_getElem_cons (by omega : i < l.length)]
      simp [rd_Item, List.getD_eq_getElem?_getD, List.getElem?_eq_getElem (by omega : i < l.length)]
    unfold hitAt
    cases q : hitT n bk (rd_Item l (i : Int)) with
    | true => exact .inr ⟨i, Nat.le_refl _, by omega, if_pos rfl, q, fun x hx => by rw [List.drop_eq_nil_of_le (by rw [List.length_take]; omega)] at hx; cases hx⟩
    | false =>
      rw [if_neg (by simp)]
      rcases ih (i + 1) (by omega) with ⟨e, ha⟩ | ⟨k, h1, h2, e, ht, ha⟩
      · refine .inl ⟨e, fun x hx => ?_⟩
        rw [hd] at hx
        rcases List.mem_cons.1 hx with rfl | hx
        · exact q
        · exact ha x hx
      · refine .inr ⟨k, by omega, h2, e, ht, fun x hx => ?_⟩
        rw [List.drop_take, hd, show k - i = (k - (i + 1)) + 1 by omega, List.take_succ_cons] at hx
        rcases List.mem_cons.1 hx with rfl | hx
        · exact q
        · exact ha x (by rw [List.drop_take]; exact hx)
/-- what trimming one block leaves -/
def kept (n bk : Int) (l : List S_Item) : List S_Item := l.filter fun x => !hitT n bk x
theorem kept_all {n bk : Int} {l : List S_Item} (h : ∀ x ∈ l, hitT n bk x = false) : kept n bk l = l := List.filter_eq_self.2 fun x hx => by rw [h x hx]; rfl
/-- the walk's relation: j items are looked at, i of them kept -/
structure KeepI (n bk : Int) (l : List S_Item) (i j : Nat) (dk : List S_Item) : Prop where
  len : dk.length = l.length
  lt : i < j
  low : dk.take i = kept n bk (l.take j)
  high : dk.drop j = l.drop j
theorem KeepI.start {n bk : Int} {l : List S_Item} {k : Nat} (hk : k < l.length) (ht : hitT n bk (rd_Item l (k : Int)) = true) (ha : ∀ x ∈ l.take k, hitT n bk x = false) : KeepI n bk l k (k + 1) l where
  len := rfl
  lt := Nat.lt_succ_self _
  low := by
    rw [List.take_succ_eq_append_getElem hk]
    unfold kept
    rw [List.filter_append, show (l.take k).filter (fun x => !hitT n bk x) = l.take k from kept_all ha]
    have e : rd_Item l (k : Int) = l[k] := by simp [rd_Item, List.getD_eq_getElem?_getD, List.getElem?_eq_getElem hk]
    rw [e] at ht
    simp [ht]
  high := rfl
theorem KeepI.at_ {n bk : Int} {l dk : List S_Item} {i j : Nat} (h : KeepI n bk l i j dk) : rd_Item dk (j : Int) = rd_Item l (j : Int) := by
  have e : ∀ (m : List S_Item), rd_Item m (j : Int) = ((m.drop j)[0]?).getD z_Item := fun m => by simp [rd_Item, List.getD_eq_getElem?_getD]
  rw [e, e, h.high]
theorem KeepI.keep {n bk : Int} {l dk : List S_Item} {i j : Nat} (h : KeepI n bk l i j dk) (hj : j < l.length) (hk : hitT n bk (rd_Item l (j : Int)) = false) : KeepI n bk l (i + 1) (j + 1) (dk.set i (rd_Item l (j : Int))) where
  len := by rw [List.length_set]; exact h.len
  lt := by have := h.lt; omega
  low := by
    have hl := h.len
    have ht := h.lt
    have e : rd_Item l (j : Int) = l[j] := by simp [rd_Item, List.getD_eq_getElem?_getD, List.getElem?_eq_getElem hj]
    rw [List.take_succ_eq_append_getElem hj, List.take_succ_eq_append_getElem (by rw [List.length_set]; omega), List.take_set_of_le (Nat.le_refl _), List.getElem_set_self, h.low]
    unfold kept
    rw [List.filter_append]
    rw [e] at hk ⊢
    simp [hk]
  high := by
    rw [List.drop_set_of_lt (by have := h.lt; omega)]
    have := congrArg (List.drop 1) h.high
    rwa [List.drop_drop, List.drop_drop] at this
theorem KeepI.skip {n bk : Int} {l dk : List S_Item} {i j : Nat} (h : KeepI n bk l i j dk) (hj : j < l.length) (hk : hitT n bk (rd_Item l (j : Int)) = true) : KeepI n bk l i (j + 1) dk where
  len := h.len
  lt := by have := h.lt; omega
  low := by
    have e : rd_Item l (j : Int) = l[j] := by simp [rd_Item, List.getD_eq_getElem?_getD, List.getElem?_eq_getElem hj]
    rw [h.low, List.take_succ_eq_append_getElem hj]
    unfold kept
    rw [List.filter_append]
    rw [e] at hk
    simp [hk]
  high := by
    have := congrArg (List.drop 1) h.high
    rwa [List.drop_drop, List.drop_drop] at this
theorem setCells_app (b : Nat) : ∀ (L M : List Value) (o : Nat) (w : World), w.setCells b o (L ++ M) = (w.setCells b o L).setCells b (o + L.length) M
  | [], M, o, w => by simp [World.setCells]
  | v :: L, M, o, w => by
    rw [List.cons_append, World.setCells, World.setCells, setCells_app b L M (o + 1), List.length_cons, show o + 1 + L.length = o + (L.length + 1) by omega]
/-- items from i on are made zero: the row is still one, its head as it was -/
theorem zero_tail {e base g cap : Nat} {ok : Nat → Prop} : ∀ (m i : Nat) (w : World) (dk : List S_Item), i + m = dk.length → Kd.R k_Item e w base ok (.slice (some ⟨g, 0, none⟩) dk.length cap) dk →
    ∃ dk', dk'.length = dk.length ∧ dk'.take i = dk.take i ∧ Kd.R k_Item e (w.setCells g (i * 5) (List.replicate m [Value.int .i64 0, .string ⟨#[]⟩, .string ⟨#[]⟩, .int .i64 0, .int .i64 0]).flatten) base ok (.slice (some ⟨g, 0, none⟩) dk.length cap) dk' ∧ w.grownBy (w.setCells g (i * 5) (List.replicate m [Value.int .i64 0, .string ⟨#[]⟩, .string ⟨#[]⟩, .int .i64 0, .int .i64 0]).flatten) (some g) := by
  intro m
  induction m with
  | zero => intro i w dk h hr; exact ⟨dk, rfl, rfl, hr, World.grownBy.refl _ _⟩
  | succ m ih =>
    intro i w dk h hr
    obtain ⟨c, hcl, hM, hcc, hfr⟩ := Kd.R_elem hr z_Item (i : Int) (by omega) (by omega)
    obtain rfl := k_Item_openM hM
    have HP := Kd.R_seg hr (i : Int) (by omega) (by omega) (seg := [.int .i64 0, .string ⟨#[]⟩, .string ⟨#[]⟩, .int .i64 0, .int .i64 0]) (j := 0) hcl hcc (show 5 ≤ 5 from by decide) (x' := z_Item) (k_Item_mkM _ _ _ z_Item) (fun _ hk => hk)
    rw [Int.toNat_natCast, Nat.add_zero, show (k_Item).sz = 5 from rfl] at HP
    have hl : (dk.set i z_Item).length = dk.length := List.length_set
    have H1 := HP.1
    rw [← hl] at H1
    obtain ⟨dk', e1, e2, e3, e4⟩ := ih (i + 1) _ (dk.set i z_Item) (by omega) H1
    rw [hl] at e1 e3
    refine ⟨dk', e1, ?_, ?_, ?_⟩
    · have := congrArg (List.take i) e2
      rwa [List.take_take, List.take_take, Nat.min_eq_left (by omega), List.take_set_of_le (Nat.le_refl _)] at this
    · rw [List.replicate_succ, List.flatten_cons, setCells_app]
      rw [show (i + 1) * 5 = i * 5 + [Value.int .i64 0, .string ⟨#[]⟩, .string ⟨#[]⟩, .int .i64 0, .int .i64 0].length by simp; omega] at e3
      exact e3
    · rw [List.replicate_succ, List.flatten_cons, setCells_app]
      rw [show (i + 1) * 5 = i * 5 + [Value.int .i64 0, .string ⟨#[]⟩, .string ⟨#[]⟩, .int .i64 0, .int .i64 0].length by simp; omega] at e4
      exact HP.2.trans e4
theorem zeros5 (a b c d e : Value) (n : Nat) : (Builtin.zeroCells #[a, b, c, d, e] n).toList = (List.replicate n [a, b, c, d, e]).flatten := by
  have h : (Builtin.zeroCells #[a, b, c, d, e] n).toList = (List.range (n * 5)).map fun i => (#[a, b, c, d, e] : Array Value)[i % 5]! := by simp [Builtin.zeroCells, Array.toList_range]
  rw [h]
  clear h
  induction n with
  | zero => rfl
  | succ n ih =>
    rw [List.replicate_succ', List.flatten_append, ← ih, show (n + 1) * 5 = n * 5 + 1 + 1 + 1 + 1 + 1 by omega]
    simp only [List.range_succ, List.map_append, List.map_cons, List.map_nil, List.append_assoc]
    rw [show (n * 5) % 5 = 0 by omega, show (n * 5 + 1) % 5 = 1 by omega, show (n * 5 + 1 + 1) % 5 = 2 by omega, show (n * 5 + 1 + 1 + 1) % 5 = 3 by omega, show (n * 5 + 1 + 1 + 1 + 1) % 5 = 4 by omega]
    rfl
theorem run_clear_rows {P : Program} (w : World) (t e ty : TypeId) (z : Value) (L : List Value) (ht : P.underlying t = some (.slice e)) (hv : ∀ w, (zeroValue e).run P w = .ok z w) (b o n c : Nat) (hn : 0 < n) (hL : (Builtin.zeroCells z.cells n).toList = L) (h1 : ∀ v ∈ L, v.oneCell' = true)
    (hc : ∀ j, j < L.length → (w.cell? ⟨b, o + j, none⟩).isSome = true) (hf : ∀ j, j < L.length → w.frozen? ⟨b, o + j, none⟩ = false) :
    (Builtin.clear_ #[t] ty #[.slice (some ⟨b, o, none⟩) n c]).run P w = .ok (.tuple #[]) (w.setCells b o L) := by
  have hst := Go.run_storeCells_cells (P := P) b o L 0 w (by simpa using hc) (by simpa using hf) h1
  simp only [Nat.add_zero] at hst
  obtain ⟨m, rfl⟩ : ∃ m, n = m + 1 := ⟨n - 1, by omega⟩
  simp [Builtin.clear_, run_underlying ht, hv, hL, hst]
theorem zero_33 (w : World) : (zeroValue 33).run Try.prog w = .ok (.agg #[.int .i64 0, .string ⟨#[]⟩, .string ⟨#[]⟩, .int .i64 0, .int .i64 0]) w := by
  obtain ⟨i0, hi, hzz⟩ := Option.map_eq_some_iff.1 info33
  simp only [Prod.mk.injEq] at hzz
  simp [zeroValue, typeInfo, hi, hzz.1]
theorem flat5_length (n : Nat) (a b c d e : Value) : (List.replicate n [a, b, c, d, e]).flatten.length = n * 5 := by
  induction n with
  | zero => rfl
  | succ n ih => rw [List.replicate_succ, List.flatten_cons, List.length_append, ih]; simp; omega
/-- the clear of items from i on -/
theorem clear_items {base g c : Nat} {ok : Nat → Prop} {w : World} {dk : List S_Item} (hr : Kd.R k_Item 33 w base ok (.slice (some ⟨g, 0, none⟩) dk.length c) dk) (i : Nat) (hi : i < dk.length) (ty : TypeId) :
    ∃ w1, (∀ m, m = dk.length - i → ∀ cc, (Builtin.clear_ #[24] ty #[.slice (some ⟨g, i * 5, none⟩) m cc]).run Try.prog w = .ok (.tuple #[]) w1) ∧ Kd.R k_Item 33 w1 base ok (.slice (some ⟨g, 0, none⟩) i c) (dk.take i) ∧ w.grownBy w1 (some g) := by
  obtain ⟨dk', e1, e2, e3, e4⟩ := zero_tail (dk.length - i) i w dk (by omega) hr
  refine ⟨_, ?_, ?_, e4⟩
  · rintro m rfl cc
    have hcell : ∀ j, j < (List.replicate (dk.length - i) [Value.int .i64 0, .string ⟨#[]⟩, .string ⟨#[]⟩, .int .i64 0, .int .i64 0]).flatten.length → (w.cell? ⟨g, i * 5 + j, none⟩).isSome = true ∧ w.frozen? ⟨g, i * 5 + j, none⟩ = false := by
      intro j hj
      rw [flat5_length] at hj
      obtain ⟨c', hcl, hM, hcc, hfr⟩ := Kd.R_elem hr z_Item ((i + j / 5 : Nat) : Int) (by omega) (by omega)
      have h5 : j % 5 < c'.length := by rw [hcl]; show j % 5 < 5; omega
      have := hcc (j % 5) _ (List.getElem?_eq_getElem h5)
      have h6 := hfr (j % 5)
      rw [Int.toNat_natCast, show (k_Item).sz = 5 from rfl, show (i + j / 5) * 5 + j % 5 = i * 5 + j by omega] at this h6
      exact ⟨by rw [this]; rfl, h6⟩
    refine run_clear_rows w 24 33 ty _ _ Try.underlying24 zero_33 g (i * 5) _ _ (by omega) (zeros5 _ _ _ _ _ _) ?_ (fun j hj => (hcell j hj).1) (fun j hj => (hcell j hj).2)
    intro v hv
    obtain ⟨l, hl, hv⟩ := List.mem_flatten.1 hv
    rw [(List.mem_replicate.1 hl).2] at hv
    simp only [List.mem_cons, List.not_mem_nil, or_false] at hv
    rcases hv with rfl | rfl | rfl | rfl | rfl <;> rfl
  · rw [← e2]
    exact Kd.R_take e3 (by omega)
set_option maxHeartbeats 16000000 in
set_option maxRecDepth 100000 in
theorem trimDel (gl gb : Nat) (n bk : Int) (hn1 : 1 ≤ n) (base : Nat) (ok : Nat → Prop) (g c : Nat) (l : List S_Item) (w : World) (h1 : w.heap[gl]? = some (.cells #[.int .i64 n] 3 (0, 0))) (h2 : w.heap[gb]? = some (.cells #[.int .i64 bk] 3 (0, 0))) (ho : Kd.R k_Item 33 w base ok (.slice (some ⟨g, 0, none⟩) l.length c) l) :
    Calls Try.prog 54 #[.slice (some ⟨g, 0, none⟩) l.length c, .func (.func 55) #[] #[.pointer (some ⟨gl, 0, none⟩), .pointer (some ⟨gb, 0, none⟩)]] w fun e w' => e = .returned (.slice (some ⟨g, 0, none⟩) (kept n bk l).length c) ∧ Kd.R k_Item 33 w' base ok (.slice (some ⟨g, 0, none⟩) (kept n bk l).length c) (kept n bk l) ∧ w.grownBy w' (some g) := by
  have eC : ∀ args w, (callFunc 55 args).run Try.prog w = .ok (.enter 55 args) w := enters_of Try.func55 (by kernel_rfl) rfl
  have hu := Try.underlying33
  have HC := (Kd.R_reads' ho).2.2
  have HI := Aside0.mk (trimIdx gl gb n bk hn1 (some ⟨g, 0, none⟩) c l w h1 h2 HC)
  have HN := Aside0.mk (Kd.C_max HC)
  have NL : Aside0 (some gl ≠ (some g : Option Nat)) := ⟨fun e => Kd.R_ne ho h1 (by decide) (by rw [e]; simp [Value.ownBlock])⟩
  have NB : Aside0 (some gb ≠ (some g : Option Nat)) := ⟨fun e => Kd.R_ne ho h2 (by decide) (by rw [e]; simp [Value.ownBlock])⟩
  have HX := Aside0.mk h1
  have HY := Aside0.mk h2
  have HO := Aside0.mk ho
  have HL := Aside0.mk hn1
  clear h1 h2 ho hn1 HC
  rcases hitAt_from n bk l l.length 0 (by omega) with ⟨e0, hall⟩ | ⟨k0, _, hk0, e0, ht, hall⟩
  · rw [e0] at HI
    rw [List.drop_zero] at hall
    have E := Aside0.mk (kept_all hall)
    clear e0 hall
    go_enter Try.func54, Try.ntmps54
    go_wp2_with (go_at_call 99; refine HI.out.mono ?_; rintro e w' ⟨rfl, hb'⟩)
    go_ret
    rw [E.out]
    exact ⟨rfl, Kd.R_below HO.out hb', grown_of_below hb' _⟩
  · rw [e0] at HI
    rw [List.drop_zero] at hall
    have I0 := Aside0.mk (KeepI.start hk0 ht hall)
    have hne1 : ((k0 : Int) == -1) = false := beq_eq_false_iff_ne.2 (by omega)
    have hn := HN.out
    clear e0 ht hall
    go_enter Try.func54, Try.ntmps54
    go_wp2_with (go_at_call 99; refine HI.out.mono ?_; rintro e w' ⟨rfl, hb'⟩)
    go_loopg [5, 6, 7] l.length (fun gg s5 s6 _ wr => ∃ (i j : Nat) (dk : List S_Item), s5 = .int .i64 i ∧ s6 = .int .i64 j ∧ j ≤ l.length ∧ l.length - j ≤ gg ∧ Aside0 (w.grownBy wr (some g)) ∧ Aside0 (Kd.R k_Item 33 wr base ok (.slice (some ⟨g, 0, none⟩) l.length c) dk) ∧ Aside0 (KeepI n bk l i j dk))
    case atStart => exact ⟨k0, k0 + 1, l, rfl, by go_num, by omega, (by omega), ⟨grown_of_below hb' _⟩, ⟨Kd.R_below HO.out hb'⟩, I0⟩
    case round =>
      obtain ⟨i, j, dk, rfl, rfl, hjd, hgg, HG, HD, I⟩ := hrel
      have hn := HN.out
      have hij := I.out.lt
      have hdl := I.out.len
      by_cases hlt : j < l.length
      · have hltz : (j : Int) < (l.length : Int) := by omega
        have hxe := I.out.at_
        obtain ⟨ce, hcl, hM, hcc, hfr⟩ := Kd.R_elem HD.out z_Item (j : Int) (by omega) hltz
        obtain rfl := k_Item_openM hM
        rw [show dk.getD (j : Int).toNat z_Item = rd_Item l (j : Int) from hxe] at hcc
        obtain ⟨x, hx⟩ : ∃ x, x = rd_Item l (j : Int) := ⟨_, rfl⟩
        rw [← hx] at hcc
        have h0 : wr.cell? ⟨g, j * 5, none⟩ = some (.int .i64 x.f0) := hcc 0 _ rfl
        have h1 : wr.cell? ⟨g, j * 5 + 1, none⟩ = some (.string x.f1) := hcc 1 _ rfl
        have h2 : wr.cell? ⟨g, j * 5 + 2, none⟩ = some (.string x.f2) := hcc 2 _ rfl
        have h3 : wr.cell? ⟨g, j * 5 + 3, none⟩ = some (.int .i64 x.f3) := hcc 3 _ rfl
        have h4 : wr.cell? ⟨g, j * 5 + 4, none⟩ = some (.int .i64 x.f4) := hcc 4 _ rfl
        have X := Aside0.mk hx
        clear hcl hM hcc hfr hxe hx
        cases hq : (wrap64 (Int.tdiv x.f0 n) == bk) with
        | true =>
          go_wp2_with (first | ((with_reducible refine gate_dst (N := 7) rfl ?_); refine box_event ?hg (N := 7) ?hd (cs := #[.int .i64 0, .string ⟨#[]⟩, .string ⟨#[]⟩, .int .i64 0, .int .i64 0]) (t := 33) ?hr ?_; (case hd => rfl); (case hg => rfl); (case hr => first | (go_simp; done) | (go_simp; rfl)); intro gv hgv w7 hbox hb; have GV := Aside0.mk hgv; have V7 := Aside0.mk hbox; have B7 := Aside0.mk hb; have hv_0 : w7.cell? ⟨gv, 0, none⟩ = some (.int .i64 0) := (blk_cell hbox 0).trans rfl; have hv_1 : w7.cell? ⟨gv, 1, none⟩ = some (.string ⟨#[]⟩) := (blk_cell hbox 1).trans rfl; have hv_2 : w7.cell? ⟨gv, 2, none⟩ = some (.string ⟨#[]⟩) := (blk_cell hbox 2).trans rfl; have hv_3 : w7.cell? ⟨gv, 3, none⟩ = some (.int .i64 0) := (blk_cell hbox 3).trans rfl; have hv_4 : w7.cell? ⟨gv, 4, none⟩ = some (.int .i64 0) := (blk_cell hbox 4).trans rfl; have hz_0 := blk_frozen hbox 0; have hz_1 := blk_frozen hbox 1; have hz_2 := blk_frozen hbox 2; have hz_3 := blk_frozen hbox 3; have hz_4 := blk_frozen hbox 4; clear h0 h1 h2 h3 h4 hb hbox hgv) | ((with_reducible refine gate_store (t := 33) (p := 7) rfl ?_); refine store_event (t := 33) (p := 7) (v := ?vo_w8) (w1 := (((((w7.setCell ⟨gv, 0, none⟩ (.int .i64 x.f0)).setCell ⟨gv, 1, none⟩ (.string x.f1)).setCell ⟨gv, 2, none⟩ (.string x.f2)).setCell ⟨gv, 3, none⟩ (.int .i64 x.f3)).setCell ⟨gv, 4, none⟩ (.int .i64 x.f4))) ?hg ?ho ?hn ?hr ?_; (case ho => rfl); (case hg => rfl); (case hn => rfl); (case hr => first | (go_simp; done) | (go_simp; rfl)); intro w8 hw; have V8 : Aside0 (w8.heap[gv]? = some (.cells #[.int .i64 x.f0, .string x.f1, .string x.f2, .int .i64 x.f3, .int .i64 x.f4] 33 (0, 0))) := ⟨by rw [hw]; exact blk_put (blk_put (blk_put (blk_put (blk_put V7.out 0 _ rfl) 1 _ rfl) 2 _ rfl) 3 _ rfl) 4 _ rfl⟩; have B8 : Aside0 (Below wr.heap.size wr w8) := ⟨qe5_⟩; have hcall := trimHit gl gb n bk HL.out x.f0 x.f1 x.f2 x.f3 x.f4 w8 (blk_below (blk_grown HX.out HG.out NL.out) B8.out) (blk_below (blk_grown HY.out HG.out NB.out) B8.out); rw [hq] at hcall; have HQ := Aside0.mk hcall; have hd_0 : w8.cell? ⟨gv, 0, none⟩ = some (.int .i64 x.f0) := (blk_cell V8.out 0).trans rfl; have hd_1 : w8.cell? ⟨gv, 1, none⟩ = some (.string x.f1) := (blk_cell V8.out 1).trans rfl; have hd_2 : w8.cell? ⟨gv, 2, none⟩ = some (.string x.f2) := (blk_cell V8.out 2).trans rfl; have hd_3 : w8.cell? ⟨gv, 3, none⟩ = some (.int .i64 x.f3) := (blk_cell V8.out 3).trans rfl; have hd_4 : w8.cell? ⟨gv, 4, none⟩ = some (.int .i64 x.f4) := (blk_cell V8.out 4).trans rfl; clear hw hcall hv_0 hv_1 hv_2 hv_3 hv_4 hz_0 hz_1 hz_2 hz_3 hz_4 V7 B7) | (go_at_fn 55; refine HQ.out.mono ?_; rintro e w9 ⟨rfl, hb9⟩; have B9 := Aside0.mk (below_step B8.out hb9); clear hd_0 hd_1 hd_2 hd_3 hd_4 hb9 HQ V8 B8))
          go_roundg (l.length - (j + 1))
          case measure => omega
          case rel => exact ⟨i, j + 1, dk, rfl, by go_num, by omega, Nat.le_refl _, ⟨HG.out.trans (grown_of_below B9.out _)⟩, ⟨Kd.R_below HD.out B9.out⟩, ⟨I.out.skip hlt (by rw [← X.out]; exact hq)⟩⟩
        | false =>
          have hil : (i : Int) < (l.length : Int) := by omega
          go_wp2_with (first | ((with_reducible refine gate_dst (N := 7) rfl ?_); refine box_event ?hg (N := 7) ?hd (cs := #[.int .i64 0, .string ⟨#[]⟩, .string ⟨#[]⟩, .int .i64 0, .int .i64 0]) (t := 33) ?hr ?_; (case hd => rfl); (case hg => rfl); (case hr => first | (go_simp; done) | (go_simp; rfl)); intro gv hgv w7 hbox hb; have GV := Aside0.mk hgv; have V7 := Aside0.mk hbox; have B7 := Aside0.mk hb; have hv_0 : w7.cell? ⟨gv, 0, none⟩ = some (.int .i64 0) := (blk_cell hbox 0).trans rfl; have hv_1 : w7.cell? ⟨gv, 1, none⟩ = some (.string ⟨#[]⟩) := (blk_cell hbox 1).trans rfl; have hv_2 : w7.cell? ⟨gv, 2, none⟩ = some (.string ⟨#[]⟩) := (blk_cell hbox 2).trans rfl; have hv_3 : w7.cell? ⟨gv, 3, none⟩ = some (.int .i64 0) := (blk_cell hbox 3).trans rfl; have hv_4 : w7.cell? ⟨gv, 4, none⟩ = some (.int .i64 0) := (blk_cell hbox 4).trans rfl; have hz_0 := blk_frozen hbox 0; have hz_1 := blk_frozen hbox 1; have hz_2 := blk_frozen hbox 2; have hz_3 := blk_frozen hbox 3; have hz_4 := blk_frozen hbox 4; clear h0 h1 h2 h3 h4 hb hbox hgv) | ((with_reducible refine gate_store (t := 33) (p := 7) rfl ?_); refine store_event (t := 33) (p := 7) (v := ?vo_w8) (w1 := (((((w7.setCell ⟨gv, 0, none⟩ (.int .i64 x.f0)).setCell ⟨gv, 1, none⟩ (.string x.f1)).setCell ⟨gv, 2, none⟩ (.string x.f2)).setCell ⟨gv, 3, none⟩ (.int .i64 x.f3)).setCell ⟨gv, 4, none⟩ (.int .i64 x.f4))) ?hg ?ho ?hn ?hr ?_; (case ho => rfl); (case hg => rfl); (case hn => rfl); (case hr => first | (go_simp; done) | (go_simp; rfl)); intro w8 hw; have V8 : Aside0 (w8.heap[gv]? = some (.cells #[.int .i64 x.f0, .string x.f1, .string x.f2, .int .i64 x.f3, .int .i64 x.f4] 33 (0, 0))) := ⟨by rw [hw]; exact blk_put (blk_put (blk_put (blk_put (blk_put V7.out 0 _ rfl) 1 _ rfl) 2 _ rfl) 3 _ rfl) 4 _ rfl⟩; have B8 : Aside0 (Below wr.heap.size wr w8) := ⟨qe5_⟩; have hcall := trimHit gl gb n bk HL.out x.f0 x.f1 x.f2 x.f3 x.f4 w8 (blk_below (blk_grown HX.out HG.out NL.out) B8.out) (blk_below (blk_grown HY.out HG.out NB.out) B8.out); rw [hq] at hcall; have HQ := Aside0.mk hcall; have hd_0 : w8.cell? ⟨gv, 0, none⟩ = some (.int .i64 x.f0) := (blk_cell V8.out 0).trans rfl; have hd_1 : w8.cell? ⟨gv, 1, none⟩ = some (.string x.f1) := (blk_cell V8.out 1).trans rfl; have hd_2 : w8.cell? ⟨gv, 2, none⟩ = some (.string x.f2) := (blk_cell V8.out 2).trans rfl; have hd_3 : w8.cell? ⟨gv, 3, none⟩ = some (.int .i64 x.f3) := (blk_cell V8.out 3).trans rfl; have hd_4 : w8.cell? ⟨gv, 4, none⟩ = some (.int .i64 x.f4) := (blk_cell V8.out 4).trans rfl; clear hw hcall hv_0 hv_1 hv_2 hv_3 hv_4 hz_0 hz_1 hz_2 hz_3 hz_4 V7 B7) | (go_at_fn 55; refine HQ.out.mono ?_; rintro e w9 ⟨rfl, hb9⟩; have B9 := Aside0.mk (below_step B8.out hb9); have V9 := blk_below V8.out hb9; have hd_0 : w9.cell? ⟨gv, 0, none⟩ = some (.int .i64 x.f0) := (blk_cell V9 0).trans rfl; have hd_1 : w9.cell? ⟨gv, 1, none⟩ = some (.string x.f1) := (blk_cell V9 1).trans rfl; have hd_2 : w9.cell? ⟨gv, 2, none⟩ = some (.string x.f2) := (blk_cell V9 2).trans rfl; have hd_3 : w9.cell? ⟨gv, 3, none⟩ = some (.int .i64 x.f3) := (blk_cell V9 3).trans rfl; have hd_4 : w9.cell? ⟨gv, 4, none⟩ = some (.int .i64 x.f4) := (blk_cell V9 4).trans rfl; have R9 := Kd.R_below HD.out B9.out; obtain ⟨ce, hcl, hM, hcc, hfr⟩ := Kd.R_elem R9 z_Item (i : Int) (by omega) hil; obtain rfl := k_Item_openM hM; have HP := Kd.R_seg R9 (i : Int) (by omega) hil (seg := [.int .i64 x.f0, .string x.f1, .string x.f2, .int .i64 x.f3, .int .i64 x.f4]) (j := 0) hcl hcc (show 5 ≤ 5 from by decide) (x' := x) (k_Item_mkM _ _ _ x) (fun _ hk => hk); have he_0 : w9.cell? ⟨g, i * 5, none⟩ = _ := hcc 0 _ rfl; have he_1 : w9.cell? ⟨g, i * 5 + 1, none⟩ = _ := hcc 1 _ rfl; have he_2 : w9.cell? ⟨g, i * 5 + 2, none⟩ = _ := hcc 2 _ rfl; have he_3 : w9.cell? ⟨g, i * 5 + 3, none⟩ = _ := hcc 3 _ rfl; have he_4 : w9.cell? ⟨g, i * 5 + 4, none⟩ = _ := hcc 4 _ rfl; have hf_0 : w9.frozen? ⟨g, i * 5, none⟩ = false := hfr 0; have hf_1 : w9.frozen? ⟨g, i * 5 + 1, none⟩ = false := hfr 1; have hf_2 : w9.frozen? ⟨g, i * 5 + 2, none⟩ = false := hfr 2; have hf_3 : w9.frozen? ⟨g, i * 5 + 3, none⟩ = false := hfr 3; have hf_4 : w9.frozen? ⟨g, i * 5 + 4, none⟩ = false := hfr 4; have HP := Aside0.mk HP; clear hb9 HQ V8 B8 V9 R9 hcl hM hcc hfr) | ((with_reducible refine gate_store (t := 33) (p := 33) rfl ?_); refine store_event (t := 33) (p := 33) (v := ?vo_w10) (w1 := (((((w9.setCell ⟨g, i * 5, none⟩ (.int .i64 x.f0)).setCell ⟨g, i * 5 + 1, none⟩ (.string x.f1)).setCell ⟨g, i * 5 + 2, none⟩ (.string x.f2)).setCell ⟨g, i * 5 + 3, none⟩ (.int .i64 x.f3)).setCell ⟨g, i * 5 + 4, none⟩ (.int .i64 x.f4))) ?hg ?ho ?hn ?hr ?_; (case ho => rfl); (case hg => rfl); (case hn => rfl); (case hr => first | (go_simp; done) | (go_simp; rfl)); intro w10 hw; have R10 : Aside0 (Kd.R k_Item 33 w10 base ok (.slice (some ⟨g, 0, none⟩) l.length c) (dk.set i x)) := ⟨by rw [hw]; exact HP.out.1⟩; have G10 : Aside0 (w9.grownBy w10 (some g)) := ⟨by rw [hw]; exact HP.out.2⟩; clear hw HP he_0 he_1 he_2 he_3 he_4 hf_0 hf_1 hf_2 hf_3 hf_4 hd_0 hd_1 hd_2 hd_3 hd_4))
          go_roundg (l.length - (j + 1))
          case measure => omega
          case rel => exact ⟨i + 1, j + 1, dk.set i x, by go_num, by go_num, by omega, Nat.le_refl _, ⟨(HG.out.trans (grown_of_below B9.out _)).trans G10.out⟩, R10, ⟨by have h_ := I.out.keep hlt (by rw [← X.out]; exact hq); rw [← X.out] at h_; exact h_⟩⟩
      · obtain rfl : j = l.length := by omega
        have hltz : ¬ (l.length : Int) < (l.length : Int) := by omega
        have hD := HD.out
        have hcap := (Kd.R_reads' hD).2.1
        rw [show l.length = dk.length from hdl.symm] at hD
        obtain ⟨w1, hcl, hr1, hg1⟩ := clear_items hD i (by omega) 0
        have hic : i ≤ c := by omega
        have hiz : (i : Int) ≤ (l.length : Int) := by omega
        have hcl := hcl (l.length - i) (by omega) (c - i)
        have hK : (kept n bk l).length = i := by
          have h_ := I.out.low
          rw [List.take_length] at h_
          rw [← h_, List.length_take]
          omega
        have hK2 : dk.take i = kept n bk l := by
          have h_ := I.out.low
          rwa [List.take_length] at h_
        have HR1 := Aside0.mk hr1
        have HG1 := Aside0.mk (HG.out.trans hg1)
        have HKK := Aside0.mk (And.intro hK hK2)
        clear hD hr1 hg1 hK hK2
        go_wp2
        go_ret
        rw [HKK.out.1, ← HKK.out.2]
        exact ⟨rfl, HR1.out, HG1.out⟩
end Go.Proofs.Ythmjhhkheohgfaa.Q
