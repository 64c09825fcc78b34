/- Made by a program of ours out of the print of the loaded functions: for each of some functions a plain function, and the walk that shows that a call comes to what it says. No condition but those of each theorem. -/
import Derived.Test.YtgkeapbeogmfjaaZFnFenced0
import Derived.Test.YtgkeapbeogmfjaaZFnFenceda
import Derived.Test.YtgkeapbeogmfjaaZFnFencedb
namespace Go.Proofs.Ytgkeapbeogmfjaa.Q
open Go.RowKit Go.Proofs.YtgkeapbeogmfjaaW.PrintWords Go.Proofs.YtgkeapbeogmfjaaW.PrintLast Go.Proofs.YtgkeapbeogmfjaaW.PrintMore
attribute [local go_sem] max2_int min2_int max_two min_two max_three min_three max_four min_four   -- for this text's walks alone
set_option linter.unusedVariables false
set_option linter.unusedSimpArgs false

/-! ### impl_MakerOk: function 60 -/
abbrev impl_MakerOk.m0 : Array Bool := #[false, false, false, false, false, false, false, false, false, false, false, false, false, false, false, false, false, false, false, false, false, false, false, false, false, false, false, false, false, false, false, false, false, false]
abbrev impl_MakerOk.m1 : Array Bool := #[true, false, false, false, false, false, false, false, false, false, false, false, false, false, false, false, false, false, false, false, false, false, false, false, false, false, false, false, false, false, false, false, false, false]
abbrev impl_MakerOk.m2 : Array Bool := #[true, false, true, false, false, false, false, false, false, false, false, false, false, false, false, false, false, false, false, false, false, false, false, false, false, false, false, false, false, false, false, false, false, false]
abbrev impl_MakerOk.m3 : Array Bool := #[true, false, true, false, true, false, false, false, false, false, false, false, false, false, false, false, false, false, false, false, false, false, false, false, false, false, false, false, false, false, false, false, false, false]
abbrev impl_MakerOk.m4 : Array Bool := #[true, false, true, false, true, false, false, false, false, true, false, false, false, false, false, false, false, false, false, false, false, false, false, false, false, false, false, false, false, false, false, false, false, false]
abbrev impl_MakerOk.m5 : Array Bool := #[true, true, true, false, true, false, false, false, false, true, false, false, false, false, false, false, false, false, false, false, false, false, false, false, false, false, false, false, false, false, false, false, false, false]
abbrev impl_MakerOk.m6 : Array Bool := #[true, true, true, true, true, false, false, false, false, true, false, false, false, false, false, false, false, false, false, false, false, false, false, false, false, false, false, false, false, false, false, false, false, false]
abbrev impl_MakerOk.m7 : Array Bool := #[true, true, true, true, true, true, false, false, false, true, false, false, false, false, false, false, false, false, false, false, false, false, false, false, false, false, false, false, false, false, false, false, false, false]
abbrev impl_MakerOk.m8 : Array Bool := #[true, true, true, true, true, true, true, false, false, true, false, false, false, false, false, false, false, false, false, false, false, false, false, false, false, false, false, false, false, false, false, false, false, false]
abbrev impl_MakerOk.m9 : Array Bool := #[true, true, true, true, true, true, true, true, false, true, false, false, false, false, false, false, false, false, false, false, false, false, false, false, false, false, false, false, false, false, false, false, false, false]
abbrev impl_MakerOk.m10 : Array Bool := #[true, true, true, true, true, true, true, true, true, true, false, false, false, false, false, false, false, false, false, false, false, false, false, false, false, false, false, false, false, false, false, false, false, false]
abbrev impl_MakerOk.m11 : Array Bool := #[true, true, true, true, true, true, true, true, true, true, true, false, false, false, false, false, false, false, false, false, false, false, false, false, false, false, false, false, false, false, false, false, false, false]
abbrev impl_MakerOk.m12 : Array Bool := #[true, true, true, true, true, true, true, true, true, true, true, true, false, false, false, false, false, false, false, false, false, false, false, false, false, false, false, false, false, false, false, false, false, false]
abbrev impl_MakerOk.m13 : Array Bool := #[true, true, true, true, true, true, true, true, true, true, true, true, true, false, false, false, false, false, false, false, false, false, false, false, false, false, false, false, false, false, false, false, false, false]
abbrev impl_MakerOk.m14 : Array Bool := #[true, true, true, true, true, true, true, true, true, true, true, true, true, true, false, false, false, false, false, false, false, false, false, false, false, false, false, false, false, false, false, false, false, false]
abbrev impl_MakerOk.m15 : Array Bool := #[true, true, true, true, true, true, true, true, true, true, true, true, true, true, true, false, false, false, false, false, false, false, false, false, false, false, false, false, false, false, false, false, false, false]
abbrev impl_MakerOk.m16 : Array Bool := #[true, true, true, true, true, true, true, true, true, true, true, true, true, true, true, true, false, false, false, false, false, false, false, false, false, false, false, false, false, false, false, false, false, false]
abbrev impl_MakerOk.m17 : Array Bool := #[true, true, true, true, true, true, true, true, true, true, true, true, true, true, true, true, true, false, false, false, false, false, false, false, false, false, false, false, false, false, false, false, false, false]
abbrev impl_MakerOk.m18 : Array Bool := #[true, true, true, true, true, true, true, true, true, true, true, true, true, true, true, true, true, true, false, false, false, false, false, false, false, false, false, false, false, false, false, false, false, false]
abbrev impl_MakerOk.m19 : Array Bool := #[true, true, true, true, true, true, true, true, true, true, true, true, true, true, true, true, true, true, true, false, false, false, false, false, false, false, false, false, false, false, false, false, false, false]
abbrev impl_MakerOk.m20 : Array Bool := #[true, true, true, true, true, true, true, true, true, true, true, true, true, true, true, true, true, true, true, true, false, false, false, false, false, false, false, false, false, false, false, false, false, false]
abbrev impl_MakerOk.m21 : Array Bool := #[true, true, true, true, true, true, true, true, true, true, true, true, true, true, true, true, true, true, true, true, true, false, false, false, false, false, false, false, false, false, false, false, false, false]
abbrev impl_MakerOk.m22 : Array Bool := #[true, true, true, true, true, true, true, true, true, true, true, true, true, true, true, true, true, true, true, true, true, true, false, false, false, false, false, false, false, false, false, false, false, false]
abbrev impl_MakerOk.m23 : Array Bool := #[true, true, true, true, true, true, true, true, true, true, true, true, true, true, true, true, true, true, true, true, true, true, true, false, false, false, false, false, false, false, false, false, false, false]
abbrev impl_MakerOk.m24 : Array Bool := #[true, true, true, true, true, true, true, true, true, true, true, true, true, true, true, true, true, true, true, true, true, true, true, true, true, true, true, true, true, true, false, false, false, false]
abbrev impl_MakerOk.m25 : Array Bool := #[true, true, true, true, true, true, true, true, true, true, true, true, true, true, true, true, true, true, true, true, true, true, true, true, true, true, true, true, true, true, true, false, false, false]
abbrev impl_MakerOk.m26 : Array Bool := #[true, true, true, true, true, true, true, true, true, true, true, true, true, true, true, true, true, true, true, true, true, true, true, true, true, true, true, true, true, true, true, true, false, false]
abbrev impl_MakerOk.m27 : Array Bool := #[true, true, true, true, true, true, true, true, true, true, true, true, true, true, true, true, true, true, true, true, true, true, true, true, true, true, true, true, true, true, true, true, true, false]
abbrev impl_MakerOk.m28 : Array Bool := #[true, true, true, true, true, true, true, true, true, true, true, true, true, true, true, true, true, true, true, true, true, true, true, true, true, true, true, true, true, true, true, true, true, true]
abbrev impl_MakerOk.m29 : Array Bool := #[true, true, true, true, true, true, true, true, true, true, true, true, true, true, true, true, true, true, true, true, true, true, true, true, false, false, false, false, false, false, false, false, false, false]
abbrev impl_MakerOk.m30 : Array Bool := #[true, true, true, true, true, true, true, true, true, true, true, true, true, true, true, true, true, true, true, true, true, true, true, true, true, false, false, false, false, false, false, false, false, false]
abbrev impl_MakerOk.m31 : Array Bool := #[true, true, true, true, true, true, true, true, true, true, true, true, true, true, true, true, true, true, true, true, true, true, true, true, true, true, false, false, false, false, false, false, false, false]
abbrev impl_MakerOk.m32 : Array Bool := #[true, true, true, true, true, true, true, true, true, true, true, true, true, true, true, true, true, true, true, true, true, true, true, true, true, true, true, false, false, false, false, false, false, false]
abbrev impl_MakerOk.m33 : Array Bool := #[true, true, true, true, true, true, true, true, true, true, true, true, true, true, true, true, true, true, true, true, true, true, true, true, true, true, true, true, false, false, false, false, false, false]
abbrev impl_MakerOk.m34 : Array Bool := #[true, true, true, true, true, true, true, true, true, true, true, true, true, true, true, true, true, true, true, true, true, true, true, true, true, true, true, true, true, false, false, false, false, false]
mutual
def impl_MakerOk.j0 : Nat → Bool → Int → Int → Int → Int → List (S_Mark) → Option (Bool)
 | 0, _, _, _, _, _, _ => none
 | k + 1, x45, x1370000, x1370001, x1370002, x1370003, x1370004 => if x45 = true then (some false) else (impl_MakerOk.j1 k x1370000 x1370001 x1370002 x1370003 x1370004)
def impl_MakerOk.j1 : Nat → Int → Int → Int → Int → List (S_Mark) → Option (Bool)
 | 0, _, _, _, _, _ => none
 | k + 1, x1370000, x1370001, x1370002, x1370003, x1370004 => impl_MakerOk.l0 k x1370004 (x1370004.length : Int) 0 x1370000 x1370001 x1370002 x1370003 x1370004
def impl_MakerOk.l0 : Nat → List (S_Mark) → Int → Int → Int → Int → Int → Int → List (S_Mark) → Option (Bool)
 | 0, _, _, _, _, _, _, _, _ => none
 | k + 1, x47, x48, x49, x1370000, x1370001, x1370002, x1370003, x1370004 => if x49 < x48 then (impl_MakerOk.j3 k x47 x48 x49 x1370000 x1370001 x1370002 x1370003 x1370004) else (some true)
def impl_MakerOk.j3 : Nat → List (S_Mark) → Int → Int → Int → Int → Int → Int → List (S_Mark) → Option (Bool)
 | 0, _, _, _, _, _, _, _, _ => none
 | k + 1, x47, x48, x49, x1370000, x1370001, x1370002, x1370003, x1370004 => if 0 ≤ x49 then (if x49 < (x47.length : Int) then (if ((rd_Mark x47 x49).f0) = (wrap64 ((wrap64 ((wrap64 (x1370003 - (x1370004.length : Int))) + 1)) + x49)) then ((impl_within.f ((rd_Mark x47 x49).f1) 0 100000).bind fun t1376 => (if t1376 = true then (if x49 > 0 then (if 0 ≤ (wrap64 (x49 - 1)) then (if (wrap64 (x49 - 1)) < (x1370004.length : Int) then (impl_MakerOk.j4 k x47 x48 x49 (decide (((rd_Mark x1370004 (wrap64 (x49 - 1))).f1) ≥ ((rd_Mark x47 x49).f1))) x1370000 x1370001 x1370002 x1370003 x1370004) else (none)) else (none)) else (impl_MakerOk.j4 k x47 x48 x49 false x1370000 x1370001 x1370002 x1370003 x1370004)) else (impl_MakerOk.j4 k x47 x48 x49 true x1370000 x1370001 x1370002 x1370003 x1370004))) else (impl_MakerOk.j4 k x47 x48 x49 true x1370000 x1370001 x1370002 x1370003 x1370004)) else (none)) else (none)
def impl_MakerOk.j4 : Nat → List (S_Mark) → Int → Int → Bool → Int → Int → Int → Int → List (S_Mark) → Option (Bool)
 | 0, _, _, _, _, _, _, _, _, _ => none
 | k + 1, x47, x48, x49, x87, x1370000, x1370001, x1370002, x1370003, x1370004 => if x87 = true then (some false) else (impl_MakerOk.l0 k x47 x48 (wrap64 (x49 + 1)) x1370000 x1370001 x1370002 x1370003 x1370004)
end
def impl_MakerOk.f (k : Nat) (a0_0 : Int) (a0_1 : Int) (a0_2 : Int) (a0_3 : Int) (l0_4 : List (S_Mark)) (a1 : Int) : Option (Bool) := (impl_within.f a0_0 0 3).bind fun t1370 => (if t1370 = true then ((impl_within.f a0_1 0 3).bind fun t1371 => (if t1371 = true then ((impl_within.f a0_2 0 100000).bind fun t1372 => (if t1372 = true then ((impl_within.f a0_3 (-1) 100000).bind fun t1373 => (if t1373 = true then (if (l0_4.length : Int) > a1 then (impl_MakerOk.j0 k true a0_0 a0_1 a0_2 a0_3 l0_4) else (impl_MakerOk.j0 k ((a0_3 == (-1)) != ((l0_4.length : Int) == 0)) a0_0 a0_1 a0_2 a0_3 l0_4)) else (impl_MakerOk.j0 k true a0_0 a0_1 a0_2 a0_3 l0_4))) else (impl_MakerOk.j0 k true a0_0 a0_1 a0_2 a0_3 l0_4))) else (impl_MakerOk.j0 k true a0_0 a0_1 a0_2 a0_3 l0_4))) else (impl_MakerOk.j0 k true a0_0 a0_1 a0_2 a0_3 l0_4))
theorem impl_MakerOk.mono_l : ∀ k, (∀ y0 y1 y2 y3 y4 y5, LeO (impl_MakerOk.j0 k y0 y1 y2 y3 y4 y5) (impl_MakerOk.j0 (k + 1) y0 y1 y2 y3 y4 y5)) ∧ (∀ y0 y1 y2 y3 y4, LeO (impl_MakerOk.j1 k y0 y1 y2 y3 y4) (impl_MakerOk.j1 (k + 1) y0 y1 y2 y3 y4)) ∧ (∀ y0 y1 y2 y3 y4 y5 y6 y7, LeO (impl_MakerOk.l0 k y0 y1 y2 y3 y4 y5 y6 y7) (impl_MakerOk.l0 (k + 1) y0 y1 y2 y3 y4 y5 y6 y7)) ∧ (∀ y0 y1 y2 y3 y4 y5 y6 y7, LeO (impl_MakerOk.j3 k y0 y1 y2 y3 y4 y5 y6 y7) (impl_MakerOk.j3 (k + 1) y0 y1 y2 y3 y4 y5 y6 y7)) ∧ (∀ y0 y1 y2 y3 y4 y5 y6 y7 y8, LeO (impl_MakerOk.j4 k y0 y1 y2 y3 y4 y5 y6 y7 y8) (impl_MakerOk.j4 (k + 1) y0 y1 y2 y3 y4 y5 y6 y7 y8))
 | 0 => ⟨fun _ _ _ _ _ _ r h => by simp [impl_MakerOk.j0] at h, fun _ _ _ _ _ r h => by simp [impl_MakerOk.j1] at h, fun _ _ _ _ _ _ _ _ r h => by simp [impl_MakerOk.l0] at h, fun _ _ _ _ _ _ _ _ r h => by simp [impl_MakerOk.j3] at h, fun _ _ _ _ _ _ _ _ _ r h => by simp [impl_MakerOk.j4] at h⟩
 | k + 1 => by
  obtain ⟨ih0, ih1, ih2, ih3, ih4⟩ := impl_MakerOk.mono_l k
  refine ⟨?_, ?_, ?_, ?_, ?_⟩
  ·
   intro y0 y1 y2 y3 y4 y5
   unfold impl_MakerOk.j0
   repeat' first
   | (with_reducible exact ih0 _ _ _ _ _ _)
   | (with_reducible exact ih1 _ _ _ _ _)
   | (with_reducible exact ih2 _ _ _ _ _ _ _ _)
   | (with_reducible exact ih3 _ _ _ _ _ _ _ _)
   | (with_reducible exact ih4 _ _ _ _ _ _ _ _ _)
   | (with_reducible exact LeO.refl _)
   | (with_reducible exact LeO.none _)
   | (with_reducible refine LeO.ite ?_ ?_)
   | (with_reducible refine LeO.bind ?_ (fun _ => ?_))
   | exact ih0 _ _ _ _ _ _
   | exact ih1 _ _ _ _ _
   | exact ih2 _ _ _ _ _ _ _ _
   | exact ih3 _ _ _ _ _ _ _ _
   | exact ih4 _ _ _ _ _ _ _ _ _
   | exact LeO.none _
   | refine LeO.ite ?_ ?_
   | refine LeO.bind ?_ (fun _ => ?_)
  ·
   intro y0 y1 y2 y3 y4
   unfold impl_MakerOk.j1
   repeat' first
   | (with_reducible exact ih0 _ _ _ _ _ _)
   | (with_reducible exact ih1 _ _ _ _ _)
   | (with_reducible exact ih2 _ _ _ _ _ _ _ _)
   | (with_reducible exact ih3 _ _ _ _ _ _ _ _)
   | (with_reducible exact ih4 _ _ _ _ _ _ _ _ _)
   | (with_reducible exact LeO.refl _)
   | (with_reducible exact LeO.none _)
   | (with_reducible refine LeO.ite ?_ ?_)
   | (with_reducible refine LeO.bind ?_ (fun _ => ?_))
   | exact ih0 _ _ _ _ _ _
   | exact ih1 _ _ _ _ _
   | exact ih2 _ _ _ _ _ _ _ _
   | exact ih3 _ _ _ _ _ _ _ _
   | exact ih4 _ _ _ _ _ _ _ _ _
   | exact LeO.none _
   | refine LeO.ite ?_ ?_
   | refine LeO.bind ?_ (fun _ => ?_)
  ·
   intro y0 y1 y2 y3 y4 y5 y6 y7
   unfold impl_MakerOk.l0
   repeat' first
   | (with_reducible exact ih0 _ _ _ _ _ _)
   | (with_reducible exact ih1 _ _ _ _ _)
   | (with_reducible exact ih2 _ _ _ _ _ _ _ _)
   | (with_reducible exact ih3 _ _ _ _ _ _ _ _)
   | (with_reducible exact ih4 _ _ _ _ _ _ _ _ _)
   | (with_reducible exact LeO.refl _)
   | (with_reducible exact LeO.none _)
   | (with_reducible refine LeO.ite ?_ ?_)
   | (with_reducible refine LeO.bind ?_ (fun _ => ?_))
   | exact ih0 _ _ _ _ _ _
   | exact ih1 _ _ _ _ _
   | exact ih2 _ _ _ _ _ _ _ _
   | exact ih3 _ _ _ _ _ _ _ _
   | exact ih4 _ _ _ _ _ _ _ _ _
   | exact LeO.none _
   | refine LeO.ite ?_ ?_
   | refine LeO.bind ?_ (fun _ => ?_)
  ·
   intro y0 y1 y2 y3 y4 y5 y6 y7
   unfold impl_MakerOk.j3
   repeat' first
   | (with_reducible exact ih0 _ _ _ _ _ _)
   | (with_reducible exact ih1 _ _ _ _ _)
   | (with_reducible exact ih2 _ _ _ _ _ _ _ _)
   | (with_reducible exact ih3 _ _ _ _ _ _ _ _)
   | (with_reducible exact ih4 _ _ _ _ _ _ _ _ _)
   | (with_reducible exact LeO.refl _)
   | (with_reducible exact LeO.none _)
   | (with_reducible refine LeO.ite ?_ ?_)
   | (with_reducible refine LeO.bind ?_ (fun _ => ?_))
   | exact ih0 _ _ _ _ _ _
   | exact ih1 _ _ _ _ _
   | exact ih2 _ _ _ _ _ _ _ _
   | exact ih3 _ _ _ _ _ _ _ _
   | exact ih4 _ _ _ _ _ _ _ _ _
   | exact LeO.none _
   | refine LeO.ite ?_ ?_
   | refine LeO.bind ?_ (fun _ => ?_)
  ·
   intro y0 y1 y2 y3 y4 y5 y6 y7 y8
   unfold impl_MakerOk.j4
   repeat' first
   | (with_reducible exact ih0 _ _ _ _ _ _)
   | (with_reducible exact ih1 _ _ _ _ _)
   | (with_reducible exact ih2 _ _ _ _ _ _ _ _)
   | (with_reducible exact ih3 _ _ _ _ _ _ _ _)
   | (with_reducible exact ih4 _ _ _ _ _ _ _ _ _)
   | (with_reducible exact LeO.refl _)
   | (with_reducible exact LeO.none _)
   | (with_reducible refine LeO.ite ?_ ?_)
   | (with_reducible refine LeO.bind ?_ (fun _ => ?_))
   | exact ih0 _ _ _ _ _ _
   | exact ih1 _ _ _ _ _
   | exact ih2 _ _ _ _ _ _ _ _
   | exact ih3 _ _ _ _ _ _ _ _
   | exact ih4 _ _ _ _ _ _ _ _ _
   | exact LeO.none _
   | refine LeO.ite ?_ ?_
   | refine LeO.bind ?_ (fun _ => ?_)
theorem impl_MakerOk.mono : ∀ a0 a1 a2 a3 a4 a5 k, LeO (impl_MakerOk.f k a0 a1 a2 a3 a4 a5) (impl_MakerOk.f (k + 1) a0 a1 a2 a3 a4 a5) := by
 intro a0 a1 a2 a3 a4 a5 k
 obtain ⟨ih0, ih1, ih2, ih3, ih4⟩ := impl_MakerOk.mono_l k
 unfold impl_MakerOk.f
 repeat' first
  | (with_reducible exact ih0 _ _ _ _ _ _)
  | (with_reducible exact ih1 _ _ _ _ _)
  | (with_reducible exact ih2 _ _ _ _ _ _ _ _)
  | (with_reducible exact ih3 _ _ _ _ _ _ _ _)
  | (with_reducible exact ih4 _ _ _ _ _ _ _ _ _)
  | (with_reducible exact LeO.refl _)
  | (with_reducible exact LeO.none _)
  | (with_reducible refine LeO.ite ?_ ?_)
  | (with_reducible refine LeO.bind ?_ (fun _ => ?_))
  | exact ih0 _ _ _ _ _ _
  | exact ih1 _ _ _ _ _
  | exact ih2 _ _ _ _ _ _ _ _
  | exact ih3 _ _ _ _ _ _ _ _
  | exact ih4 _ _ _ _ _ _ _ _ _
  | exact LeO.none _
  | refine LeO.ite ?_ ?_
  | refine LeO.bind ?_ (fun _ => ?_)
def impl_MakerOk.T6 : Bool × List (List Nat × List Nat) := (true, [([], []), ([0], [0]), ([], []), ([2], [2]), ([], []), ([4], [4]), ([5], [5]), ([3, 6], [3, 6]), ([7], [7]), ([], []), ([8, 9], [8, 9]), ([1, 10], [1, 10]), ([11], [11]), ([12], [12]), ([13, 12], [12, 13]), ([14, 12, 12], [12, 14]), ([15, 12], [12, 15]), ([12, 16], [12, 16]), ([17, 15], [17]), ([18], [18]), ([19, 18], [18, 19]), ([20, 18, 18], [18, 20]), ([21], [21]), ([22, 21], [21, 22]), ([21], [21]), ([24, 21], [21, 24]), ([23, 25, 21], [21, 23, 25]), ([26, 21], [21, 26]), ([27, 21], [21, 27]), ([21], [21]), ([29, 21], [21, 29]), ([28, 30, 21], [21, 28, 30]), ([21, 31, 18], [18, 21, 31]), ([18, 32], [18, 32])])
def impl_MakerOk.B6 : List Nat := [0, 1, 0, 4, 0, 16, 48, 124, 252, 0, 1020, 2047, 4095, 8191, 16383, 32767, 65535, 131071, 262143, 524287, 1048575, 2097151, 4194303, 8388607, 4194303, 20971519, 67108863, 134217727, 268435455, 4194303, 541065215, 2147483647, 4294967295, 8589934591]
theorem impl_MakerOk.tab6 : rtab .any (opsOf Try.f60 6) = impl_MakerOk.T6 := by kernel_rfl
theorem impl_MakerOk.bits6 : waitsOk impl_MakerOk.T6.2 impl_MakerOk.B6 = true := by kernel_rfl
set_option maxHeartbeats 8000000 in
set_option maxRecDepth 100000 in
theorem impl_MakerOk.calls (k : Nat) (a0_0 : Int) (a0_1 : Int) (a0_2 : Int) (a0_3 : Int) (A0_4 : Option Addr) (c0_4 : Nat) (l0_4 : List (S_Mark)) (a1 : Int) (r : Bool) (w : World) (hr0_4 : Kd.C k_Mark w A0_4 l0_4.length l0_4) (hc0_4 : l0_4.length ≤ c0_4) (h : impl_MakerOk.f k a0_0 a0_1 a0_2 a0_3 l0_4 a1 = some r) :
 Calls Try.prog 60 #[.agg #[.int .i64 a0_0, .int .i64 a0_1, .int .i64 a0_2, .int .i64 a0_3, .slice A0_4 l0_4.length c0_4], .int .i64 a1] w fun e w' => e = .returned (.bool r) ∧ Below w.heap.size w w' := by
 have hu54 := Try.underlying54
 have hu118 := Try.underlying118
 have HR0_4 := Aside0.mk hr0_4
 have HC0_4 := Aside0.mk hc0_4
 clear hr0_4 hc0_4
 have HB := Aside0.mk (Below.refl w.heap.size w)
 have H : ((impl_within.f a0_0 0 3).bind fun t1370 => (if t1370 = true then ((impl_within.f a0_1 0 3).bind fun t1371 => (if t1371 = true then ((impl_within.f a0_2 0 100000).bind fun t1372 => (if t1372 = true then ((impl_within.f a0_3 (-1) 100000).bind fun t1373 => (if t1373 = true then (if (l0_4.length : Int) > a1 then (impl_MakerOk.j0 k true a0_0 a0_1 a0_2 a0_3 l0_4) else (impl_MakerOk.j0 k ((a0_3 == (-1)) != ((l0_4.length : Int) == 0)) a0_0 a0_1 a0_2 a0_3 l0_4)) else (impl_MakerOk.j0 k true a0_0 a0_1 a0_2 a0_3 l0_4))) else (impl_MakerOk.j0 k true a0_0 a0_1 a0_2 a0_3 l0_4))) else (impl_MakerOk.j0 k true a0_0 a0_1 a0_2 a0_3 l0_4))) else (impl_MakerOk.j0 k true a0_0 a0_1 a0_2 a0_3 l0_4))) = some r := h
 clear h
 have HC3 := Aside0.mk H
 clear H
 go_enter Try.func60, Try.ntmps60
 go_upto_region 1 with (first | ((with_reducible refine gate_dst (N := 2) rfl ?_); (try (refine gate_guard (by rfl) ?_; dsimp only)); refine box_event ?hg (N := 2) ?hd (cs := #[.int .i64 a0_0, .int .i64 a0_1, .int .i64 a0_2, .int .i64 a0_3, .slice A0_4 l0_4.length c0_4]) (t := 54) ?hr ?_; (case hd => rfl); (case hg => rfl); (case hr => first | (go_simp; done) | (go_simp; rfl)); intro gb1369 hg w4 hbox hb; have n0_ := Aside0.mk (below_step (hb_ HB.out) hb); have n1_ := Aside0.mk (hbox); have n2_ := Aside0.mk ((by rw [hg]; exact (below_size (hb_ HB.out)) : w.heap.size ≤ gb1369)); have n3_ := Aside0.mk ((by rw [hg]; exact (below_size (hb_ HB.out)) : w.heap.size ≤ gb1369)); clear HB; have HB := n0_; have BK1369 := n1_; have GW1369 := n2_; have GE1369 := n3_; clear n0_ n1_ n2_ n3_; clear hb hbox hg))
 (try simp only [Act.put, List.setIfInBounds_toArray, List.set_cons_zero, List.set_cons_succ])
 go_cut [45] (fun v45 wc => ∃ (kq : Nat) (x45_2 : Bool), v45 = .bool x45_2 ∧ Aside0 (impl_MakerOk.j0 kq x45_2 a0_0 a0_1 a0_2 a0_3 l0_4 = some r) ∧ Aside0 (kq ≤ k) ∧ Aside0 (wc.heap[gb1369]? = some (.cells #[.int .i64 a0_0, .int .i64 a0_1, .int .i64 a0_2, .int .i64 a0_3, (.slice A0_4 l0_4.length c0_4)] 54 (0, 0))) ∧ Aside0 (Below w.heap.size w wc))
 case first =>
  have H := HC3.out
  clear HC3
  replace H := Option.bind_eq_some_iff.mp H
  obtain ⟨t1370, A50, H⟩ := H
  replace H : (if t1370 = true then ((impl_within.f a0_1 0 3).bind fun t1371 => (if t1371 = true then ((impl_within.f a0_2 0 100000).bind fun t1372 => (if t1372 = true then ((impl_within.f a0_3 (-1) 100000).bind fun t1373 => (if t1373 = true then (if (l0_4.length : Int) > a1 then (impl_MakerOk.j0 k true a0_0 a0_1 a0_2 a0_3 l0_4) else (impl_MakerOk.j0 k ((a0_3 == (-1)) != ((l0_4.length : Int) == 0)) a0_0 a0_1 a0_2 a0_3 l0_4)) else (impl_MakerOk.j0 k true a0_0 a0_1 a0_2 a0_3 l0_4))) else (impl_MakerOk.j0 k true a0_0 a0_1 a0_2 a0_3 l0_4))) else (impl_MakerOk.j0 k true a0_0 a0_1 a0_2 a0_3 l0_4))) else (impl_MakerOk.j0 k true a0_0 a0_1 a0_2 a0_3 l0_4)) = some r := H
  have A5 := Aside0.mk A50
  clear A50
  by_cases c6 : t1370 = true
  ·
   subst c6
   have H1 : ((impl_within.f a0_1 0 3).bind fun t1371 => (if t1371 = true then ((impl_within.f a0_2 0 100000).bind fun t1372 => (if t1372 = true then ((impl_within.f a0_3 (-1) 100000).bind fun t1373 => (if t1373 = true then (if (l0_4.length : Int) > a1 then (impl_MakerOk.j0 k true a0_0 a0_1 a0_2 a0_3 l0_4) else (impl_MakerOk.j0 k ((a0_3 == (-1)) != ((l0_4.length : Int) == 0)) a0_0 a0_1 a0_2 a0_3 l0_4)) else (impl_MakerOk.j0 k true a0_0 a0_1 a0_2 a0_3 l0_4))) else (impl_MakerOk.j0 k true a0_0 a0_1 a0_2 a0_3 l0_4))) else (impl_MakerOk.j0 k true a0_0 a0_1 a0_2 a0_3 l0_4))) = some r := by rw [if_pos rfl] at H; exact H
   clear H
   have H := H1
   clear H1
   replace H := Option.bind_eq_some_iff.mp H
   obtain ⟨t1371, A70, H⟩ := H
   replace H : (if t1371 = true then ((impl_within.f a0_2 0 100000).bind fun t1372 => (if t1372 = true then ((impl_within.f a0_3 (-1) 100000).bind fun t1373 => (if t1373 = true then (if (l0_4.length : Int) > a1 then (impl_MakerOk.j0 k true a0_0 a0_1 a0_2 a0_3 l0_4) else (impl_MakerOk.j0 k ((a0_3 == (-1)) != ((l0_4.length : Int) == 0)) a0_0 a0_1 a0_2 a0_3 l0_4)) else (impl_MakerOk.j0 k true a0_0 a0_1 a0_2 a0_3 l0_4))) else (impl_MakerOk.j0 k true a0_0 a0_1 a0_2 a0_3 l0_4))) else (impl_MakerOk.j0 k true a0_0 a0_1 a0_2 a0_3 l0_4)) = some r := H
   have A7 := Aside0.mk A70
   clear A70
   by_cases c8 : t1371 = true
   ·
    subst c8
    have H1 : ((impl_within.f a0_2 0 100000).bind fun t1372 => (if t1372 = true then ((impl_within.f a0_3 (-1) 100000).bind fun t1373 => (if t1373 = true then (if (l0_4.length : Int) > a1 then (impl_MakerOk.j0 k true a0_0 a0_1 a0_2 a0_3 l0_4) else (impl_MakerOk.j0 k ((a0_3 == (-1)) != ((l0_4.length : Int) == 0)) a0_0 a0_1 a0_2 a0_3 l0_4)) else (impl_MakerOk.j0 k true a0_0 a0_1 a0_2 a0_3 l0_4))) else (impl_MakerOk.j0 k true a0_0 a0_1 a0_2 a0_3 l0_4))) = some r := by rw [if_pos rfl] at H; exact H
    clear H
    have H := H1
    clear H1
    replace H := Option.bind_eq_some_iff.mp H
    obtain ⟨t1372, A90, H⟩ := H
    replace H : (if t1372 = true then ((impl_within.f a0_3 (-1) 100000).bind fun t1373 => (if t1373 = true then (if (l0_4.length : Int) > a1 then (impl_MakerOk.j0 k true a0_0 a0_1 a0_2 a0_3 l0_4) else (impl_MakerOk.j0 k ((a0_3 == (-1)) != ((l0_4.length : Int) == 0)) a0_0 a0_1 a0_2 a0_3 l0_4)) else (impl_MakerOk.j0 k true a0_0 a0_1 a0_2 a0_3 l0_4))) else (impl_MakerOk.j0 k true a0_0 a0_1 a0_2 a0_3 l0_4)) = some r := H
    have A9 := Aside0.mk A90
    clear A90
    by_cases c10 : t1372 = true
    ·
     subst c10
     have H1 : ((impl_within.f a0_3 (-1) 100000).bind fun t1373 => (if t1373 = true then (if (l0_4.length : Int) > a1 then (impl_MakerOk.j0 k true a0_0 a0_1 a0_2 a0_3 l0_4) else (impl_MakerOk.j0 k ((a0_3 == (-1)) != ((l0_4.length : Int) == 0)) a0_0 a0_1 a0_2 a0_3 l0_4)) else (impl_MakerOk.j0 k true a0_0 a0_1 a0_2 a0_3 l0_4))) = some r := by rw [if_pos rfl] at H; exact H
     clear H
     have H := H1
     clear H1
     replace H := Option.bind_eq_some_iff.mp H
     obtain ⟨t1373, A110, H⟩ := H
     replace H : (if t1373 = true then (if (l0_4.length : Int) > a1 then (impl_MakerOk.j0 k true a0_0 a0_1 a0_2 a0_3 l0_4) else (impl_MakerOk.j0 k ((a0_3 == (-1)) != ((l0_4.length : Int) == 0)) a0_0 a0_1 a0_2 a0_3 l0_4)) else (impl_MakerOk.j0 k true a0_0 a0_1 a0_2 a0_3 l0_4)) = some r := H
     have A11 := Aside0.mk A110
     clear A110
     by_cases c12 : t1373 = true
     ·
      subst c12
      have H1 : (if (l0_4.length : Int) > a1 then (impl_MakerOk.j0 k true a0_0 a0_1 a0_2 a0_3 l0_4) else (impl_MakerOk.j0 k ((a0_3 == (-1)) != ((l0_4.length : Int) == 0)) a0_0 a0_1 a0_2 a0_3 l0_4)) = some r := by rw [if_pos rfl] at H; exact H
      clear H
      have H := H1
      clear H1
      by_cases c13 : (l0_4.length : Int) > a1
      ·
       rw [if_pos c13] at H
       have c13b0 : decide (a1 < (l0_4.length : Int)) = true := decide_eq_true c13
       clear c13
       (first | rw [c13b0] | (simp only [i64_w, i32_w]; rw [c13b0]) | rw [c13b4] | rw [c13b3] | skip)
       have H' := Aside0.mk H
       clear H
       have hcz14_0 : w4.cell? ⟨gb1369, 0, none⟩ = some (.int .i64 a0_0) := (blk_cell BK1369.out 0).trans rfl
       have hcz14_1 : w4.cell? ⟨gb1369, 1, none⟩ = some (.int .i64 a0_1) := (blk_cell BK1369.out 1).trans rfl
       have hcz14_2 : w4.cell? ⟨gb1369, 2, none⟩ = some (.int .i64 a0_2) := (blk_cell BK1369.out 2).trans rfl
       have hcz14_3 : w4.cell? ⟨gb1369, 3, none⟩ = some (.int .i64 a0_3) := (blk_cell BK1369.out 3).trans rfl
       have hcz14_4 : w4.cell? ⟨gb1369, 4, none⟩ = some (.slice A0_4 l0_4.length c0_4) := (blk_cell BK1369.out 4).trans rfl
       have hfz14_0 := blk_frozen BK1369.out 0
       have hfz14_1 := blk_frozen BK1369.out 1
       have hfz14_2 := blk_frozen BK1369.out 2
       have hfz14_3 := blk_frozen BK1369.out 3
       have hfz14_4 := blk_frozen BK1369.out 4
       go_wp2_with (first | ((with_reducible refine gate_callee (f := 80) rfl ?_); refine goesL_ (some 9) rfl rfl Try.func80 (by kernel_rfl) rfl #[.int .i64 a0_0, .int .i64 0, .int .i64 3] rfl sm_ ?_; (with_reducible refine (impl_within.calls a0_0 0 3 true _ A5.out).mono ?_); rintro e w' ⟨rfl, ⟨nd, rfl⟩⟩; refine ⟨_, rfl, ?_⟩) | (go_at_call 80; (with_reducible refine (impl_within.calls a0_1 0 3 true _ A7.out).mono ?_); rintro e w' ⟨rfl, ⟨nd, rfl⟩⟩) | (go_at_call 80; (with_reducible refine (impl_within.calls a0_2 0 100000 true _ A9.out).mono ?_); rintro e w' ⟨rfl, ⟨nd, rfl⟩⟩) | (go_at_call 80; (with_reducible refine (impl_within.calls a0_3 (-1) 100000 true _ A11.out).mono ?_); rintro e w' ⟨rfl, ⟨nd, rfl⟩⟩))
       go_meet
       case rel => exact ⟨_, (true), (by first | rfl | (simp; done) | (simp [*]; done)), H', ⟨by first | omega | exact Nat.le_refl _⟩, ⟨bq_ BK1369.out⟩, ⟨hb_ HB.out⟩⟩
      ·
       rw [if_neg c13] at H
       have c13b0 : decide (a1 < (l0_4.length : Int)) = false := decide_eq_false c13
       clear c13
       (first | rw [c13b0] | (simp only [i64_w, i32_w]; rw [c13b0]) | rw [c13b4] | rw [c13b3] | skip)
       have H' := Aside0.mk H
       clear H
       have hcz15_0 : w4.cell? ⟨gb1369, 0, none⟩ = some (.int .i64 a0_0) := (blk_cell BK1369.out 0).trans rfl
       have hcz15_1 : w4.cell? ⟨gb1369, 1, none⟩ = some (.int .i64 a0_1) := (blk_cell BK1369.out 1).trans rfl
       have hcz15_2 : w4.cell? ⟨gb1369, 2, none⟩ = some (.int .i64 a0_2) := (blk_cell BK1369.out 2).trans rfl
       have hcz15_3 : w4.cell? ⟨gb1369, 3, none⟩ = some (.int .i64 a0_3) := (blk_cell BK1369.out 3).trans rfl
       have hcz15_4 : w4.cell? ⟨gb1369, 4, none⟩ = some (.slice A0_4 l0_4.length c0_4) := (blk_cell BK1369.out 4).trans rfl
       have hfz15_0 := blk_frozen BK1369.out 0
       have hfz15_1 := blk_frozen BK1369.out 1
       have hfz15_2 := blk_frozen BK1369.out 2
       have hfz15_3 := blk_frozen BK1369.out 3
       have hfz15_4 := blk_frozen BK1369.out 4
       go_wp2_with (first | ((with_reducible refine gate_callee (f := 80) rfl ?_); refine goesL_ (some 9) rfl rfl Try.func80 (by kernel_rfl) rfl #[.int .i64 a0_0, .int .i64 0, .int .i64 3] rfl sm_ ?_; (with_reducible refine (impl_within.calls a0_0 0 3 true _ A5.out).mono ?_); rintro e w' ⟨rfl, ⟨nd, rfl⟩⟩; refine ⟨_, rfl, ?_⟩) | (go_at_call 80; (with_reducible refine (impl_within.calls a0_1 0 3 true _ A7.out).mono ?_); rintro e w' ⟨rfl, ⟨nd, rfl⟩⟩) | (go_at_call 80; (with_reducible refine (impl_within.calls a0_2 0 100000 true _ A9.out).mono ?_); rintro e w' ⟨rfl, ⟨nd, rfl⟩⟩) | (go_at_call 80; (with_reducible refine (impl_within.calls a0_3 (-1) 100000 true _ A11.out).mono ?_); rintro e w' ⟨rfl, ⟨nd, rfl⟩⟩))
       go_meet
       case rel => exact ⟨_, (((a0_3 == (-1)) != ((l0_4.length : Int) == 0))), (by first | rfl | (simp; done) | (simp [*]; done)), H', ⟨by first | omega | exact Nat.le_refl _⟩, ⟨bq_ BK1369.out⟩, ⟨hb_ HB.out⟩⟩
     ·
      replace c12 := Bool.eq_false_iff.mpr c12
      subst c12
      have H1 : (impl_MakerOk.j0 k true a0_0 a0_1 a0_2 a0_3 l0_4) = some r := by rw [if_neg (show ¬ (false = true) by decide)] at H; exact H
      clear H
      have H := H1
      clear H1
      have H' := Aside0.mk H
      clear H
      have hcz16_0 : w4.cell? ⟨gb1369, 0, none⟩ = some (.int .i64 a0_0) := (blk_cell BK1369.out 0).trans rfl
      have hcz16_1 : w4.cell? ⟨gb1369, 1, none⟩ = some (.int .i64 a0_1) := (blk_cell BK1369.out 1).trans rfl
      have hcz16_2 : w4.cell? ⟨gb1369, 2, none⟩ = some (.int .i64 a0_2) := (blk_cell BK1369.out 2).trans rfl
      have hcz16_3 : w4.cell? ⟨gb1369, 3, none⟩ = some (.int .i64 a0_3) := (blk_cell BK1369.out 3).trans rfl
      have hcz16_4 : w4.cell? ⟨gb1369, 4, none⟩ = some (.slice A0_4 l0_4.length c0_4) := (blk_cell BK1369.out 4).trans rfl
      have hfz16_0 := blk_frozen BK1369.out 0
      have hfz16_1 := blk_frozen BK1369.out 1
      have hfz16_2 := blk_frozen BK1369.out 2
      have hfz16_3 := blk_frozen BK1369.out 3
      have hfz16_4 := blk_frozen BK1369.out 4
      go_wp2_with (first | ((with_reducible refine gate_callee (f := 80) rfl ?_); refine goesL_ (some 9) rfl rfl Try.func80 (by kernel_rfl) rfl #[.int .i64 a0_0, .int .i64 0, .int .i64 3] rfl sm_ ?_; (with_reducible refine (impl_within.calls a0_0 0 3 true _ A5.out).mono ?_); rintro e w' ⟨rfl, ⟨nd, rfl⟩⟩; refine ⟨_, rfl, ?_⟩) | (go_at_call 80; (with_reducible refine (impl_within.calls a0_1 0 3 true _ A7.out).mono ?_); rintro e w' ⟨rfl, ⟨nd, rfl⟩⟩) | (go_at_call 80; (with_reducible refine (impl_within.calls a0_2 0 100000 true _ A9.out).mono ?_); rintro e w' ⟨rfl, ⟨nd, rfl⟩⟩) | (go_at_call 80; (with_reducible refine (impl_within.calls a0_3 (-1) 100000 false _ A11.out).mono ?_); rintro e w' ⟨rfl, ⟨nd, rfl⟩⟩))
      go_meet
      case rel => exact ⟨_, (true), (by first | rfl | (simp; done) | (simp [*]; done)), H', ⟨by first | omega | exact Nat.le_refl _⟩, ⟨bq_ BK1369.out⟩, ⟨hb_ HB.out⟩⟩
    ·
     replace c10 := Bool.eq_false_iff.mpr c10
     subst c10
     have H1 : (impl_MakerOk.j0 k true a0_0 a0_1 a0_2 a0_3 l0_4) = some r := by rw [if_neg (show ¬ (false = true) by decide)] at H; exact H
     clear H
     have H := H1
     clear H1
     have H' := Aside0.mk H
     clear H
     have hcz17_0 : w4.cell? ⟨gb1369, 0, none⟩ = some (.int .i64 a0_0) := (blk_cell BK1369.out 0).trans rfl
     have hcz17_1 : w4.cell? ⟨gb1369, 1, none⟩ = some (.int .i64 a0_1) := (blk_cell BK1369.out 1).trans rfl
     have hcz17_2 : w4.cell? ⟨gb1369, 2, none⟩ = some (.int .i64 a0_2) := (blk_cell BK1369.out 2).trans rfl
     have hcz17_3 : w4.cell? ⟨gb1369, 3, none⟩ = some (.int .i64 a0_3) := (blk_cell BK1369.out 3).trans rfl
     have hcz17_4 : w4.cell? ⟨gb1369, 4, none⟩ = some (.slice A0_4 l0_4.length c0_4) := (blk_cell BK1369.out 4).trans rfl
     have hfz17_0 := blk_frozen BK1369.out 0
     have hfz17_1 := blk_frozen BK1369.out 1
     have hfz17_2 := blk_frozen BK1369.out 2
     have hfz17_3 := blk_frozen BK1369.out 3
     have hfz17_4 := blk_frozen BK1369.out 4
     go_wp2_with (first | ((with_reducible refine gate_callee (f := 80) rfl ?_); refine goesL_ (some 9) rfl rfl Try.func80 (by kernel_rfl) rfl #[.int .i64 a0_0, .int .i64 0, .int .i64 3] rfl sm_ ?_; (with_reducible refine (impl_within.calls a0_0 0 3 true _ A5.out).mono ?_); rintro e w' ⟨rfl, ⟨nd, rfl⟩⟩; refine ⟨_, rfl, ?_⟩) | (go_at_call 80; (with_reducible refine (impl_within.calls a0_1 0 3 true _ A7.out).mono ?_); rintro e w' ⟨rfl, ⟨nd, rfl⟩⟩) | (go_at_call 80; (with_reducible refine (impl_within.calls a0_2 0 100000 false _ A9.out).mono ?_); rintro e w' ⟨rfl, ⟨nd, rfl⟩⟩))
     go_meet
     case rel => exact ⟨_, (true), (by first | rfl | (simp; done) | (simp [*]; done)), H', ⟨by first | omega | exact Nat.le_refl _⟩, ⟨bq_ BK1369.out⟩, ⟨hb_ HB.out⟩⟩
   ·
    replace c8 := Bool.eq_false_iff.mpr c8
    subst c8
    have H1 : (impl_MakerOk.j0 k true a0_0 a0_1 a0_2 a0_3 l0_4) = some r := by rw [if_neg (show ¬ (false = true) by decide)] at H; exact H
    clear H
    have H := H1
    clear H1
    have H' := Aside0.mk H
    clear H
    have hcz18_0 : w4.cell? ⟨gb1369, 0, none⟩ = some (.int .i64 a0_0) := (blk_cell BK1369.out 0).trans rfl
    have hcz18_1 : w4.cell? ⟨gb1369, 1, none⟩ = some (.int .i64 a0_1) := (blk_cell BK1369.out 1).trans rfl
    have hcz18_2 : w4.cell? ⟨gb1369, 2, none⟩ = some (.int .i64 a0_2) := (blk_cell BK1369.out 2).trans rfl
    have hcz18_3 : w4.cell? ⟨gb1369, 3, none⟩ = some (.int .i64 a0_3) := (blk_cell BK1369.out 3).trans rfl
    have hcz18_4 : w4.cell? ⟨gb1369, 4, none⟩ = some (.slice A0_4 l0_4.length c0_4) := (blk_cell BK1369.out 4).trans rfl
    have hfz18_0 := blk_frozen BK1369.out 0
    have hfz18_1 := blk_frozen BK1369.out 1
    have hfz18_2 := blk_frozen BK1369.out 2
    have hfz18_3 := blk_frozen BK1369.out 3
    have hfz18_4 := blk_frozen BK1369.out 4
    go_wp2_with (first | ((with_reducible refine gate_callee (f := 80) rfl ?_); refine goesL_ (some 9) rfl rfl Try.func80 (by kernel_rfl) rfl #[.int .i64 a0_0, .int .i64 0, .int .i64 3] rfl sm_ ?_; (with_reducible refine (impl_within.calls a0_0 0 3 true _ A5.out).mono ?_); rintro e w' ⟨rfl, ⟨nd, rfl⟩⟩; refine ⟨_, rfl, ?_⟩) | (go_at_call 80; (with_reducible refine (impl_within.calls a0_1 0 3 false _ A7.out).mono ?_); rintro e w' ⟨rfl, ⟨nd, rfl⟩⟩))
    go_meet
    case rel => exact ⟨_, (true), (by first | rfl | (simp; done) | (simp [*]; done)), H', ⟨by first | omega | exact Nat.le_refl _⟩, ⟨bq_ BK1369.out⟩, ⟨hb_ HB.out⟩⟩
  ·
   replace c6 := Bool.eq_false_iff.mpr c6
   subst c6
   have H1 : (impl_MakerOk.j0 k true a0_0 a0_1 a0_2 a0_3 l0_4) = some r := by rw [if_neg (show ¬ (false = true) by decide)] at H; exact H
   clear H
   have H := H1
   clear H1
   have H' := Aside0.mk H
   clear H
   have hcz19_0 : w4.cell? ⟨gb1369, 0, none⟩ = some (.int .i64 a0_0) := (blk_cell BK1369.out 0).trans rfl
   have hcz19_1 : w4.cell? ⟨gb1369, 1, none⟩ = some (.int .i64 a0_1) := (blk_cell BK1369.out 1).trans rfl
   have hcz19_2 : w4.cell? ⟨gb1369, 2, none⟩ = some (.int .i64 a0_2) := (blk_cell BK1369.out 2).trans rfl
   have hcz19_3 : w4.cell? ⟨gb1369, 3, none⟩ = some (.int .i64 a0_3) := (blk_cell BK1369.out 3).trans rfl
   have hcz19_4 : w4.cell? ⟨gb1369, 4, none⟩ = some (.slice A0_4 l0_4.length c0_4) := (blk_cell BK1369.out 4).trans rfl
   have hfz19_0 := blk_frozen BK1369.out 0
   have hfz19_1 := blk_frozen BK1369.out 1
   have hfz19_2 := blk_frozen BK1369.out 2
   have hfz19_3 := blk_frozen BK1369.out 3
   have hfz19_4 := blk_frozen BK1369.out 4
   go_wp2_with (first | ((with_reducible refine gate_callee (f := 80) rfl ?_); refine goesL_ (some 9) rfl rfl Try.func80 (by kernel_rfl) rfl #[.int .i64 a0_0, .int .i64 0, .int .i64 3] rfl sm_ ?_; (with_reducible refine (impl_within.calls a0_0 0 3 false _ A5.out).mono ?_); rintro e w' ⟨rfl, ⟨nd, rfl⟩⟩; refine ⟨_, rfl, ?_⟩))
   go_meet
   case rel => exact ⟨_, (true), (by first | rfl | (simp; done) | (simp [*]; done)), H', ⟨by first | omega | exact Nat.le_refl _⟩, ⟨bq_ BK1369.out⟩, ⟨hb_ HB.out⟩⟩
 case rest =>
  clear HC3
  (try clear c1); (try clear p2); (try clear c6); (try clear c8); (try clear c10); (try clear c12); (try clear c13); (try clear c13b0); (try clear hcz14_0); (try clear hcz14_1); (try clear hcz14_2); (try clear hcz14_3); (try clear hcz14_4); (try clear hcz15_0); (try clear hcz15_1); (try clear hcz15_2); (try clear hcz15_3); (try clear hcz15_4); (try clear hcz16_0); (try clear hcz16_1); (try clear hcz16_2); (try clear hcz16_3); (try clear hcz16_4); (try clear hcz17_0); (try clear hcz17_1); (try clear hcz17_2); (try clear hcz17_3); (try clear hcz17_4); (try clear hcz18_0); (try clear hcz18_1); (try clear hcz18_2); (try clear hcz18_3); (try clear hcz18_4); (try clear hcz19_0); (try clear hcz19_1); (try clear hcz19_2); (try clear hcz19_3); (try clear hcz19_4); (try clear hfz14_0); (try clear hfz14_1); (try clear hfz14_2); (try clear hfz14_3); (try clear hfz14_4); (try clear hfz15_0); (try clear hfz15_1); (try clear hfz15_2); (try clear hfz15_3); (try clear hfz15_4); (try clear hfz16_0); (try clear hfz16_1); (try clear hfz16_2); (try clear hfz16_3); (try clear hfz16_4); (try clear hfz17_0); (try clear hfz17_1); (try clear hfz17_2); (try clear hfz17_3); (try clear hfz17_4); (try clear hfz18_0); (try clear hfz18_1); (try clear hfz18_2); (try clear hfz18_3); (try clear hfz18_4); (try clear hfz19_0); (try clear hfz19_1); (try clear hfz19_2); (try clear hfz19_3); (try clear hfz19_4)
  obtain ⟨kq, x45_2, rfl, HA, HJ2, BK1369, HB⟩ := hcut
  cases kq with
  | zero => exact absurd HA.out (by simp [impl_MakerOk.j0])
  | succ kj2 =>
   have H := HA.out
   clear HA
   simp only [impl_MakerOk.j0] at H
   have HC20 := Aside0.mk H
   clear H
   go_upto_if 45 with (fail)
   go_cut [] (fun wc => ∃ (kq : Nat), Aside0 (impl_MakerOk.j1 kq a0_0 a0_1 a0_2 a0_3 l0_4 = some r) ∧ Aside0 (kq ≤ kj2) ∧ Aside0 (wc.heap[gb1369]? = some (.cells #[.int .i64 a0_0, .int .i64 a0_1, .int .i64 a0_2, .int .i64 a0_3, (.slice A0_4 l0_4.length c0_4)] 54 (0, 0))) ∧ Aside0 (Below w.heap.size w wc))
   case first =>
    have H := HC20.out
    clear HC20
    by_cases c21 : x45_2 = true
    ·
     subst c21
     have H1 : (some false) = some r := by rw [if_pos rfl] at H; exact H
     clear H
     have H := H1
     clear H1
     obtain rfl := Option.some.inj H
     go_wp2
     go_ret
     exact ⟨er_, hb_ HB.out⟩
    ·
     replace c21 := Bool.eq_false_iff.mpr c21
     subst c21
     have H1 : (impl_MakerOk.j1 kj2 a0_0 a0_1 a0_2 a0_3 l0_4) = some r := by rw [if_neg (show ¬ (false = true) by decide)] at H; exact H
     clear H
     have H := H1
     clear H1
     have H' := Aside0.mk H
     clear H
     go_wp2
     go_meet
     case rel => exact ⟨_, H', ⟨by have := HJ2.out; first | omega | exact Nat.le_refl _⟩, ⟨bq_ BK1369.out⟩, ⟨hb_ HB.out⟩⟩
   case rest =>
    clear HC20
    (try clear c1); (try clear c2); (try clear p2); (try clear c6); (try clear c8); (try clear c10); (try clear c12); (try clear c13); (try clear c13b0); (try clear c21); (try clear hcz14_0); (try clear hcz14_1); (try clear hcz14_2); (try clear hcz14_3); (try clear hcz14_4); (try clear hcz15_0); (try clear hcz15_1); (try clear hcz15_2); (try clear hcz15_3); (try clear hcz15_4); (try clear hcz16_0); (try clear hcz16_1); (try clear hcz16_2); (try clear hcz16_3); (try clear hcz16_4); (try clear hcz17_0); (try clear hcz17_1); (try clear hcz17_2); (try clear hcz17_3); (try clear hcz17_4); (try clear hcz18_0); (try clear hcz18_1); (try clear hcz18_2); (try clear hcz18_3); (try clear hcz18_4); (try clear hcz19_0); (try clear hcz19_1); (try clear hcz19_2); (try clear hcz19_3); (try clear hcz19_4); (try clear hfz14_0); (try clear hfz14_1); (try clear hfz14_2); (try clear hfz14_3); (try clear hfz14_4); (try clear hfz15_0); (try clear hfz15_1); (try clear hfz15_2); (try clear hfz15_3); (try clear hfz15_4); (try clear hfz16_0); (try clear hfz16_1); (try clear hfz16_2); (try clear hfz16_3); (try clear hfz16_4); (try clear hfz17_0); (try clear hfz17_1); (try clear hfz17_2); (try clear hfz17_3); (try clear hfz17_4); (try clear hfz18_0); (try clear hfz18_1); (try clear hfz18_2); (try clear hfz18_3); (try clear hfz18_4); (try clear hfz19_0); (try clear hfz19_1); (try clear hfz19_2); (try clear hfz19_3); (try clear hfz19_4); (try clear p2)
    obtain ⟨kq, HA, HJ19, BK1369, HB⟩ := hcut
    cases kq with
    | zero => exact absurd HA.out (by simp [impl_MakerOk.j1])
    | succ kj19 =>
     have H := HA.out
     clear HA
     simp only [impl_MakerOk.j1] at H
     have H' := Aside0.mk H
     clear H
     have hcz22_0 : wc.cell? ⟨gb1369, 0, none⟩ = some (.int .i64 a0_0) := (blk_cell BK1369.out 0).trans rfl
     have hcz22_1 : wc.cell? ⟨gb1369, 1, none⟩ = some (.int .i64 a0_1) := (blk_cell BK1369.out 1).trans rfl
     have hcz22_2 : wc.cell? ⟨gb1369, 2, none⟩ = some (.int .i64 a0_2) := (blk_cell BK1369.out 2).trans rfl
     have hcz22_3 : wc.cell? ⟨gb1369, 3, none⟩ = some (.int .i64 a0_3) := (blk_cell BK1369.out 3).trans rfl
     have hcz22_4 : wc.cell? ⟨gb1369, 4, none⟩ = some (.slice A0_4 l0_4.length c0_4) := (blk_cell BK1369.out 4).trans rfl
     have hfz22_0 := blk_frozen BK1369.out 0
     have hfz22_1 := blk_frozen BK1369.out 1
     have hfz22_2 := blk_frozen BK1369.out 2
     have hfz22_3 := blk_frozen BK1369.out 3
     have hfz22_4 := blk_frozen BK1369.out 4
     go_wp2
     go_loopg [49] kj19 (fun kq v49 w' => ∃ (x49_3 : Int), v49 = .int .i64 x49_3 ∧ Aside0 (impl_MakerOk.l0 kq l0_4 (l0_4.length : Int) x49_3 a0_0 a0_1 a0_2 a0_3 l0_4 = some r) ∧ Aside0 (kq ≤ kj19) ∧ Aside0 (w'.heap[gb1369]? = some (.cells #[.int .i64 a0_0, .int .i64 a0_1, .int .i64 a0_2, .int .i64 a0_3, (.slice A0_4 l0_4.length c0_4)] 54 (0, 0))) ∧ Aside0 (Below w.heap.size w w'))
     case atStart => exact ⟨(0), (by first | rfl | (simp; done) | (simp [*]; done)), H', ⟨Nat.le_refl _⟩, ⟨bq_ BK1369.out⟩, ⟨hb_ HB.out⟩⟩
     case round =>
      clear H'
      (try clear c1); (try clear c2); (try clear p2); (try clear c6); (try clear c8); (try clear c10); (try clear c12); (try clear c13); (try clear c13b0); (try clear c21); (try clear hcz14_0); (try clear hcz14_1); (try clear hcz14_2); (try clear hcz14_3); (try clear hcz14_4); (try clear hcz15_0); (try clear hcz15_1); (try clear hcz15_2); (try clear hcz15_3); (try clear hcz15_4); (try clear hcz16_0); (try clear hcz16_1); (try clear hcz16_2); (try clear hcz16_3); (try clear hcz16_4); (try clear hcz17_0); (try clear hcz17_1); (try clear hcz17_2); (try clear hcz17_3); (try clear hcz17_4); (try clear hcz18_0); (try clear hcz18_1); (try clear hcz18_2); (try clear hcz18_3); (try clear hcz18_4); (try clear hcz19_0); (try clear hcz19_1); (try clear hcz19_2); (try clear hcz19_3); (try clear hcz19_4); (try clear hcz22_0); (try clear hcz22_1); (try clear hcz22_2); (try clear hcz22_3); (try clear hcz22_4); (try clear hfz14_0); (try clear hfz14_1); (try clear hfz14_2); (try clear hfz14_3); (try clear hfz14_4); (try clear hfz15_0); (try clear hfz15_1); (try clear hfz15_2); (try clear hfz15_3); (try clear hfz15_4); (try clear hfz16_0); (try clear hfz16_1); (try clear hfz16_2); (try clear hfz16_3); (try clear hfz16_4); (try clear hfz17_0); (try clear hfz17_1); (try clear hfz17_2); (try clear hfz17_3); (try clear hfz17_4); (try clear hfz18_0); (try clear hfz18_1); (try clear hfz18_2); (try clear hfz18_3); (try clear hfz18_4); (try clear hfz19_0); (try clear hfz19_1); (try clear hfz19_2); (try clear hfz19_3); (try clear hfz19_4); (try clear hfz22_0); (try clear hfz22_1); (try clear hfz22_2); (try clear hfz22_3); (try clear hfz22_4); (try clear p2)
      obtain ⟨x49_3, rfl, HA, HK3, BK1369, HB⟩ := hrel
      cases gk with
      | zero => exact absurd HA.out (by simp [impl_MakerOk.l0])
      | succ k3 =>
       have H := HA.out
       clear HA
       simp only [impl_MakerOk.l0] at H
       have HC23 := Aside0.mk H
       clear H
       go_upto_if 50 with (fail)
       go_cut [] (fun wc => ∃ (kq : Nat), Aside0 (impl_MakerOk.j3 kq l0_4 (l0_4.length : Int) x49_3 a0_0 a0_1 a0_2 a0_3 l0_4 = some r) ∧ Aside0 (kq ≤ k3) ∧ Aside0 (wc.heap[gb1369]? = some (.cells #[.int .i64 a0_0, .int .i64 a0_1, .int .i64 a0_2, .int .i64 a0_3, (.slice A0_4 l0_4.length c0_4)] 54 (0, 0))) ∧ Aside0 (Below w.heap.size w wc))
       case first =>
        have H := HC23.out
        clear HC23
        by_cases c24 : x49_3 < (l0_4.length : Int)
        ·
         rw [if_pos c24] at H
         have c24b0 : decide (x49_3 < (l0_4.length : Int)) = true := decide_eq_true c24
         clear c24
         (first | rw [c24b0] | (simp only [i64_w, i32_w]; rw [c24b0]) | rw [c24b4] | rw [c24b3] | skip)
         have H' := Aside0.mk H
         clear H
         go_wp2
         go_meet
         case rel => exact ⟨_, H', ⟨by have := HJ2.out; have := HJ19.out; have := HK3.out; first | omega | exact Nat.le_refl _⟩, ⟨bq_ BK1369.out⟩, ⟨hb_ HB.out⟩⟩
        ·
         rw [if_neg c24] at H
         have c24b0 : decide (x49_3 < (l0_4.length : Int)) = false := decide_eq_false c24
         clear c24
         (first | rw [c24b0] | (simp only [i64_w, i32_w]; rw [c24b0]) | rw [c24b4] | rw [c24b3] | skip)
         obtain rfl := Option.some.inj H
         go_wp2
         go_ret
         exact ⟨er_, hb_ HB.out⟩
       case rest =>
        clear HC23
        (try clear c1); (try clear c2); (try clear p2); (try clear c6); (try clear c8); (try clear c10); (try clear c12); (try clear c13); (try clear c13b0); (try clear c21); (try clear c24); (try clear c24b0); (try clear hcz14_0); (try clear hcz14_1); (try clear hcz14_2); (try clear hcz14_3); (try clear hcz14_4); (try clear hcz15_0); (try clear hcz15_1); (try clear hcz15_2); (try clear hcz15_3); (try clear hcz15_4); (try clear hcz16_0); (try clear hcz16_1); (try clear hcz16_2); (try clear hcz16_3); (try clear hcz16_4); (try clear hcz17_0); (try clear hcz17_1); (try clear hcz17_2); (try clear hcz17_3); (try clear hcz17_4); (try clear hcz18_0); (try clear hcz18_1); (try clear hcz18_2); (try clear hcz18_3); (try clear hcz18_4); (try clear hcz19_0); (try clear hcz19_1); (try clear hcz19_2); (try clear hcz19_3); (try clear hcz19_4); (try clear hcz22_0); (try clear hcz22_1); (try clear hcz22_2); (try clear hcz22_3); (try clear hcz22_4); (try clear hfz14_0); (try clear hfz14_1); (try clear hfz14_2); (try clear hfz14_3); (try clear hfz14_4); (try clear hfz15_0); (try clear hfz15_1); (try clear hfz15_2); (try clear hfz15_3); (try clear hfz15_4); (try clear hfz16_0); (try clear hfz16_1); (try clear hfz16_2); (try clear hfz16_3); (try clear hfz16_4); (try clear hfz17_0); (try clear hfz17_1); (try clear hfz17_2); (try clear hfz17_3); (try clear hfz17_4); (try clear hfz18_0); (try clear hfz18_1); (try clear hfz18_2); (try clear hfz18_3); (try clear hfz18_4); (try clear hfz19_0); (try clear hfz19_1); (try clear hfz19_2); (try clear hfz19_3); (try clear hfz19_4); (try clear hfz22_0); (try clear hfz22_1); (try clear hfz22_2); (try clear hfz22_3); (try clear hfz22_4); (try clear p2)
        obtain ⟨kq, HA, HJ22, BK1369, HB⟩ := hcut
        cases kq with
        | zero => exact absurd HA.out (by simp [impl_MakerOk.j3])
        | succ kj22 =>
         have H := HA.out
         clear HA
         simp only [impl_MakerOk.j3] at H
         by_cases c25 : 0 ≤ x49_3
         ·
          rw [if_pos c25] at H
          have c25b0 : decide (0 ≤ x49_3) = true := decide_eq_true c25
          clear c25
          by_cases c26 : x49_3 < (l0_4.length : Int)
          ·
           rw [if_pos c26] at H
           have c26b0 : decide (x49_3 < (l0_4.length : Int)) = true := decide_eq_true c26
           clear c26
           have HC27 := Aside0.mk H
           clear H
           have p1374 : 0 ≤ (x49_3 : Int) := of_decide_eq_true (by first | (with_reducible assumption) | assumption)
           have q1374 : x49_3 < (l0_4.length : Int) := of_decide_eq_true (by first | (with_reducible assumption) | assumption)
           obtain ⟨ad1374, e1374, hx1374_0, hx1374_1⟩ := at_Mark HR0_4.out x49_3 p1374 q1374
           cases e1374
           replace hx1374_0 := (HB.out.cell (World.block_lt_of_cell? w _ hx1374_0)).trans hx1374_0
           replace hx1374_1 := (HB.out.cell (World.block_lt_of_cell? w _ hx1374_1)).trans hx1374_1
           replace p1374 := eq_true p1374
           replace q1374 := eq_true q1374
           go_upto_region 6 with (first | ((with_reducible refine gate_dst (N := 6) rfl ?_); (try (refine gate_guard (by rfl) ?_; dsimp only)); refine box_event ?hg (N := 6) ?hd (cs := #[.int .i64 0, .int .i64 0]) (t := 118) ?hr ?_; (case hd => rfl); (case hg => rfl); (case hr => first | (go_simp; done) | (go_simp; rfl)); intro gb1375 hg w28 hbox hb; have n0_ := Aside0.mk (bb_ BK1369.out hb); have n1_ := Aside0.mk (below_step (hb_ HB.out) hb); have n2_ := Aside0.mk (hbox); have n3_ := Aside0.mk ((by rw [hg]; exact (below_size (hb_ HB.out)) : w.heap.size ≤ gb1375)); have n4_ := Aside0.mk ((by rw [hg]; exact (below_size (hb_ HB.out)) : w.heap.size ≤ gb1375)); have n5_ := Aside0.mk ((nl_ BK1369.out hg : gb1369 ≠ gb1375)); have n6_ := Aside0.mk ((ng_ BK1369.out hg : gb1375 ≠ gb1369)); clear BK1369; clear HB; have BK1369 := n0_; have HB := n1_; have BK1375 := n2_; have GW1375 := n3_; have GE1375 := n4_; have NB1369_1375 := n5_; have NB1375_1369 := n6_; clear n0_ n1_ n2_ n3_ n4_ n5_ n6_; clear hb hbox hg; have hnb29 := NB1375_1369.out; have hnc29 := NB1369_1375.out; have hcz30_0 : w28.cell? ⟨gb1375, 0, none⟩ = some (.int .i64 0) := (blk_cell BK1375.out 0).trans rfl; have hcz30_1 : w28.cell? ⟨gb1375, 1, none⟩ = some (.int .i64 0) := (blk_cell BK1375.out 1).trans rfl; have hfz30_0 := blk_frozen BK1375.out 0; have hfz30_1 := blk_frozen BK1375.out 1))
           (try simp only [Act.put, List.setIfInBounds_toArray, List.set_cons_zero, List.set_cons_succ])
           go_cut [87] (fun v87 wc => ∃ (kq : Nat) (x87_26 : Bool), v87 = .bool x87_26 ∧ Aside0 (impl_MakerOk.j4 kq l0_4 (l0_4.length : Int) x49_3 x87_26 a0_0 a0_1 a0_2 a0_3 l0_4 = some r) ∧ Aside0 (kq ≤ kj22) ∧ Aside0 (wc.heap[gb1369]? = some (.cells #[.int .i64 a0_0, .int .i64 a0_1, .int .i64 a0_2, .int .i64 a0_3, (.slice (some ad1374) l0_4.length c0_4)] 54 (0, 0))) ∧ Aside0 (wc.heap[gb1375]? = some (.cells #[.int .i64 ((rd_Mark l0_4 x49_3).f0), .int .i64 ((rd_Mark l0_4 x49_3).f1)] 118 (0, 0))) ∧ Aside0 (Below w.heap.size w wc))
           case first =>
            have H := HC27.out
            clear HC27
            by_cases c31 : ((rd_Mark l0_4 x49_3).f0) = (wrap64 ((wrap64 ((wrap64 (a0_3 - (l0_4.length : Int))) + 1)) + x49_3))
            ·
             rw [if_pos c31] at H
             have c31b0 : (((rd_Mark l0_4 x49_3).f0) == (wrap64 ((wrap64 ((wrap64 (a0_3 - (l0_4.length : Int))) + 1)) + x49_3))) = true := beq_iff_eq.mpr c31
             have c31b1 : (((rd_Mark l0_4 x49_3).f0) != (wrap64 ((wrap64 ((wrap64 (a0_3 - (l0_4.length : Int))) + 1)) + x49_3))) = false := bne_eq_false_iff_eq.mpr c31
             clear c31
             (first | rw [c31b0] | (simp only [i64_w, i32_w]; rw [c31b0]) | rw [c31b4] | rw [c31b3] | skip)
             replace H := Option.bind_eq_some_iff.mp H
             obtain ⟨t1376, A320, H⟩ := H
             replace H : (if t1376 = true then (if x49_3 > 0 then (if 0 ≤ (wrap64 (x49_3 - 1)) then (if (wrap64 (x49_3 - 1)) < (l0_4.length : Int) then (impl_MakerOk.j4 kj22 l0_4 (l0_4.length : Int) x49_3 (decide (((rd_Mark l0_4 (wrap64 (x49_3 - 1))).f1) ≥ ((rd_Mark l0_4 x49_3).f1))) a0_0 a0_1 a0_2 a0_3 l0_4) else (none)) else (none)) else (impl_MakerOk.j4 kj22 l0_4 (l0_4.length : Int) x49_3 false a0_0 a0_1 a0_2 a0_3 l0_4)) else (impl_MakerOk.j4 kj22 l0_4 (l0_4.length : Int) x49_3 true a0_0 a0_1 a0_2 a0_3 l0_4)) = some r := H
             have A32 := Aside0.mk A320
             clear A320
             by_cases c33 : t1376 = true
             ·
              subst c33
              have H1 : (if x49_3 > 0 then (if 0 ≤ (wrap64 (x49_3 - 1)) then (if (wrap64 (x49_3 - 1)) < (l0_4.length : Int) then (impl_MakerOk.j4 kj22 l0_4 (l0_4.length : Int) x49_3 (decide (((rd_Mark l0_4 (wrap64 (x49_3 - 1))).f1) ≥ ((rd_Mark l0_4 x49_3).f1))) a0_0 a0_1 a0_2 a0_3 l0_4) else (none)) else (none)) else (impl_MakerOk.j4 kj22 l0_4 (l0_4.length : Int) x49_3 false a0_0 a0_1 a0_2 a0_3 l0_4)) = some r := by rw [if_pos rfl] at H; exact H
              clear H
              have H := H1
              clear H1
              by_cases c34 : x49_3 > 0
              ·
               rw [if_pos c34] at H
               have c34b0 : decide (0 < x49_3) = true := decide_eq_true c34
               clear c34
               obtain ⟨ji35, hji35⟩ : ∃ j_ : Int, (wrap64 (x49_3 - 1)) = j_ := ⟨_, rfl⟩
               replace H : (if 0 ≤ (ji35) then (if (ji35) < (l0_4.length : Int) then (impl_MakerOk.j4 kj22 l0_4 (l0_4.length : Int) x49_3 (decide (((rd_Mark l0_4 (ji35)).f1) ≥ ((rd_Mark l0_4 x49_3).f1))) a0_0 a0_1 a0_2 a0_3 l0_4) else (none)) else (none)) = some r := by first | (rw [hji35] at H; exact H) | (simp only [hji35] at H ⊢; exact H)
               (try rw [hji35] at A32)
               have hji35w : (IntKind.i64.wrap (x49_3 - 1)) = ji35 := (i64_w _).trans hji35
               by_cases c36 : 0 ≤ (ji35)
               ·
                rw [if_pos c36] at H
                have c36b0 : decide (0 ≤ (ji35)) = true := decide_eq_true c36
                clear c36
                by_cases c37 : (ji35) < (l0_4.length : Int)
                ·
                 rw [if_pos c37] at H
                 have c37b0 : decide ((ji35) < (l0_4.length : Int)) = true := decide_eq_true c37
                 clear c37
                 have H' := Aside0.mk H
                 clear H
                 try go_wp2
                 have n0_ : Aside0 (((w28.setCell ⟨gb1375, 0, none⟩ (.int .i64 ((rd_Mark l0_4 x49_3).f0))).setCell ⟨gb1375, 1, none⟩ (.int .i64 ((rd_Mark l0_4 x49_3).f1))).heap[gb1369]? = some (.cells #[.int .i64 a0_0, .int .i64 a0_1, .int .i64 a0_2, .int .i64 a0_3, .slice (some ad1374) l0_4.length c0_4] 54 (0, 0))) := ⟨by (with_reducible repeat (first | refine blk_drewN ?_ _ | refine blk_drew ?_ | refine blk_alloc ?_ _)); refine blk_far ?_ NB1369_1375.out _; (with_reducible repeat (first | refine blk_drewN ?_ _ | refine blk_drew ?_ | refine blk_alloc ?_ _)); refine blk_far ?_ NB1369_1375.out _; (with_reducible repeat (first | refine blk_drewN ?_ _ | refine blk_drew ?_ | refine blk_alloc ?_ _)); exact BK1369.out⟩
                 have n1_ : Aside0 (((w28.setCell ⟨gb1375, 0, none⟩ (.int .i64 ((rd_Mark l0_4 x49_3).f0))).setCell ⟨gb1375, 1, none⟩ (.int .i64 ((rd_Mark l0_4 x49_3).f1))).heap[gb1375]? = some (.cells #[.int .i64 ((rd_Mark l0_4 x49_3).f0), .int .i64 ((rd_Mark l0_4 x49_3).f1)] 118 (0, 0))) := ⟨by (with_reducible repeat (first | refine blk_drewN ?_ _ | refine blk_drew ?_ | refine blk_alloc ?_ _)); refine blk_put (cs := #[.int .i64 ((rd_Mark l0_4 x49_3).f0), .int .i64 0]) ?_ 1 _ rfl; (with_reducible repeat (first | refine blk_drewN ?_ _ | refine blk_drew ?_ | refine blk_alloc ?_ _)); refine blk_put (cs := #[.int .i64 0, .int .i64 0]) ?_ 0 _ rfl; (with_reducible repeat (first | refine blk_drewN ?_ _ | refine blk_drew ?_ | refine blk_alloc ?_ _)); exact BK1375.out⟩
                 have n2_ : Aside0 (Below w.heap.size w ((w28.setCell ⟨gb1375, 0, none⟩ (.int .i64 ((rd_Mark l0_4 x49_3).f0))).setCell ⟨gb1375, 1, none⟩ (.int .i64 ((rd_Mark l0_4 x49_3).f1)))) := ⟨hb_ HB.out⟩
                 (try clear BK1369)
                 (try clear BK1375)
                 (try clear HB)
                 generalize ((w28.setCell ⟨gb1375, 0, none⟩ (.int .i64 ((rd_Mark l0_4 x49_3).f0))).setCell ⟨gb1375, 1, none⟩ (.int .i64 ((rd_Mark l0_4 x49_3).f1))) = w38 at n0_ n1_ n2_ ⊢
                 have BK1369 := n0_
                 have BK1375 := n1_
                 have HB := n2_
                 clear n0_ n1_ n2_
                 have n0_ := Aside0.mk (blk_drew BK1369.out)
                 have n1_ := Aside0.mk (blk_drew BK1375.out)
                 have n2_ := Aside0.mk (below_drew1 HB.out)
                 clear BK1369; clear BK1375
                 clear HB
                 have BK1369 := n0_
                 have BK1375 := n1_
                 have HB := n2_
                 clear n0_ n1_ n2_
                 have p1377 : 0 ≤ ((ji35) : Int) := of_decide_eq_true (by first | (with_reducible assumption) | assumption)
                 have q1377 : (ji35) < (l0_4.length : Int) := of_decide_eq_true (by first | (with_reducible assumption) | assumption)
                 obtain ⟨ad1377, e1377, hx1377_0, hx1377_1⟩ := at_Mark HR0_4.out (ji35) p1377 q1377
                 have hw1377_1 := hx1377_1
                 have hw1377_0 := hx1377_0
                 obtain rfl : ad1374 = ad1377 := (by injection e1377)
                 replace hx1377_0 := (HB.out.cell (World.block_lt_of_cell? w _ hx1377_0)).trans hx1377_0
                 replace hx1377_1 := (HB.out.cell (World.block_lt_of_cell? w _ hx1377_1)).trans hx1377_1
                 replace p1377 := eq_true p1377
                 replace q1377 := eq_true q1377
                 refine start_ (n := 34) (S := fun w' => w'.cell? ⟨gb1375, 0, none⟩ = some (.int .i64 ((rd_Mark l0_4 x49_3).f0)) ∧ w'.cell? ⟨gb1375, 1, none⟩ = some (.int .i64 ((rd_Mark l0_4 x49_3).f1)) ∧ w'.cell? ⟨gb1369, 0, none⟩ = some (.int .i64 a0_0) ∧ w'.cell? ⟨gb1369, 1, none⟩ = some (.int .i64 a0_1) ∧ w'.cell? ⟨gb1369, 2, none⟩ = some (.int .i64 a0_2) ∧ w'.cell? ⟨gb1369, 3, none⟩ = some (.int .i64 a0_3) ∧ w'.cell? ⟨gb1369, 4, none⟩ = some (.slice (some ad1374) l0_4.length c0_4) ∧ w'.cell? (ad1374.add (((ji35)).toNat * 2)) = some (.int .i64 ((rd_Mark l0_4 (ji35)).f0)) ∧ w'.cell? ⟨(ad1374.add (((ji35)).toNat * 2)).block, (ad1374.add (((ji35)).toNat * 2)).off + 1, none⟩ = some (.int .i64 ((rd_Mark l0_4 (ji35)).f1))) (ds := []) impl_MakerOk.m0 (by kernel_rfl) rfl rfl ⟨(blk_cell BK1375.out 0).trans rfl, (blk_cell BK1375.out 1).trans rfl, (blk_cell BK1369.out 0).trans rfl, (blk_cell BK1369.out 1).trans rfl, (blk_cell BK1369.out 2).trans rfl, (blk_cell BK1369.out 3).trans rfl, (blk_cell BK1369.out 4).trans rfl, ((HB.out.cell (World.block_lt_of_cell? w _ hw1377_0)).trans hw1377_0), ((HB.out.cell (World.block_lt_of_cell? w _ hw1377_1)).trans hw1377_1)⟩ (fun hHeld => ?_); refine with_tabW impl_MakerOk.tab6 impl_MakerOk.bits6 (fun HT_ HW_ => ?_)
                 generalize w38.drew = w39 at BK1369 BK1375 HB hx1377_0 hx1377_1 hHeld ⊢
                 refine pI_ 0 54 HT_ impl_MakerOk.m1 rfl rfl ?_
                 refine pI_ 2 56 HT_ impl_MakerOk.m2 rfl rfl ?_
                 refine pI_ 4 58 HT_ impl_MakerOk.m3 rfl rfl ?_
                 refine pI_ 9 63 HT_ impl_MakerOk.m4 rfl rfl ?_
                 refine take_ (i := 1) (N := some 55) (v := ?_) (a' := ?_) impl_MakerOk.m5 rfl rfl (take_ofW HT_.out HW_.out (by kernel_rfl)) (fun _ _ _ h => h) (Or.inl ⟨by rfl, ?_⟩) hHeld ?_ ?_
                 rotate_left
                 ·
                  rintro w' ⟨s0, s1, s2, s3, s4, s5, s6, s7, s8⟩
                  go_simp
                  with_reducible rfl
                 rotate_left; (focus simp only [Act.put, List.setIfInBounds_toArray, List.set_cons_zero, List.set_cons_succ, i64_w, i32_w]; rfl)
                 refine take_ (i := 3) (N := some 57) (v := ?_) (a' := ?_) impl_MakerOk.m6 rfl rfl (take_ofW HT_.out HW_.out (by kernel_rfl)) (fun _ _ _ h => h) (Or.inl ⟨by rfl, ?_⟩) hHeld ?_ ?_
                 rotate_left
                 ·
                  rintro w' ⟨s0, s1, s2, s3, s4, s5, s6, s7, s8⟩
                  go_simp
                  with_reducible rfl
                 rotate_left; (focus simp only [Act.put, List.setIfInBounds_toArray, List.set_cons_zero, List.set_cons_succ, i64_w, i32_w]; rfl)
                 refine take_ (i := 5) (N := some 59) (v := ?_) (a' := ?_) impl_MakerOk.m7 rfl rfl (take_ofW HT_.out HW_.out (by kernel_rfl)) (fun _ _ _ h => h) (Or.inl ⟨by rfl, ?_⟩) hHeld ?_ ?_
                 rotate_left
                 ·
                  rintro w' ⟨s0, s1, s2, s3, s4, s5, s6, s7, s8⟩
                  go_simp
                  with_reducible rfl
                 rotate_left; (focus simp only [Act.put, List.setIfInBounds_toArray, List.set_cons_zero, List.set_cons_succ, i64_w, i32_w]; rfl)
                 refine pI_ 6 60 HT_ impl_MakerOk.m8 rfl rfl ?_
                 refine pI_ 7 61 HT_ impl_MakerOk.m9 rfl rfl ?_
                 refine pI_ 8 62 HT_ impl_MakerOk.m10 rfl rfl ?_
                 refine pI_ 10 64 HT_ impl_MakerOk.m11 rfl rfl ?_
                 refine pI_ 11 65 HT_ impl_MakerOk.m12 rfl rfl ?_
                 refine pI_ 12 66 HT_ impl_MakerOk.m13 rfl rfl ?_
                 refine pI_ 13 67 HT_ impl_MakerOk.m14 rfl rfl ?_
                 refine take_ (i := 14) (N := some 68) (v := ?_) (a' := ?_) impl_MakerOk.m15 rfl rfl (take_ofW HT_.out HW_.out (by kernel_rfl)) (fun _ _ _ h => h) (Or.inl ⟨by rfl, ?_⟩) hHeld ?_ ?_
                 rotate_left
                 ·
                  rintro w' ⟨s0, s1, s2, s3, s4, s5, s6, s7, s8⟩
                  go_simp
                  with_reducible rfl
                 rotate_left; (focus simp only [Act.put, List.setIfInBounds_toArray, List.set_cons_zero, List.set_cons_succ, i64_w, i32_w]; rfl)
                 refine one_ (i := 15) (N := some 69) impl_MakerOk.m16 rfl rfl (one_of HT_.out (by kernel_rfl)) (by decide) (fun K hK => ?_)
                 refine goes_ Try.func80 (by kernel_rfl) rfl #[.int .i64 ((rd_Mark l0_4 x49_3).f1), .int .i64 0, .int .i64 100000] (by rfl) rfl rfl sm_ ?_
                 with_reducible refine (impl_within.calls ((rd_Mark l0_4 x49_3).f1) 0 100000 true _ A32.out).mono ?_
                 rintro e w' ⟨rfl, ⟨nd, rfl⟩⟩
                 refine ⟨_, rfl, ?_⟩
                 refine hK.out _ _ ⟨(blk_cell BK1375.out 0).trans rfl, (blk_cell BK1375.out 1).trans rfl, (blk_cell BK1369.out 0).trans rfl, (blk_cell BK1369.out 1).trans rfl, (blk_cell BK1369.out 2).trans rfl, (blk_cell BK1369.out 3).trans rfl, (blk_cell BK1369.out 4).trans rfl, ((HB.out.cell (World.block_lt_of_cell? w _ hw1377_0)).trans hw1377_0), ((HB.out.cell (World.block_lt_of_cell? w _ hw1377_1)).trans hw1377_1)⟩ (fun hHeld => ?_)
                 clear hK K
                 refine norm_ (a' := ?_) ?_ ?_
                 rotate_left
                 ·
                  show Act.put _ (some 69) _ = _
                  simp only [Act.put, List.setIfInBounds_toArray, List.set_cons_zero, List.set_cons_succ, i64_w, i32_w]
                  rfl
                 refine pI_ 16 70 HT_ impl_MakerOk.m17 rfl rfl ?_
                 refine pI_ 17 71 HT_ impl_MakerOk.m18 rfl rfl ?_
                 refine pI_ 18 72 HT_ impl_MakerOk.m19 rfl rfl ?_
                 refine pI_ 19 73 HT_ impl_MakerOk.m20 rfl rfl ?_
                 refine pI_ 20 74 HT_ impl_MakerOk.m21 rfl rfl ?_
                 refine pI_ 21 75 HT_ impl_MakerOk.m22 rfl rfl ?_
                 refine pI_ 22 76 HT_ impl_MakerOk.m23 rfl rfl ?_
                 refine pI_ 24 78 HT_ #[true, true, true, true, true, true, true, true, true, true, true, true, true, true, true, true, true, true, true, true, true, true, true, false, true, false, false, false, false, false, false, false, false, false] rfl rfl ?_
                 refine pI_ 25 79 HT_ #[true, true, true, true, true, true, true, true, true, true, true, true, true, true, true, true, true, true, true, true, true, true, true, false, true, true, false, false, false, false, false, false, false, false] rfl rfl ?_
                 refine pI_ 29 83 HT_ #[true, true, true, true, true, true, true, true, true, true, true, true, true, true, true, true, true, true, true, true, true, true, true, false, true, true, false, false, false, true, false, false, false, false] rfl rfl ?_
                 refine take_ (i := 23) (N := some 77) (v := ?_) (a' := ?_) #[true, true, true, true, true, true, true, true, true, true, true, true, true, true, true, true, true, true, true, true, true, true, true, true, true, true, false, false, false, true, false, false, false, false] rfl rfl (take_ofW HT_.out HW_.out (by kernel_rfl)) (fun _ _ _ h => h) (Or.inl ⟨by rfl, ?_⟩) hHeld ?_ ?_
                 rotate_left
                 ·
                  rintro w' ⟨s0, s1, s2, s3, s4, s5, s6, s7, s8⟩
                  go_simp
                  with_reducible rfl
                 rotate_left; (focus simp only [Act.put, List.setIfInBounds_toArray, List.set_cons_zero, List.set_cons_succ, i64_w, i32_w]; rfl)
                 refine pI_ 26 80 HT_ #[true, true, true, true, true, true, true, true, true, true, true, true, true, true, true, true, true, true, true, true, true, true, true, true, true, true, true, false, false, true, false, false, false, false] rfl rfl ?_
                 refine pI_ 27 81 HT_ #[true, true, true, true, true, true, true, true, true, true, true, true, true, true, true, true, true, true, true, true, true, true, true, true, true, true, true, true, false, true, false, false, false, false] rfl rfl ?_
                 refine take_ (i := 28) (N := some 82) (v := ?_) (a' := ?_) impl_MakerOk.m24 rfl rfl (take_ofW HT_.out HW_.out (by kernel_rfl)) (fun _ _ _ h => h) (Or.inl ⟨by rfl, ?_⟩) hHeld ?_ ?_
                 rotate_left
                 ·
                  rintro w' ⟨s0, s1, s2, s3, s4, s5, s6, s7, s8⟩
                  go_simp
                  with_reducible rfl
                 rotate_left; (focus simp only [Act.put, List.setIfInBounds_toArray, List.set_cons_zero, List.set_cons_succ, i64_w, i32_w]; rfl)
                 refine take_ (i := 30) (N := some 84) (v := ?_) (a' := ?_) impl_MakerOk.m25 rfl rfl (take_ofW HT_.out HW_.out (by kernel_rfl)) (fun _ _ _ h => h) (Or.inl ⟨by rfl, ?_⟩) hHeld ?_ ?_
                 rotate_left
                 ·
                  rintro w' ⟨s0, s1, s2, s3, s4, s5, s6, s7, s8⟩
                  go_simp
                  with_reducible rfl
                 rotate_left; (focus simp only [Act.put, List.setIfInBounds_toArray, List.set_cons_zero, List.set_cons_succ, i64_w, i32_w]; rfl)
                 refine pI_ 31 85 HT_ impl_MakerOk.m26 rfl rfl ?_
                 refine pI_ 32 86 HT_ impl_MakerOk.m27 rfl rfl ?_
                 refine pI_ 33 87 HT_ impl_MakerOk.m28 rfl rfl ?_
                 refine done_ (done_of HT_.out (by kernel_rfl)) ?_
                 try go_wp2
                 go_meet
                 case rel => exact ⟨_, (decide (((rd_Mark l0_4 (ji35)).f1) ≥ ((rd_Mark l0_4 x49_3).f1))), (by first | rfl | (simp; done) | (simp only [← hji35] <;> (first | rfl | simp)) | (simp [*]; done)), H', ⟨by have := HJ2.out; have := HJ19.out; have := HK3.out; have := HJ22.out; first | omega | exact Nat.le_refl _⟩, ⟨bq_ BK1369.out⟩, ⟨bq_ BK1375.out⟩, ⟨hb_ HB.out⟩⟩
                ·
                 rw [if_neg c37] at H
                 exact absurd H (by simp)
               ·
                rw [if_neg c36] at H
                exact absurd H (by simp)
              ·
               rw [if_neg c34] at H
               have c34b0 : decide (0 < x49_3) = false := decide_eq_false c34
               clear c34
               have H' := Aside0.mk H
               clear H
               try go_wp2
               have n0_ : Aside0 (((w28.setCell ⟨gb1375, 0, none⟩ (.int .i64 ((rd_Mark l0_4 x49_3).f0))).setCell ⟨gb1375, 1, none⟩ (.int .i64 ((rd_Mark l0_4 x49_3).f1))).heap[gb1369]? = some (.cells #[.int .i64 a0_0, .int .i64 a0_1, .int .i64 a0_2, .int .i64 a0_3, .slice (some ad1374) l0_4.length c0_4] 54 (0, 0))) := ⟨by (with_reducible repeat (first | refine blk_drewN ?_ _ | refine blk_drew ?_ | refine blk_alloc ?_ _)); refine blk_far ?_ NB1369_1375.out _; (with_reducible repeat (first | refine blk_drewN ?_ _ | refine blk_drew ?_ | refine blk_alloc ?_ _)); refine blk_far ?_ NB1369_1375.out _; (with_reducible repeat (first | refine blk_drewN ?_ _ | refine blk_drew ?_ | refine blk_alloc ?_ _)); exact BK1369.out⟩
               have n1_ : Aside0 (((w28.setCell ⟨gb1375, 0, none⟩ (.int .i64 ((rd_Mark l0_4 x49_3).f0))).setCell ⟨gb1375, 1, none⟩ (.int .i64 ((rd_Mark l0_4 x49_3).f1))).heap[gb1375]? = some (.cells #[.int .i64 ((rd_Mark l0_4 x49_3).f0), .int .i64 ((rd_Mark l0_4 x49_3).f1)] 118 (0, 0))) := ⟨by (with_reducible repeat (first | refine blk_drewN ?_ _ | refine blk_drew ?_ | refine blk_alloc ?_ _)); refine blk_put (cs := #[.int .i64 ((rd_Mark l0_4 x49_3).f0), .int .i64 0]) ?_ 1 _ rfl; (with_reducible repeat (first | refine blk_drewN ?_ _ | refine blk_drew ?_ | refine blk_alloc ?_ _)); refine blk_put (cs := #[.int .i64 0, .int .i64 0]) ?_ 0 _ rfl; (with_reducible repeat (first | refine blk_drewN ?_ _ | refine blk_drew ?_ | refine blk_alloc ?_ _)); exact BK1375.out⟩
               have n2_ : Aside0 (Below w.heap.size w ((w28.setCell ⟨gb1375, 0, none⟩ (.int .i64 ((rd_Mark l0_4 x49_3).f0))).setCell ⟨gb1375, 1, none⟩ (.int .i64 ((rd_Mark l0_4 x49_3).f1)))) := ⟨hb_ HB.out⟩
               (try clear BK1369)
               (try clear BK1375)
               (try clear HB)
               generalize ((w28.setCell ⟨gb1375, 0, none⟩ (.int .i64 ((rd_Mark l0_4 x49_3).f0))).setCell ⟨gb1375, 1, none⟩ (.int .i64 ((rd_Mark l0_4 x49_3).f1))) = w40 at n0_ n1_ n2_ ⊢
               have BK1369 := n0_
               have BK1375 := n1_
               have HB := n2_
               clear n0_ n1_ n2_
               have n0_ := Aside0.mk (blk_drew BK1369.out)
               have n1_ := Aside0.mk (blk_drew BK1375.out)
               have n2_ := Aside0.mk (below_drew1 HB.out)
               clear BK1369; clear BK1375
               clear HB
               have BK1369 := n0_
               have BK1375 := n1_
               have HB := n2_
               clear n0_ n1_ n2_
               refine start_ (n := 34) (S := fun w' => w'.cell? ⟨gb1375, 0, none⟩ = some (.int .i64 ((rd_Mark l0_4 x49_3).f0)) ∧ w'.cell? ⟨gb1375, 1, none⟩ = some (.int .i64 ((rd_Mark l0_4 x49_3).f1)) ∧ w'.cell? ⟨gb1369, 0, none⟩ = some (.int .i64 a0_0) ∧ w'.cell? ⟨gb1369, 1, none⟩ = some (.int .i64 a0_1) ∧ w'.cell? ⟨gb1369, 2, none⟩ = some (.int .i64 a0_2) ∧ w'.cell? ⟨gb1369, 3, none⟩ = some (.int .i64 a0_3) ∧ w'.cell? ⟨gb1369, 4, none⟩ = some (.slice (some ad1374) l0_4.length c0_4)) (ds := []) impl_MakerOk.m0 (by kernel_rfl) rfl rfl ⟨(blk_cell BK1375.out 0).trans rfl, (blk_cell BK1375.out 1).trans rfl, (blk_cell BK1369.out 0).trans rfl, (blk_cell BK1369.out 1).trans rfl, (blk_cell BK1369.out 2).trans rfl, (blk_cell BK1369.out 3).trans rfl, (blk_cell BK1369.out 4).trans rfl⟩ (fun hHeld => ?_); refine with_tabW impl_MakerOk.tab6 impl_MakerOk.bits6 (fun HT_ HW_ => ?_)
               generalize w40.drew = w41 at BK1369 BK1375 HB hHeld ⊢
               refine pI_ 0 54 HT_ impl_MakerOk.m1 rfl rfl ?_
               refine pI_ 2 56 HT_ impl_MakerOk.m2 rfl rfl ?_
               refine pI_ 4 58 HT_ impl_MakerOk.m3 rfl rfl ?_
               refine pI_ 9 63 HT_ impl_MakerOk.m4 rfl rfl ?_
               refine take_ (i := 1) (N := some 55) (v := ?_) (a' := ?_) impl_MakerOk.m5 rfl rfl (take_ofW HT_.out HW_.out (by kernel_rfl)) (fun _ _ _ h => h) (Or.inl ⟨by rfl, ?_⟩) hHeld ?_ ?_
               rotate_left
               ·
                rintro w' ⟨s0, s1, s2, s3, s4, s5, s6⟩
                go_simp
                with_reducible rfl
               rotate_left; (focus simp only [Act.put, List.setIfInBounds_toArray, List.set_cons_zero, List.set_cons_succ, i64_w, i32_w]; rfl)
               refine take_ (i := 3) (N := some 57) (v := ?_) (a' := ?_) impl_MakerOk.m6 rfl rfl (take_ofW HT_.out HW_.out (by kernel_rfl)) (fun _ _ _ h => h) (Or.inl ⟨by rfl, ?_⟩) hHeld ?_ ?_
               rotate_left
               ·
                rintro w' ⟨s0, s1, s2, s3, s4, s5, s6⟩
                go_simp
                with_reducible rfl
               rotate_left; (focus simp only [Act.put, List.setIfInBounds_toArray, List.set_cons_zero, List.set_cons_succ, i64_w, i32_w]; rfl)
               refine take_ (i := 5) (N := some 59) (v := ?_) (a' := ?_) impl_MakerOk.m7 rfl rfl (take_ofW HT_.out HW_.out (by kernel_rfl)) (fun _ _ _ h => h) (Or.inl ⟨by rfl, ?_⟩) hHeld ?_ ?_
               rotate_left
               ·
                rintro w' ⟨s0, s1, s2, s3, s4, s5, s6⟩
                go_simp
                with_reducible rfl
               rotate_left; (focus simp only [Act.put, List.setIfInBounds_toArray, List.set_cons_zero, List.set_cons_succ, i64_w, i32_w]; rfl)
               refine pI_ 6 60 HT_ impl_MakerOk.m8 rfl rfl ?_
               refine pI_ 7 61 HT_ impl_MakerOk.m9 rfl rfl ?_
               refine pI_ 8 62 HT_ impl_MakerOk.m10 rfl rfl ?_
               refine pI_ 10 64 HT_ impl_MakerOk.m11 rfl rfl ?_
               refine pI_ 11 65 HT_ impl_MakerOk.m12 rfl rfl ?_
               refine pI_ 12 66 HT_ impl_MakerOk.m13 rfl rfl ?_
               refine pI_ 13 67 HT_ impl_MakerOk.m14 rfl rfl ?_
               refine take_ (i := 14) (N := some 68) (v := ?_) (a' := ?_) impl_MakerOk.m15 rfl rfl (take_ofW HT_.out HW_.out (by kernel_rfl)) (fun _ _ _ h => h) (Or.inl ⟨by rfl, ?_⟩) hHeld ?_ ?_
               rotate_left
               ·
                rintro w' ⟨s0, s1, s2, s3, s4, s5, s6⟩
                go_simp
                with_reducible rfl
               rotate_left; (focus simp only [Act.put, List.setIfInBounds_toArray, List.set_cons_zero, List.set_cons_succ, i64_w, i32_w]; rfl)
               refine one_ (i := 15) (N := some 69) impl_MakerOk.m16 rfl rfl (one_of HT_.out (by kernel_rfl)) (by decide) (fun K hK => ?_)
               refine goes_ Try.func80 (by kernel_rfl) rfl #[.int .i64 ((rd_Mark l0_4 x49_3).f1), .int .i64 0, .int .i64 100000] (by rfl) rfl rfl sm_ ?_
               with_reducible refine (impl_within.calls ((rd_Mark l0_4 x49_3).f1) 0 100000 true _ A32.out).mono ?_
               rintro e w' ⟨rfl, ⟨nd, rfl⟩⟩
               refine ⟨_, rfl, ?_⟩
               refine hK.out _ _ ⟨(blk_cell BK1375.out 0).trans rfl, (blk_cell BK1375.out 1).trans rfl, (blk_cell BK1369.out 0).trans rfl, (blk_cell BK1369.out 1).trans rfl, (blk_cell BK1369.out 2).trans rfl, (blk_cell BK1369.out 3).trans rfl, (blk_cell BK1369.out 4).trans rfl⟩ (fun hHeld => ?_)
               clear hK K
               refine norm_ (a' := ?_) ?_ ?_
               rotate_left
               ·
                show Act.put _ (some 69) _ = _
                simp only [Act.put, List.setIfInBounds_toArray, List.set_cons_zero, List.set_cons_succ, i64_w, i32_w]
                rfl
               refine pI_ 16 70 HT_ impl_MakerOk.m17 rfl rfl ?_
               refine pI_ 17 71 HT_ impl_MakerOk.m18 rfl rfl ?_
               refine pI_ 18 72 HT_ impl_MakerOk.m19 rfl rfl ?_
               refine pI_ 19 73 HT_ impl_MakerOk.m20 rfl rfl ?_
               refine pI_ 20 74 HT_ impl_MakerOk.m21 rfl rfl ?_
               refine pI_ 21 75 HT_ impl_MakerOk.m22 rfl rfl ?_
               refine pU_ 22 76 HT_ impl_MakerOk.m23 rfl rfl ?_
               refine pU_ 23 77 HT_ impl_MakerOk.m29 rfl rfl ?_
               refine pU_ 24 78 HT_ impl_MakerOk.m30 rfl rfl ?_
               refine pU_ 25 79 HT_ impl_MakerOk.m31 rfl rfl ?_
               refine pU_ 26 80 HT_ impl_MakerOk.m32 rfl rfl ?_
               refine pU_ 27 81 HT_ impl_MakerOk.m33 rfl rfl ?_
               refine pU_ 28 82 HT_ impl_MakerOk.m34 rfl rfl ?_
               refine pU_ 29 83 HT_ impl_MakerOk.m24 rfl rfl ?_
               refine pU_ 30 84 HT_ impl_MakerOk.m25 rfl rfl ?_
               refine pU_ 31 85 HT_ impl_MakerOk.m26 rfl rfl ?_
               refine pI_ 32 86 HT_ impl_MakerOk.m27 rfl rfl ?_
               refine pI_ 33 87 HT_ impl_MakerOk.m28 rfl rfl ?_
               refine done_ (done_of HT_.out (by kernel_rfl)) ?_
               try go_wp2
               go_meet
               case rel => exact ⟨_, (false), (by first | rfl | (simp; done) | (simp [*]; done)), H', ⟨by have := HJ2.out; have := HJ19.out; have := HK3.out; have := HJ22.out; first | omega | exact Nat.le_refl _⟩, ⟨bq_ BK1369.out⟩, ⟨bq_ BK1375.out⟩, ⟨hb_ HB.out⟩⟩
             ·
              replace c33 := Bool.eq_false_iff.mpr c33
              subst c33
              have H1 : (impl_MakerOk.j4 kj22 l0_4 (l0_4.length : Int) x49_3 true a0_0 a0_1 a0_2 a0_3 l0_4) = some r := by rw [if_neg (show ¬ (false = true) by decide)] at H; exact H
              clear H
              have H := H1
              clear H1
              have H' := Aside0.mk H
              clear H
              try go_wp2
              have n0_ : Aside0 (((w28.setCell ⟨gb1375, 0, none⟩ (.int .i64 ((rd_Mark l0_4 x49_3).f0))).setCell ⟨gb1375, 1, none⟩ (.int .i64 ((rd_Mark l0_4 x49_3).f1))).heap[gb1369]? = some (.cells #[.int .i64 a0_0, .int .i64 a0_1, .int .i64 a0_2, .int .i64 a0_3, .slice (some ad1374) l0_4.length c0_4] 54 (0, 0))) := ⟨by (with_reducible repeat (first | refine blk_drewN ?_ _ | refine blk_drew ?_ | refine blk_alloc ?_ _)); refine blk_far ?_ NB1369_1375.out _; (with_reducible repeat (first | refine blk_drewN ?_ _ | refine blk_drew ?_ | refine blk_alloc ?_ _)); refine blk_far ?_ NB1369_1375.out _; (with_reducible repeat (first | refine blk_drewN ?_ _ | refine blk_drew ?_ | refine blk_alloc ?_ _)); exact BK1369.out⟩
              have n1_ : Aside0 (((w28.setCell ⟨gb1375, 0, none⟩ (.int .i64 ((rd_Mark l0_4 x49_3).f0))).setCell ⟨gb1375, 1, none⟩ (.int .i64 ((rd_Mark l0_4 x49_3).f1))).heap[gb1375]? = some (.cells #[.int .i64 ((rd_Mark l0_4 x49_3).f0), .int .i64 ((rd_Mark l0_4 x49_3).f1)] 118 (0, 0))) := ⟨by (with_reducible repeat (first | refine blk_drewN ?_ _ | refine blk_drew ?_ | refine blk_alloc ?_ _)); refine blk_put (cs := #[.int .i64 ((rd_Mark l0_4 x49_3).f0), .int .i64 0]) ?_ 1 _ rfl; (with_reducible repeat (first | refine blk_drewN ?_ _ | refine blk_drew ?_ | refine blk_alloc ?_ _)); refine blk_put (cs := #[.int .i64 0, .int .i64 0]) ?_ 0 _ rfl; (with_reducible repeat (first | refine blk_drewN ?_ _ | refine blk_drew ?_ | refine blk_alloc ?_ _)); exact BK1375.out⟩
              have n2_ : Aside0 (Below w.heap.size w ((w28.setCell ⟨gb1375, 0, none⟩ (.int .i64 ((rd_Mark l0_4 x49_3).f0))).setCell ⟨gb1375, 1, none⟩ (.int .i64 ((rd_Mark l0_4 x49_3).f1)))) := ⟨hb_ HB.out⟩
              (try clear BK1369)
              (try clear BK1375)
              (try clear HB)
              generalize ((w28.setCell ⟨gb1375, 0, none⟩ (.int .i64 ((rd_Mark l0_4 x49_3).f0))).setCell ⟨gb1375, 1, none⟩ (.int .i64 ((rd_Mark l0_4 x49_3).f1))) = w42 at n0_ n1_ n2_ ⊢
              have BK1369 := n0_
              have BK1375 := n1_
              have HB := n2_
              clear n0_ n1_ n2_
              have n0_ := Aside0.mk (blk_drew BK1369.out)
              have n1_ := Aside0.mk (blk_drew BK1375.out)
              have n2_ := Aside0.mk (below_drew1 HB.out)
              clear BK1369; clear BK1375
              clear HB
              have BK1369 := n0_
              have BK1375 := n1_
              have HB := n2_
              clear n0_ n1_ n2_
              refine start_ (n := 34) (S := fun w' => w'.cell? ⟨gb1375, 0, none⟩ = some (.int .i64 ((rd_Mark l0_4 x49_3).f0)) ∧ w'.cell? ⟨gb1375, 1, none⟩ = some (.int .i64 ((rd_Mark l0_4 x49_3).f1)) ∧ w'.cell? ⟨gb1369, 0, none⟩ = some (.int .i64 a0_0) ∧ w'.cell? ⟨gb1369, 1, none⟩ = some (.int .i64 a0_1) ∧ w'.cell? ⟨gb1369, 2, none⟩ = some (.int .i64 a0_2) ∧ w'.cell? ⟨gb1369, 3, none⟩ = some (.int .i64 a0_3) ∧ w'.cell? ⟨gb1369, 4, none⟩ = some (.slice (some ad1374) l0_4.length c0_4)) (ds := []) impl_MakerOk.m0 (by kernel_rfl) rfl rfl ⟨(blk_cell BK1375.out 0).trans rfl, (blk_cell BK1375.out 1).trans rfl, (blk_cell BK1369.out 0).trans rfl, (blk_cell BK1369.out 1).trans rfl, (blk_cell BK1369.out 2).trans rfl, (blk_cell BK1369.out 3).trans rfl, (blk_cell BK1369.out 4).trans rfl⟩ (fun hHeld => ?_); refine with_tabW impl_MakerOk.tab6 impl_MakerOk.bits6 (fun HT_ HW_ => ?_)
              generalize w42.drew = w43 at BK1369 BK1375 HB hHeld ⊢
              refine pI_ 0 54 HT_ impl_MakerOk.m1 rfl rfl ?_
              refine pI_ 2 56 HT_ impl_MakerOk.m2 rfl rfl ?_
              refine pI_ 4 58 HT_ impl_MakerOk.m3 rfl rfl ?_
              refine pI_ 9 63 HT_ impl_MakerOk.m4 rfl rfl ?_
              refine take_ (i := 1) (N := some 55) (v := ?_) (a' := ?_) impl_MakerOk.m5 rfl rfl (take_ofW HT_.out HW_.out (by kernel_rfl)) (fun _ _ _ h => h) (Or.inl ⟨by rfl, ?_⟩) hHeld ?_ ?_
              rotate_left
              ·
               rintro w' ⟨s0, s1, s2, s3, s4, s5, s6⟩
               go_simp
               with_reducible rfl
              rotate_left; (focus simp only [Act.put, List.setIfInBounds_toArray, List.set_cons_zero, List.set_cons_succ, i64_w, i32_w]; rfl)
              refine take_ (i := 3) (N := some 57) (v := ?_) (a' := ?_) impl_MakerOk.m6 rfl rfl (take_ofW HT_.out HW_.out (by kernel_rfl)) (fun _ _ _ h => h) (Or.inl ⟨by rfl, ?_⟩) hHeld ?_ ?_
              rotate_left
              ·
               rintro w' ⟨s0, s1, s2, s3, s4, s5, s6⟩
               go_simp
               with_reducible rfl
              rotate_left; (focus simp only [Act.put, List.setIfInBounds_toArray, List.set_cons_zero, List.set_cons_succ, i64_w, i32_w]; rfl)
              refine take_ (i := 5) (N := some 59) (v := ?_) (a' := ?_) impl_MakerOk.m7 rfl rfl (take_ofW HT_.out HW_.out (by kernel_rfl)) (fun _ _ _ h => h) (Or.inl ⟨by rfl, ?_⟩) hHeld ?_ ?_
              rotate_left
              ·
               rintro w' ⟨s0, s1, s2, s3, s4, s5, s6⟩
               go_simp
               with_reducible rfl
              rotate_left; (focus simp only [Act.put, List.setIfInBounds_toArray, List.set_cons_zero, List.set_cons_succ, i64_w, i32_w]; rfl)
              refine pI_ 6 60 HT_ impl_MakerOk.m8 rfl rfl ?_
              refine pI_ 7 61 HT_ impl_MakerOk.m9 rfl rfl ?_
              refine pI_ 8 62 HT_ impl_MakerOk.m10 rfl rfl ?_
              refine pI_ 10 64 HT_ impl_MakerOk.m11 rfl rfl ?_
              refine pI_ 11 65 HT_ impl_MakerOk.m12 rfl rfl ?_
              refine pI_ 12 66 HT_ impl_MakerOk.m13 rfl rfl ?_
              refine pI_ 13 67 HT_ impl_MakerOk.m14 rfl rfl ?_
              refine take_ (i := 14) (N := some 68) (v := ?_) (a' := ?_) impl_MakerOk.m15 rfl rfl (take_ofW HT_.out HW_.out (by kernel_rfl)) (fun _ _ _ h => h) (Or.inl ⟨by rfl, ?_⟩) hHeld ?_ ?_
              rotate_left
              ·
               rintro w' ⟨s0, s1, s2, s3, s4, s5, s6⟩
               go_simp
               with_reducible rfl
              rotate_left; (focus simp only [Act.put, List.setIfInBounds_toArray, List.set_cons_zero, List.set_cons_succ, i64_w, i32_w]; rfl)
              refine one_ (i := 15) (N := some 69) impl_MakerOk.m16 rfl rfl (one_of HT_.out (by kernel_rfl)) (by decide) (fun K hK => ?_)
              refine goes_ Try.func80 (by kernel_rfl) rfl #[.int .i64 ((rd_Mark l0_4 x49_3).f1), .int .i64 0, .int .i64 100000] (by rfl) rfl rfl sm_ ?_
              with_reducible refine (impl_within.calls ((rd_Mark l0_4 x49_3).f1) 0 100000 false _ A32.out).mono ?_
              rintro e w' ⟨rfl, ⟨nd, rfl⟩⟩
              refine ⟨_, rfl, ?_⟩
              refine hK.out _ _ ⟨(blk_cell BK1375.out 0).trans rfl, (blk_cell BK1375.out 1).trans rfl, (blk_cell BK1369.out 0).trans rfl, (blk_cell BK1369.out 1).trans rfl, (blk_cell BK1369.out 2).trans rfl, (blk_cell BK1369.out 3).trans rfl, (blk_cell BK1369.out 4).trans rfl⟩ (fun hHeld => ?_)
              clear hK K
              refine norm_ (a' := ?_) ?_ ?_
              rotate_left
              ·
               show Act.put _ (some 69) _ = _
               simp only [Act.put, List.setIfInBounds_toArray, List.set_cons_zero, List.set_cons_succ, i64_w, i32_w]
               rfl
              refine pI_ 16 70 HT_ impl_MakerOk.m17 rfl rfl ?_
              refine pI_ 17 71 HT_ impl_MakerOk.m18 rfl rfl ?_
              refine pI_ 18 72 HT_ impl_MakerOk.m19 rfl rfl ?_
              refine pU_ 19 73 HT_ impl_MakerOk.m20 rfl rfl ?_
              refine pU_ 20 74 HT_ impl_MakerOk.m21 rfl rfl ?_
              refine pU_ 21 75 HT_ impl_MakerOk.m22 rfl rfl ?_
              refine pU_ 22 76 HT_ impl_MakerOk.m23 rfl rfl ?_
              refine pU_ 23 77 HT_ impl_MakerOk.m29 rfl rfl ?_
              refine pU_ 24 78 HT_ impl_MakerOk.m30 rfl rfl ?_
              refine pU_ 25 79 HT_ impl_MakerOk.m31 rfl rfl ?_
              refine pU_ 26 80 HT_ impl_MakerOk.m32 rfl rfl ?_
              refine pU_ 27 81 HT_ impl_MakerOk.m33 rfl rfl ?_
              refine pU_ 28 82 HT_ impl_MakerOk.m34 rfl rfl ?_
              refine pU_ 29 83 HT_ impl_MakerOk.m24 rfl rfl ?_
              refine pU_ 30 84 HT_ impl_MakerOk.m25 rfl rfl ?_
              refine pU_ 31 85 HT_ impl_MakerOk.m26 rfl rfl ?_
              refine pU_ 32 86 HT_ impl_MakerOk.m27 rfl rfl ?_
              refine pI_ 33 87 HT_ impl_MakerOk.m28 rfl rfl ?_
              refine done_ (done_of HT_.out (by kernel_rfl)) ?_
              try go_wp2
              go_meet
              case rel => exact ⟨_, (true), (by first | rfl | (simp; done) | (simp [*]; done)), H', ⟨by have := HJ2.out; have := HJ19.out; have := HK3.out; have := HJ22.out; first | omega | exact Nat.le_refl _⟩, ⟨bq_ BK1369.out⟩, ⟨bq_ BK1375.out⟩, ⟨hb_ HB.out⟩⟩
            ·
             rw [if_neg c31] at H
             have c31b0 : (((rd_Mark l0_4 x49_3).f0) == (wrap64 ((wrap64 ((wrap64 (a0_3 - (l0_4.length : Int))) + 1)) + x49_3))) = false := beq_eq_false_iff_ne.mpr c31
             have c31b1 : (((rd_Mark l0_4 x49_3).f0) != (wrap64 ((wrap64 ((wrap64 (a0_3 - (l0_4.length : Int))) + 1)) + x49_3))) = true := bne_iff_ne.mpr c31
             (first | rw [c31b0] | (simp only [i64_w, i32_w]; rw [c31b0]) | rw [c31b4] | rw [c31b3] | skip)
             have H' := Aside0.mk H
             clear H
             try go_wp2
             have n0_ : Aside0 (((w28.setCell ⟨gb1375, 0, none⟩ (.int .i64 ((rd_Mark l0_4 x49_3).f0))).setCell ⟨gb1375, 1, none⟩ (.int .i64 ((rd_Mark l0_4 x49_3).f1))).heap[gb1369]? = some (.cells #[.int .i64 a0_0, .int .i64 a0_1, .int .i64 a0_2, .int .i64 a0_3, .slice (some ad1374) l0_4.length c0_4] 54 (0, 0))) := ⟨by (with_reducible repeat (first | refine blk_drewN ?_ _ | refine blk_drew ?_ | refine blk_alloc ?_ _)); refine blk_far ?_ NB1369_1375.out _; (with_reducible repeat (first | refine blk_drewN ?_ _ | refine blk_drew ?_ | refine blk_alloc ?_ _)); refine blk_far ?_ NB1369_1375.out _; (with_reducible repeat (first | refine blk_drewN ?_ _ | refine blk_drew ?_ | refine blk_alloc ?_ _)); exact BK1369.out⟩
             have n1_ : Aside0 (((w28.setCell ⟨gb1375, 0, none⟩ (.int .i64 ((rd_Mark l0_4 x49_3).f0))).setCell ⟨gb1375, 1, none⟩ (.int .i64 ((rd_Mark l0_4 x49_3).f1))).heap[gb1375]? = some (.cells #[.int .i64 ((rd_Mark l0_4 x49_3).f0), .int .i64 ((rd_Mark l0_4 x49_3).f1)] 118 (0, 0))) := ⟨by (with_reducible repeat (first | refine blk_drewN ?_ _ | refine blk_drew ?_ | refine blk_alloc ?_ _)); refine blk_put (cs := #[.int .i64 ((rd_Mark l0_4 x49_3).f0), .int .i64 0]) ?_ 1 _ rfl; (with_reducible repeat (first | refine blk_drewN ?_ _ | refine blk_drew ?_ | refine blk_alloc ?_ _)); refine blk_put (cs := #[.int .i64 0, .int .i64 0]) ?_ 0 _ rfl; (with_reducible repeat (first | refine blk_drewN ?_ _ | refine blk_drew ?_ | refine blk_alloc ?_ _)); exact BK1375.out⟩
             have n2_ : Aside0 (Below w.heap.size w ((w28.setCell ⟨gb1375, 0, none⟩ (.int .i64 ((rd_Mark l0_4 x49_3).f0))).setCell ⟨gb1375, 1, none⟩ (.int .i64 ((rd_Mark l0_4 x49_3).f1)))) := ⟨hb_ HB.out⟩
             (try clear BK1369)
             (try clear BK1375)
             (try clear HB)
             generalize ((w28.setCell ⟨gb1375, 0, none⟩ (.int .i64 ((rd_Mark l0_4 x49_3).f0))).setCell ⟨gb1375, 1, none⟩ (.int .i64 ((rd_Mark l0_4 x49_3).f1))) = w44 at n0_ n1_ n2_ ⊢
             have BK1369 := n0_
             have BK1375 := n1_
             have HB := n2_
             clear n0_ n1_ n2_
             have n0_ := Aside0.mk (blk_drew BK1369.out)
             have n1_ := Aside0.mk (blk_drew BK1375.out)
             have n2_ := Aside0.mk (below_drew1 HB.out)
             clear BK1369; clear BK1375
             clear HB
             have BK1369 := n0_
             have BK1375 := n1_
             have HB := n2_
             clear n0_ n1_ n2_
             refine start_ (n := 34) (S := fun w' => w'.cell? ⟨gb1375, 0, none⟩ = some (.int .i64 ((rd_Mark l0_4 x49_3).f0)) ∧ w'.cell? ⟨gb1375, 1, none⟩ = some (.int .i64 ((rd_Mark l0_4 x49_3).f1)) ∧ w'.cell? ⟨gb1369, 0, none⟩ = some (.int .i64 a0_0) ∧ w'.cell? ⟨gb1369, 1, none⟩ = some (.int .i64 a0_1) ∧ w'.cell? ⟨gb1369, 2, none⟩ = some (.int .i64 a0_2) ∧ w'.cell? ⟨gb1369, 3, none⟩ = some (.int .i64 a0_3) ∧ w'.cell? ⟨gb1369, 4, none⟩ = some (.slice (some ad1374) l0_4.length c0_4)) (ds := []) impl_MakerOk.m0 (by kernel_rfl) rfl rfl ⟨(blk_cell BK1375.out 0).trans rfl, (blk_cell BK1375.out 1).trans rfl, (blk_cell BK1369.out 0).trans rfl, (blk_cell BK1369.out 1).trans rfl, (blk_cell BK1369.out 2).trans rfl, (blk_cell BK1369.out 3).trans rfl, (blk_cell BK1369.out 4).trans rfl⟩ (fun hHeld => ?_); refine with_tabW impl_MakerOk.tab6 impl_MakerOk.bits6 (fun HT_ HW_ => ?_)
             generalize w44.drew = w45 at BK1369 BK1375 HB hHeld ⊢
             refine pI_ 0 54 HT_ impl_MakerOk.m1 rfl rfl ?_
             refine pI_ 2 56 HT_ impl_MakerOk.m2 rfl rfl ?_
             refine pI_ 4 58 HT_ impl_MakerOk.m3 rfl rfl ?_
             refine pI_ 9 63 HT_ impl_MakerOk.m4 rfl rfl ?_
             refine take_ (i := 1) (N := some 55) (v := ?_) (a' := ?_) impl_MakerOk.m5 rfl rfl (take_ofW HT_.out HW_.out (by kernel_rfl)) (fun _ _ _ h => h) (Or.inl ⟨by rfl, ?_⟩) hHeld ?_ ?_
             rotate_left
             ·
              rintro w' ⟨s0, s1, s2, s3, s4, s5, s6⟩
              go_simp
              with_reducible rfl
             rotate_left; (focus simp only [Act.put, List.setIfInBounds_toArray, List.set_cons_zero, List.set_cons_succ, i64_w, i32_w]; rfl)
             refine take_ (i := 3) (N := some 57) (v := ?_) (a' := ?_) impl_MakerOk.m6 rfl rfl (take_ofW HT_.out HW_.out (by kernel_rfl)) (fun _ _ _ h => h) (Or.inl ⟨by rfl, ?_⟩) hHeld ?_ ?_
             rotate_left
             ·
              rintro w' ⟨s0, s1, s2, s3, s4, s5, s6⟩
              go_simp
              with_reducible rfl
             rotate_left; (focus simp only [Act.put, List.setIfInBounds_toArray, List.set_cons_zero, List.set_cons_succ, i64_w, i32_w]; rfl)
             refine take_ (i := 5) (N := some 59) (v := ?_) (a' := ?_) impl_MakerOk.m7 rfl rfl (take_ofW HT_.out HW_.out (by kernel_rfl)) (fun _ _ _ h => h) (Or.inl ⟨by rfl, ?_⟩) hHeld ?_ ?_
             rotate_left
             ·
              rintro w' ⟨s0, s1, s2, s3, s4, s5, s6⟩
              go_simp
              with_reducible rfl
             rotate_left; (focus simp only [Act.put, List.setIfInBounds_toArray, List.set_cons_zero, List.set_cons_succ, i64_w, i32_w]; rfl)
             refine pI_ 6 60 HT_ impl_MakerOk.m8 rfl rfl ?_
             refine pI_ 7 61 HT_ impl_MakerOk.m9 rfl rfl ?_
             refine pI_ 8 62 HT_ impl_MakerOk.m10 rfl rfl ?_
             refine pI_ 10 64 HT_ impl_MakerOk.m11 rfl rfl ?_
             refine pI_ 11 65 HT_ impl_MakerOk.m12 rfl rfl ?_
             refine pI_ 12 66 HT_ impl_MakerOk.m13 rfl rfl ?_
             refine pU_ 13 67 HT_ impl_MakerOk.m14 rfl rfl ?_
             refine pU_ 14 68 HT_ impl_MakerOk.m15 rfl rfl ?_
             refine pU_ 15 69 HT_ impl_MakerOk.m16 rfl rfl ?_
             refine pU_ 16 70 HT_ impl_MakerOk.m17 rfl rfl ?_
             refine pI_ 17 71 HT_ impl_MakerOk.m18 rfl rfl ?_
             refine pI_ 18 72 HT_ impl_MakerOk.m19 rfl rfl ?_
             refine pU_ 19 73 HT_ impl_MakerOk.m20 rfl rfl ?_
             refine pU_ 20 74 HT_ impl_MakerOk.m21 rfl rfl ?_
             refine pU_ 21 75 HT_ impl_MakerOk.m22 rfl rfl ?_
             refine pU_ 22 76 HT_ impl_MakerOk.m23 rfl rfl ?_
             refine pU_ 23 77 HT_ impl_MakerOk.m29 rfl rfl ?_
             refine pU_ 24 78 HT_ impl_MakerOk.m30 rfl rfl ?_
             refine pU_ 25 79 HT_ impl_MakerOk.m31 rfl rfl ?_
             refine pU_ 26 80 HT_ impl_MakerOk.m32 rfl rfl ?_
             refine pU_ 27 81 HT_ impl_MakerOk.m33 rfl rfl ?_
             refine pU_ 28 82 HT_ impl_MakerOk.m34 rfl rfl ?_
             refine pU_ 29 83 HT_ impl_MakerOk.m24 rfl rfl ?_
             refine pU_ 30 84 HT_ impl_MakerOk.m25 rfl rfl ?_
             refine pU_ 31 85 HT_ impl_MakerOk.m26 rfl rfl ?_
             refine pU_ 32 86 HT_ impl_MakerOk.m27 rfl rfl ?_
             refine pI_ 33 87 HT_ impl_MakerOk.m28 rfl rfl ?_
             refine done_ (done_of HT_.out (by kernel_rfl)) ?_
             try go_wp2
             go_meet
             case rel => exact ⟨_, (true), (by first | rfl | (simp; done) | (simp [*]; done)), H', ⟨by have := HJ2.out; have := HJ19.out; have := HK3.out; have := HJ22.out; first | omega | exact Nat.le_refl _⟩, ⟨bq_ BK1369.out⟩, ⟨bq_ BK1375.out⟩, ⟨hb_ HB.out⟩⟩
           case rest =>
            clear HC27
            (try clear p2); (try clear c3); (try clear p6); (try clear c8); (try clear c31); (try clear c31b0); (try clear c31b1); (try clear c33)
            obtain ⟨kq, x87_26, rfl, HA, HJ26, BK1369, BK1375, HB⟩ := hcut
            cases kq with
            | zero => exact absurd HA.out (by simp [impl_MakerOk.j4])
            | succ kj26 =>
             have H := HA.out
             clear HA
             simp only [impl_MakerOk.j4] at H
             by_cases c46 : x87_26 = true
             ·
              subst c46
              have H1 : (some false) = some r := by rw [if_pos rfl] at H; exact H
              clear H
              have H := H1
              clear H1
              obtain rfl := Option.some.inj H
              go_wp2
              go_ret
              exact ⟨er_, hb_ HB.out⟩
             ·
              replace c46 := Bool.eq_false_iff.mpr c46
              subst c46
              have H1 : (impl_MakerOk.l0 kj26 l0_4 (l0_4.length : Int) (wrap64 (x49_3 + 1)) a0_0 a0_1 a0_2 a0_3 l0_4) = some r := by rw [if_neg (show ¬ (false = true) by decide)] at H; exact H
              clear H
              have H := H1
              clear H1
              have H' := Aside0.mk H
              clear H
              go_wp2
              go_roundg kj26
              case measure => have := HJ2.out; have := HJ19.out; have := HK3.out; have := HJ22.out; have := HJ26.out; omega
              case rel => exact ⟨(wrap64 (x49_3 + 1)), (by first | rfl | (simp; done) | (simp [*]; done)), H', ⟨by have := HJ2.out; have := HJ19.out; have := HK3.out; have := HJ22.out; have := HJ26.out; omega⟩, ⟨bq_ BK1369.out⟩, ⟨hb_ HB.out⟩⟩
          ·
           rw [if_neg c26] at H
           exact absurd H (by simp)
         ·
          rw [if_neg c25] at H
          exact absurd H (by simp)
/-! ### spec_MakerPut: function 71 -/
abbrev spec_MakerPut.m0 : Array Bool := #[true, true, true, true, true, true, true, true, true, true, false, false, false]
mutual
def spec_MakerPut.j0 : Nat → Int → Int → Int → Int → Int → Int → Int → Int → List (S_Mark) → Int → Int → Int → Int → List (S_Mark) → Option (Int × Int × Int × Int × (List (S_Mark)))
 | 0, _, _, _, _, _, _, _, _, _, _, _, _, _, _ => none
 | k + 1, x1, x2, x3, x4, x1096000, x1096001, x1096002, x1096003, x1096004, x1105000, x1105001, x1105002, x1105003, x1105004 => if x2 > x1096002 then (spec_MakerPut.j1 k x1 x2 x3 x4 x1105000 x1105001 x1105002 x1105003 ([] : List (S_Mark))) else (spec_MakerPut.j1 k x1 x2 x3 x4 x1105000 x1105001 x1105002 x1105003 x1105004)
def spec_MakerPut.j1 : Nat → Int → Int → Int → Int → Int → Int → Int → Int → List (S_Mark) → Option (Int × Int × Int × Int × (List (S_Mark)))
 | 0, _, _, _, _, _, _, _, _, _ => none
 | k + 1, x1, x2, x3, x4, x1105000, x1105001, x1105002, x1105003, x1105004 => if x1105004.length < 8796093022208 then ((some (x1105004 ++ [(⟨x3, x4⟩ : S_Mark)] : List (S_Mark))).bind fun y1107 => ((spec_l1Max.f x1 0).bind fun t1110 => (if (y1107.length : Int) > t1110 then ((some (([] : List (S_Mark)) : List (S_Mark))).bind fun y1111 => ((spec_l1Max.f x1 0).bind fun t1114 => (if 0 ≤ (wrap64 ((y1107.length : Int) - t1114)) then (if (wrap64 ((y1107.length : Int) - t1114)) ≤ (y1107.length : Int) then ((some (y1107.drop ((wrap64 ((y1107.length : Int) - t1114)) : Int).toNat : List (S_Mark))).bind fun y1115 => (if y1111.length + y1115.length < 8796093022208 then (some (x1105000, x1105001, x2, x3, (y1111 ++ y1115))) else (none))) else (none)) else (none)))) else (some (x1105000, x1105001, x2, x3, y1107))))) else (none)
end
def spec_MakerPut.f (k : Nat) (a0_0 : Int) (a0_1 : Int) (a0_2 : Int) (a0_3 : Int) (l0_4 : List (S_Mark)) (a1 : Int) (a2 : Int) (a3 : Int) (a4 : Int) : Option (Int × Int × Int × Int × (List (S_Mark))) := (spec_l4Copy.f a0_0 a0_1 a0_2 a0_3 l0_4).bind fun bt1097 => ((spec_MakerAsk.f k a0_0 a0_1 a0_2 a0_3 l0_4 a2 a3).bind fun bt1105 => (if bt1105.1 = 0 then (spec_MakerPut.j0 k a1 a2 a3 a4 a0_0 a0_1 a0_2 a0_3 l0_4 bt1097.1 bt1097.2.1 bt1097.2.2.1 bt1097.2.2.2.1 bt1097.2.2.2.2) else (some (bt1097.1, bt1097.2.1, bt1097.2.2.1, bt1097.2.2.2.1, bt1097.2.2.2.2))))
theorem spec_MakerPut.mono_l : ∀ k, (∀ y0 y1 y2 y3 y4 y5 y6 y7 y8 y9 y10 y11 y12 y13, LeO (spec_MakerPut.j0 k y0 y1 y2 y3 y4 y5 y6 y7 y8 y9 y10 y11 y12 y13) (spec_MakerPut.j0 (k + 1) y0 y1 y2 y3 y4 y5 y6 y7 y8 y9 y10 y11 y12 y13)) ∧ (∀ y0 y1 y2 y3 y4 y5 y6 y7 y8, LeO (spec_MakerPut.j1 k y0 y1 y2 y3 y4 y5 y6 y7 y8) (spec_MakerPut.j1 (k + 1) y0 y1 y2 y3 y4 y5 y6 y7 y8))
 | 0 => ⟨fun _ _ _ _ _ _ _ _ _ _ _ _ _ _ r h => by simp [spec_MakerPut.j0] at h, fun _ _ _ _ _ _ _ _ _ r h => by simp [spec_MakerPut.j1] at h⟩
 | k + 1 => by
  obtain ⟨ih0, ih1⟩ := spec_MakerPut.mono_l k
  refine ⟨?_, ?_⟩
  ·
   intro y0 y1 y2 y3 y4 y5 y6 y7 y8 y9 y10 y11 y12 y13
   unfold spec_MakerPut.j0
   repeat' first
   | (with_reducible exact ih0 _ _ _ _ _ _ _ _ _ _ _ _ _ _)
   | (with_reducible exact ih1 _ _ _ _ _ _ _ _ _)
   | (with_reducible exact spec_MakerAsk.mono _ _ _ _ _ _ _ _)
   | (with_reducible exact LeO.refl _)
   | (with_reducible exact LeO.none _)
   | (with_reducible refine LeO.ite ?_ ?_)
   | (with_reducible refine LeO.bind ?_ (fun _ => ?_))
   | exact ih0 _ _ _ _ _ _ _ _ _ _ _ _ _ _
   | exact ih1 _ _ _ _ _ _ _ _ _
   | exact spec_MakerAsk.mono _ _ _ _ _ _ _ _
   | exact LeO.none _
   | refine LeO.ite ?_ ?_
   | refine LeO.bind ?_ (fun _ => ?_)
  ·
   intro y0 y1 y2 y3 y4 y5 y6 y7 y8
   unfold spec_MakerPut.j1
   repeat' first
   | (with_reducible exact ih0 _ _ _ _ _ _ _ _ _ _ _ _ _ _)
   | (with_reducible exact ih1 _ _ _ _ _ _ _ _ _)
   | (with_reducible exact spec_MakerAsk.mono _ _ _ _ _ _ _ _)
   | (with_reducible exact LeO.refl _)
   | (with_reducible exact LeO.none _)
   | (with_reducible refine LeO.ite ?_ ?_)
   | (with_reducible refine LeO.bind ?_ (fun _ => ?_))
   | exact ih0 _ _ _ _ _ _ _ _ _ _ _ _ _ _
   | exact ih1 _ _ _ _ _ _ _ _ _
   | exact spec_MakerAsk.mono _ _ _ _ _ _ _ _
   | exact LeO.none _
   | refine LeO.ite ?_ ?_
   | refine LeO.bind ?_ (fun _ => ?_)
theorem spec_MakerPut.mono : ∀ a0 a1 a2 a3 a4 a5 a6 a7 a8 k, LeO (spec_MakerPut.f k a0 a1 a2 a3 a4 a5 a6 a7 a8) (spec_MakerPut.f (k + 1) a0 a1 a2 a3 a4 a5 a6 a7 a8) := by
 intro a0 a1 a2 a3 a4 a5 a6 a7 a8 k
 obtain ⟨ih0, ih1⟩ := spec_MakerPut.mono_l k
 unfold spec_MakerPut.f
 repeat' first
  | (with_reducible exact ih0 _ _ _ _ _ _ _ _ _ _ _ _ _ _)
  | (with_reducible exact ih1 _ _ _ _ _ _ _ _ _)
  | (with_reducible exact spec_MakerAsk.mono _ _ _ _ _ _ _ _)
  | (with_reducible exact LeO.refl _)
  | (with_reducible exact LeO.none _)
  | (with_reducible refine LeO.ite ?_ ?_)
  | (with_reducible refine LeO.bind ?_ (fun _ => ?_))
  | exact ih0 _ _ _ _ _ _ _ _ _ _ _ _ _ _
  | exact ih1 _ _ _ _ _ _ _ _ _
  | exact spec_MakerAsk.mono _ _ _ _ _ _ _ _
  | exact LeO.none _
  | refine LeO.ite ?_ ?_
  | refine LeO.bind ?_ (fun _ => ?_)
def spec_MakerPut.T11 : Bool × List (List Nat × List Nat) := (true, [([], []), ([], []), ([1], [1]), ([], []), ([3], [3]), ([4], [4]), ([], []), ([6], [6]), ([5, 7], [5, 7]), ([2, 8], [2, 8]), ([0, 9, 7], [0, 9]), ([0, 1, 2, 3, 4, 5, 6, 7, 8, 9, 10], []), ([11, 10, 10, 0, 1, 2, 3, 4, 5, 6, 7, 8, 9, 10], [10, 11])])
def spec_MakerPut.B11 : List Nat := [0, 0, 2, 0, 8, 24, 0, 64, 248, 510, 1023, 2047, 4095]
theorem spec_MakerPut.tab11 : rtab .any (opsOf Try.f71 11) = spec_MakerPut.T11 := by kernel_rfl
theorem spec_MakerPut.bits11 : waitsOk spec_MakerPut.T11.2 spec_MakerPut.B11 = true := by kernel_rfl
set_option maxHeartbeats 8000000 in
set_option maxRecDepth 100000 in
theorem spec_MakerPut.calls (k : Nat) (a0_0 : Int) (a0_1 : Int) (a0_2 : Int) (a0_3 : Int) (A0_4 : Option Addr) (c0_4 : Nat) (l0_4 : List (S_Mark)) (a1 : Int) (a2 : Int) (a3 : Int) (a4 : Int) (r1 : Int) (r2 : Int) (r3 : Int) (r4 : Int) (r5 : List (S_Mark)) (w : World) (hr0_4 : Kd.C k_Mark w A0_4 l0_4.length l0_4) (hc0_4 : l0_4.length ≤ c0_4) (h : spec_MakerPut.f k a0_0 a0_1 a0_2 a0_3 l0_4 a1 a2 a3 a4 = some (r1, r2, r3, r4, r5)) :
 Calls Try.prog 71 #[.agg #[.int .i64 a0_0, .int .i64 a0_1, .int .i64 a0_2, .int .i64 a0_3, .slice A0_4 l0_4.length c0_4], .int .i64 a1, .int .i64 a2, .int .i64 a3, .int .i64 a4] w fun e w' => ∃ v4_ : Value, e = .returned (.agg #[.int .i64 r1, .int .i64 r2, .int .i64 r3, .int .i64 r4, v4_]) ∧ Kd.R k_Mark 118 w' w.heap.size (fun _ => True) v4_ r5 ∧ Below w.heap.size w w' := by
 have hu54 := Try.underlying54
 have hu118 := Try.underlying118
 have HR0_4 := Aside0.mk hr0_4
 have HC0_4 := Aside0.mk hc0_4
 clear hr0_4 hc0_4
 have HB := Aside0.mk (Below.refl w.heap.size w)
 have H : ((spec_l4Copy.f a0_0 a0_1 a0_2 a0_3 l0_4).bind fun bt1097 => ((spec_MakerAsk.f k a0_0 a0_1 a0_2 a0_3 l0_4 a2 a3).bind fun bt1105 => (if bt1105.1 = 0 then (spec_MakerPut.j0 k a1 a2 a3 a4 a0_0 a0_1 a0_2 a0_3 l0_4 bt1097.1 bt1097.2.1 bt1097.2.2.1 bt1097.2.2.2.1 bt1097.2.2.2.2) else (some (bt1097.1, bt1097.2.1, bt1097.2.2.1, bt1097.2.2.2.1, bt1097.2.2.2.2))))) = some (r1, r2, r3, r4, r5) := h
 clear h
 replace H := Option.bind_eq_some_iff.mp H
 obtain ⟨⟨t1097, t1098, t1099, t1100, t1101⟩, A60, H⟩ := H
 replace H : ((spec_MakerAsk.f k a0_0 a0_1 a0_2 a0_3 l0_4 a2 a3).bind fun bt1105 => (if bt1105.1 = 0 then (spec_MakerPut.j0 k a1 a2 a3 a4 a0_0 a0_1 a0_2 a0_3 l0_4 t1097 t1098 t1099 t1100 t1101) else (some (t1097, t1098, t1099, t1100, t1101)))) = some (r1, r2, r3, r4, r5) := H
 have A6 := Aside0.mk A60
 clear A60
 replace H := Option.bind_eq_some_iff.mp H
 obtain ⟨⟨t1105, t1106⟩, A70, H⟩ := H
 replace H : (if t1105 = 0 then (spec_MakerPut.j0 k a1 a2 a3 a4 a0_0 a0_1 a0_2 a0_3 l0_4 t1097 t1098 t1099 t1100 t1101) else (some (t1097, t1098, t1099, t1100, t1101))) = some (r1, r2, r3, r4, r5) := H
 have A7 := Aside0.mk A70
 clear A70
 have HC8 := Aside0.mk H
 clear H
 go_enter Try.func71, Try.ntmps71
 go_upto_if 24 with (first | ((with_reducible refine gate_dst (N := 5) rfl ?_); refine box_event ?hg (N := 5) ?hd (cs := #[.int .i64 a0_0, .int .i64 a0_1, .int .i64 a0_2, .int .i64 a0_3, .slice A0_4 l0_4.length c0_4]) (t := 54) ?hr ?_; (case hd => rfl); (case hg => rfl); (case hr => first | (go_simp; done) | (go_simp; rfl)); intro gb1095 hg w9 hbox hb; have n0_ := Aside0.mk (below_step (hb_ HB.out) hb); have n1_ := Aside0.mk (hbox); have n2_ := Aside0.mk ((by rw [hg]; exact (below_size (hb_ HB.out)) : w.heap.size ≤ gb1095)); have n3_ := Aside0.mk ((by rw [hg]; exact (below_size (hb_ HB.out)) : w.heap.size ≤ gb1095)); clear HB; have HB := n0_; have BK1095 := n1_; have GW1095 := n2_; have GE1095 := n3_; clear n0_ n1_ n2_ n3_; clear hb hbox hg) | ((with_reducible refine gate_dst (N := 10) rfl ?_); refine box_event ?hg (N := 10) ?hd (cs := #[.int .i64 0, .int .i64 0, .int .i64 0, .int .i64 0, .slice none 0 0]) (t := 54) ?hr ?_; (case hd => rfl); (case hg => rfl); (case hr => first | (go_simp; done) | (go_simp; rfl)); intro gb1096 hg w10 hbox hb; have n0_ := Aside0.mk (bb_ BK1095.out hb); have n1_ := Aside0.mk (below_step (hb_ HB.out) hb); have n2_ := Aside0.mk (hbox); have n3_ := Aside0.mk ((by rw [hg]; exact (below_size (hb_ HB.out)) : w.heap.size ≤ gb1096)); have n4_ := Aside0.mk ((by rw [hg]; exact (below_size (hb_ HB.out)) : w.heap.size ≤ gb1096)); have n5_ := Aside0.mk ((nl_ BK1095.out hg : gb1095 ≠ gb1096)); have n6_ := Aside0.mk ((ng_ BK1095.out hg : gb1096 ≠ gb1095)); clear BK1095; clear HB; have BK1095 := n0_; have HB := n1_; have BK1096 := n2_; have GW1096 := n3_; have GE1096 := n4_; have NB1095_1096 := n5_; have NB1096_1095 := n6_; clear n0_ n1_ n2_ n3_ n4_ n5_ n6_; clear hb hbox hg; have hnb11 := NB1095_1096.out; have hnc11 := NB1096_1095.out; have hcz12_0 : w10.cell? ⟨gb1095, 0, none⟩ = some (.int .i64 a0_0) := (blk_cell BK1095.out 0).trans rfl; have hcz12_1 : w10.cell? ⟨gb1095, 1, none⟩ = some (.int .i64 a0_1) := (blk_cell BK1095.out 1).trans rfl; have hcz12_2 : w10.cell? ⟨gb1095, 2, none⟩ = some (.int .i64 a0_2) := (blk_cell BK1095.out 2).trans rfl; have hcz12_3 : w10.cell? ⟨gb1095, 3, none⟩ = some (.int .i64 a0_3) := (blk_cell BK1095.out 3).trans rfl; have hcz12_4 : w10.cell? ⟨gb1095, 4, none⟩ = some (.slice A0_4 l0_4.length c0_4) := (blk_cell BK1095.out 4).trans rfl; have hfz12_0 := blk_frozen BK1095.out 0; have hfz12_1 := blk_frozen BK1095.out 1; have hfz12_2 := blk_frozen BK1095.out 2; have hfz12_3 := blk_frozen BK1095.out 3; have hfz12_4 := blk_frozen BK1095.out 4) | ((with_reducible refine gate_callee (f := 110) rfl ?_); refine goesL_ (some 15) rfl rfl Try.func110 (by kernel_rfl) rfl #[.agg #[.int .i64 a0_0, .int .i64 a0_1, .int .i64 a0_2, .int .i64 a0_3, .slice A0_4 l0_4.length c0_4]] rfl sm_ ?_; (with_reducible refine (spec_l4Copy.calls a0_0 a0_1 a0_2 a0_3 _ _ l0_4 t1097 t1098 t1099 t1100 t1101 _ ?side1 ?side2 A6.out).mono ?_); (case side1 => repeat (first | exact (Kd.C_below HR0_4.out HB.out) | (with_reducible refine Kd.C_alloc ?_ _) | (with_reducible refine Kd.C_drewN ?_ _) | (with_reducible refine Kd.C_drew ?_))); (case side2 => exact HC0_4.out); rintro e w13 ⟨v1102, rfl, ho0, hb⟩; refine ⟨_, rfl, ?_⟩; have n0_ := Aside0.mk (Kd.R_lower ho0 (below_size (hb_ HB.out))); have n1_ := Aside0.mk (bb_ BK1095.out hb); have n2_ := Aside0.mk (bb_ BK1096.out hb); have n3_ := Aside0.mk (below_step (hb_ HB.out) hb); clear BK1095; clear BK1096; clear HB; have HO1103 := n0_; have BK1095 := n1_; have BK1096 := n2_; have HB := n3_; clear n0_ n1_ n2_ n3_; (try clear hb); (try clear hb2); (try clear hk); (try clear hi); (try clear ho0)) | ((with_reducible refine gate_dst (N := 11) rfl ?_); refine box_event ?hg (N := 11) ?hd (cs := #[.int .i64 0, .int .i64 0, .int .i64 0, .int .i64 0, .slice none 0 0]) (t := 54) ?hr ?_; (case hd => rfl); (case hg => rfl); (case hr => first | (go_simp; done) | (go_simp; rfl)); intro gb1104 hg w14 hbox hb; have n0_ := Aside0.mk (Kd.R_below (rq_ HO1103.out) hb); have n1_ := Aside0.mk (bb_ BK1095.out hb); have n2_ := Aside0.mk (bb_ BK1096.out hb); have n3_ := Aside0.mk (below_step (hb_ HB.out) hb); have n4_ := Aside0.mk (hbox); have n5_ := Aside0.mk ((by rw [hg]; exact (below_size (hb_ HB.out)) : w.heap.size ≤ gb1104)); have n6_ := Aside0.mk ((by rw [hg]; exact (below_size (hb_ HB.out)) : w.heap.size ≤ gb1104)); have n7_ := Aside0.mk ((nl_ BK1095.out hg : gb1095 ≠ gb1104)); have n8_ := Aside0.mk ((ng_ BK1095.out hg : gb1104 ≠ gb1095)); have n9_ := Aside0.mk ((nl_ BK1096.out hg : gb1096 ≠ gb1104)); have n10_ := Aside0.mk ((ng_ BK1096.out hg : gb1104 ≠ gb1096)); clear HO1103; clear BK1095; clear BK1096; clear HB; have HO1103 := n0_; have BK1095 := n1_; have BK1096 := n2_; have HB := n3_; have BK1104 := n4_; have GW1104 := n5_; have GE1104 := n6_; have NB1095_1104 := n7_; have NB1104_1095 := n8_; have NB1096_1104 := n9_; have NB1104_1096 := n10_; clear n0_ n1_ n2_ n3_ n4_ n5_ n6_ n7_ n8_ n9_ n10_; clear hb hbox hg; have hnb15 := NB1104_1095.out; have hnc15 := NB1095_1104.out; have hnb16 := NB1104_1096.out; have hnc16 := NB1096_1104.out; have hcz17_0 : w14.cell? ⟨gb1104, 0, none⟩ = some (.int .i64 0) := (blk_cell BK1104.out 0).trans rfl; have hcz17_1 : w14.cell? ⟨gb1104, 1, none⟩ = some (.int .i64 0) := (blk_cell BK1104.out 1).trans rfl; have hcz17_2 : w14.cell? ⟨gb1104, 2, none⟩ = some (.int .i64 0) := (blk_cell BK1104.out 2).trans rfl; have hcz17_3 : w14.cell? ⟨gb1104, 3, none⟩ = some (.int .i64 0) := (blk_cell BK1104.out 3).trans rfl; have hcz17_4 : w14.cell? ⟨gb1104, 4, none⟩ = some (.slice none 0 0) := (blk_cell BK1104.out 4).trans rfl; have hfz17_0 := blk_frozen BK1104.out 0; have hfz17_1 := blk_frozen BK1104.out 1; have hfz17_2 := blk_frozen BK1104.out 2; have hfz17_3 := blk_frozen BK1104.out 3; have hfz17_4 := blk_frozen BK1104.out 4; obtain ⟨Ao18, co18, eo18⟩ := Kd.R_slice HO1103.out; subst eo18; have hcz19_0 : w14.cell? ⟨gb1095, 0, none⟩ = some (.int .i64 a0_0) := (blk_cell BK1095.out 0).trans rfl; have hcz19_1 : w14.cell? ⟨gb1095, 1, none⟩ = some (.int .i64 a0_1) := (blk_cell BK1095.out 1).trans rfl; have hcz19_2 : w14.cell? ⟨gb1095, 2, none⟩ = some (.int .i64 a0_2) := (blk_cell BK1095.out 2).trans rfl; have hcz19_3 : w14.cell? ⟨gb1095, 3, none⟩ = some (.int .i64 a0_3) := (blk_cell BK1095.out 3).trans rfl; have hcz19_4 : w14.cell? ⟨gb1095, 4, none⟩ = some (.slice A0_4 l0_4.length c0_4) := (blk_cell BK1095.out 4).trans rfl; have hfz19_0 := blk_frozen BK1095.out 0; have hfz19_1 := blk_frozen BK1095.out 1; have hfz19_2 := blk_frozen BK1095.out 2; have hfz19_3 := blk_frozen BK1095.out 3; have hfz19_4 := blk_frozen BK1095.out 4) | ((with_reducible refine gate_callee (f := 27) rfl ?_); refine goesL_ (some 20) rfl rfl Try.func27 (by kernel_rfl) rfl #[.agg #[.int .i64 a0_0, .int .i64 a0_1, .int .i64 a0_2, .int .i64 a0_3, .slice A0_4 l0_4.length c0_4], .int .i64 a2, .int .i64 a3] rfl sm_ ?_; (with_reducible refine (spec_MakerAsk.calls k a0_0 a0_1 a0_2 a0_3 _ _ l0_4 a2 a3 t1105 t1106 _ ?side1 ?side2 A7.out).mono ?_); (case side1 => exact Kd.C_below HR0_4.out (hb_ HB.out)); (case side2 => exact HC0_4.out); rintro e w20 ⟨rfl, hb⟩; refine ⟨_, rfl, ?_⟩; have n0_ := Aside0.mk (Kd.R_below (rk_ HO1103.out BK1104.out) hb); have n1_ := Aside0.mk (blk_below (g := gb1095) (o := .cells #[.int .i64 a0_0, .int .i64 a0_1, .int .i64 a0_2, .int .i64 a0_3, .slice A0_4 l0_4.length c0_4] 54 (0, 0)) (bf_ NB1095_1104.out BK1095.out) hb); have n2_ := Aside0.mk (blk_below (g := gb1096) (o := .cells #[.int .i64 0, .int .i64 0, .int .i64 0, .int .i64 0, .slice none 0 0] 54 (0, 0)) (bf_ NB1096_1104.out BK1096.out) hb); have n3_ := Aside0.mk (blk_below (g := gb1104) (o := .cells #[.int .i64 t1097, .int .i64 t1098, .int .i64 t1099, .int .i64 t1100, .slice Ao18 t1101.length co18] 54 (0, 0)) (bp_ BK1104.out) hb); have n4_ := Aside0.mk (below_step (hb_ HB.out) hb); clear HO1103; clear BK1095; clear BK1096; clear BK1104; clear HB; have HO1103 := n0_; have BK1095 := n1_; have BK1096 := n2_; have BK1104 := n3_; have HB := n4_; clear n0_ n1_ n2_ n3_ n4_; (try clear hb); (try clear hb2); (try clear hk); (try clear hi)))
 (try simp only [Act.put, List.setIfInBounds_toArray, List.set_cons_zero, List.set_cons_succ])
 go_cut [] (fun wc => ∃ (kq : Nat) (x1097000_7 : Int) (x1097001_7 : Int) (x1097002_7 : Int) (x1097003_7 : Int), Aside0 (spec_MakerPut.j0 kq a1 a2 a3 a4 a0_0 a0_1 a0_2 a0_3 l0_4 t1097 t1098 t1099 t1100 t1101 = some (r1, r2, r3, r4, r5)) ∧ Aside0 (kq ≤ k) ∧ Aside0 (Kd.R k_Mark 118 wc w.heap.size (fun _ => True) (.slice Ao18 t1101.length co18) t1101) ∧ Aside0 (wc.heap[gb1095]? = some (.cells #[.int .i64 a0_0, .int .i64 a0_1, .int .i64 a0_2, .int .i64 a0_3, (.slice A0_4 l0_4.length c0_4)] 54 (0, 0))) ∧ Aside0 (wc.heap[gb1096]? = some (.cells #[.int .i64 x1097000_7, .int .i64 x1097001_7, .int .i64 x1097002_7, .int .i64 x1097003_7, (.slice none 0 0)] 54 (0, 0))) ∧ Aside0 (wc.heap[gb1104]? = some (.cells #[.int .i64 t1097, .int .i64 t1098, .int .i64 t1099, .int .i64 t1100, (.slice Ao18 t1101.length co18)] 54 (0, 0))) ∧ Aside0 (Below w.heap.size w wc))
 case first =>
  have H := HC8.out
  clear HC8
  by_cases c21 : t1105 = 0
  ·
   rw [if_pos c21] at H
   have c21b0 : (t1105 == 0) = true := beq_iff_eq.mpr c21
   have c21b1 : (t1105 != 0) = false := bne_eq_false_iff_eq.mpr c21
   clear c21
   (first | rw [c21b0] | (simp only [i64_w, i32_w]; rw [c21b0]) | rw [c21b4] | rw [c21b3] | skip)
   have H' := Aside0.mk H
   clear H
   go_wp2
   go_meet
   case rel => exact ⟨_, (0), (0), (0), (0), H', ⟨by first | omega | exact Nat.le_refl _⟩, ⟨rq_ HO1103.out⟩, ⟨bq_ BK1095.out⟩, ⟨bq_ BK1096.out⟩, ⟨bq_ BK1104.out⟩, ⟨hb_ HB.out⟩⟩
  ·
   rw [if_neg c21] at H
   have c21b0 : (t1105 == 0) = false := beq_eq_false_iff_ne.mpr c21
   have c21b1 : (t1105 != 0) = true := bne_iff_ne.mpr c21
   (first | rw [c21b0] | (simp only [i64_w, i32_w]; rw [c21b0]) | rw [c21b4] | rw [c21b3] | skip)
   simp only [Option.some.injEq, Prod.mk.injEq] at H
   obtain ⟨rfl, rfl, rfl, rfl, rfl⟩ := H
   have hnb22 := NB1104_1095.out
   have hnc22 := NB1095_1104.out
   have hnb23 := NB1104_1096.out
   have hnc23 := NB1096_1104.out
   have hcz24_0 : w20.cell? ⟨gb1104, 0, none⟩ = some (.int .i64 t1097) := (blk_cell BK1104.out 0).trans rfl
   have hcz24_1 : w20.cell? ⟨gb1104, 1, none⟩ = some (.int .i64 t1098) := (blk_cell BK1104.out 1).trans rfl
   have hcz24_2 : w20.cell? ⟨gb1104, 2, none⟩ = some (.int .i64 t1099) := (blk_cell BK1104.out 2).trans rfl
   have hcz24_3 : w20.cell? ⟨gb1104, 3, none⟩ = some (.int .i64 t1100) := (blk_cell BK1104.out 3).trans rfl
   have hcz24_4 : w20.cell? ⟨gb1104, 4, none⟩ = some (.slice Ao18 t1101.length co18) := (blk_cell BK1104.out 4).trans rfl
   have hfz24_0 := blk_frozen BK1104.out 0
   have hfz24_1 := blk_frozen BK1104.out 1
   have hfz24_2 := blk_frozen BK1104.out 2
   have hfz24_3 := blk_frozen BK1104.out 3
   have hfz24_4 := blk_frozen BK1104.out 4
   have hnb25 := NB1096_1095.out
   have hnc25 := NB1095_1096.out
   have hcz26_0 : w20.cell? ⟨gb1096, 0, none⟩ = some (.int .i64 0) := (blk_cell BK1096.out 0).trans rfl
   have hcz26_1 : w20.cell? ⟨gb1096, 1, none⟩ = some (.int .i64 0) := (blk_cell BK1096.out 1).trans rfl
   have hcz26_2 : w20.cell? ⟨gb1096, 2, none⟩ = some (.int .i64 0) := (blk_cell BK1096.out 2).trans rfl
   have hcz26_3 : w20.cell? ⟨gb1096, 3, none⟩ = some (.int .i64 0) := (blk_cell BK1096.out 3).trans rfl
   have hcz26_4 : w20.cell? ⟨gb1096, 4, none⟩ = some (.slice none 0 0) := (blk_cell BK1096.out 4).trans rfl
   have hfz26_0 := blk_frozen BK1096.out 0
   have hfz26_1 := blk_frozen BK1096.out 1
   have hfz26_2 := blk_frozen BK1096.out 2
   have hfz26_3 := blk_frozen BK1096.out 3
   have hfz26_4 := blk_frozen BK1096.out 4
   go_wp2
   refine bodyPost_ret (results_cell_row rfl _ _ gb1096 54 #[.int .i64 t1097, .int .i64 t1098, .int .i64 t1099, .int .i64 t1100, .slice Ao18 t1101.length co18] (0, 0) _ rfl (bp_ BK1096.out) Try.underlying54 rfl (by kernel_rfl)) rfl ?_
   exact ⟨_, er_, by (with_reducible repeat (first | apply Kd.R_alloc | apply Kd.R_drewN | apply Kd.R_drew)); exact Kd.R_mono (Kd.R_far (p := ⟨gb1096, 4, none⟩) (Kd.R_far (p := ⟨gb1096, 3, none⟩) (Kd.R_far (p := ⟨gb1096, 2, none⟩) (Kd.R_far (p := ⟨gb1096, 1, none⟩) (Kd.R_far (p := ⟨gb1096, 0, none⟩) (Kd.R_types HO1103.out BK1096.out (by decide)) (fun _ hk => hk.2) (.int .i64 t1097)) (fun _ hk => hk.2) (.int .i64 t1098)) (fun _ hk => hk.2) (.int .i64 t1099)) (fun _ hk => hk.2) (.int .i64 t1100)) (fun _ hk => hk.2) (.slice Ao18 t1101.length co18)) (fun _ hk => trivial), hb_ HB.out⟩
 case rest =>
  clear HC8
  (try clear c1); (try clear c2); (try clear p2); (try clear c7); (try clear c11); (try clear c15); (try clear c16); (try clear c21); (try clear c21b0); (try clear c21b1); (try clear c22); (try clear c23); (try clear c25); (try clear hcz12_0); (try clear hcz12_1); (try clear hcz12_2); (try clear hcz12_3); (try clear hcz12_4); (try clear hcz17_0); (try clear hcz17_1); (try clear hcz17_2); (try clear hcz17_3); (try clear hcz17_4); (try clear hcz19_0); (try clear hcz19_1); (try clear hcz19_2); (try clear hcz19_3); (try clear hcz19_4); (try clear hcz24_0); (try clear hcz24_1); (try clear hcz24_2); (try clear hcz24_3); (try clear hcz24_4); (try clear hcz26_0); (try clear hcz26_1); (try clear hcz26_2); (try clear hcz26_3); (try clear hcz26_4); (try clear hfz12_0); (try clear hfz12_1); (try clear hfz12_2); (try clear hfz12_3); (try clear hfz12_4); (try clear hfz17_0); (try clear hfz17_1); (try clear hfz17_2); (try clear hfz17_3); (try clear hfz17_4); (try clear hfz19_0); (try clear hfz19_1); (try clear hfz19_2); (try clear hfz19_3); (try clear hfz19_4); (try clear hfz24_0); (try clear hfz24_1); (try clear hfz24_2); (try clear hfz24_3); (try clear hfz24_4); (try clear hfz26_0); (try clear hfz26_1); (try clear hfz26_2); (try clear hfz26_3); (try clear hfz26_4)
  obtain ⟨kq, x1097000_7, x1097001_7, x1097002_7, x1097003_7, HA, HJ7, HO_1105004, BK1095, BK1096, BK1104, HB⟩ := hcut
  cases kq with
  | zero => exact absurd HA.out (by simp [spec_MakerPut.j0])
  | succ kj7 =>
   have H := HA.out
   clear HA
   simp only [spec_MakerPut.j0] at H
   have HC27 := Aside0.mk H
   clear H
   have hnb28 := NB1095_1096.out
   have hnc28 := NB1096_1095.out
   have hnb29 := NB1095_1104.out
   have hnc29 := NB1104_1095.out
   have hcz30_0 : wc.cell? ⟨gb1095, 0, none⟩ = some (.int .i64 a0_0) := (blk_cell BK1095.out 0).trans rfl
   have hcz30_1 : wc.cell? ⟨gb1095, 1, none⟩ = some (.int .i64 a0_1) := (blk_cell BK1095.out 1).trans rfl
   have hcz30_2 : wc.cell? ⟨gb1095, 2, none⟩ = some (.int .i64 a0_2) := (blk_cell BK1095.out 2).trans rfl
   have hcz30_3 : wc.cell? ⟨gb1095, 3, none⟩ = some (.int .i64 a0_3) := (blk_cell BK1095.out 3).trans rfl
   have hcz30_4 : wc.cell? ⟨gb1095, 4, none⟩ = some (.slice A0_4 l0_4.length c0_4) := (blk_cell BK1095.out 4).trans rfl
   have hfz30_0 := blk_frozen BK1095.out 0
   have hfz30_1 := blk_frozen BK1095.out 1
   have hfz30_2 := blk_frozen BK1095.out 2
   have hfz30_3 := blk_frozen BK1095.out 3
   have hfz30_4 := blk_frozen BK1095.out 4
   go_upto_if 29 with (fail)
   go_cut [] (fun wc => ∃ (kq : Nat) (x1105004_26 : List (S_Mark)) (u1105004 : Value), Aside0 (spec_MakerPut.j1 kq a1 a2 a3 a4 t1097 t1098 t1099 t1100 x1105004_26 = some (r1, r2, r3, r4, r5)) ∧ Aside0 (kq ≤ kj7) ∧ Aside0 (Kd.R k_Mark 118 wc w.heap.size (fun _ => True) u1105004 x1105004_26) ∧ Aside0 (wc.heap[gb1095]? = some (.cells #[.int .i64 a0_0, .int .i64 a0_1, .int .i64 a0_2, .int .i64 a0_3, (.slice A0_4 l0_4.length c0_4)] 54 (0, 0))) ∧ Aside0 (wc.heap[gb1096]? = some (.cells #[.int .i64 x1097000_7, .int .i64 x1097001_7, .int .i64 x1097002_7, .int .i64 x1097003_7, (.slice none 0 0)] 54 (0, 0))) ∧ Aside0 (wc.heap[gb1104]? = some (.cells #[.int .i64 t1097, .int .i64 t1098, .int .i64 t1099, .int .i64 t1100, u1105004] 54 (0, 0))) ∧ Aside0 (Below w.heap.size w wc))
   case first =>
    have H := HC27.out
    clear HC27
    by_cases c31 : a2 > a0_2
    ·
     rw [if_pos c31] at H
     have c31b0 : decide (a0_2 < a2) = true := decide_eq_true c31
     clear c31
     (first | rw [c31b0] | (simp only [i64_w, i32_w]; rw [c31b0]) | rw [c31b4] | rw [c31b3] | skip)
     have H' := Aside0.mk H
     clear H
     have hnb32 := NB1104_1095.out
     have hnc32 := NB1095_1104.out
     have hnb33 := NB1104_1096.out
     have hnc33 := NB1096_1104.out
     have hcz34_0 : wc.cell? ⟨gb1104, 0, none⟩ = some (.int .i64 t1097) := (blk_cell BK1104.out 0).trans rfl
     have hcz34_1 : wc.cell? ⟨gb1104, 1, none⟩ = some (.int .i64 t1098) := (blk_cell BK1104.out 1).trans rfl
     have hcz34_2 : wc.cell? ⟨gb1104, 2, none⟩ = some (.int .i64 t1099) := (blk_cell BK1104.out 2).trans rfl
     have hcz34_3 : wc.cell? ⟨gb1104, 3, none⟩ = some (.int .i64 t1100) := (blk_cell BK1104.out 3).trans rfl
     have hcz34_4 : wc.cell? ⟨gb1104, 4, none⟩ = some (.slice Ao18 t1101.length co18) := (blk_cell BK1104.out 4).trans rfl
     have hfz34_0 := blk_frozen BK1104.out 0
     have hfz34_1 := blk_frozen BK1104.out 1
     have hfz34_2 := blk_frozen BK1104.out 2
     have hfz34_3 := blk_frozen BK1104.out 3
     have hfz34_4 := blk_frozen BK1104.out 4
     go_wp2
     go_meet
     case rel => exact ⟨_, (([] : List (S_Mark))), (.slice none 0 0), H', ⟨by have := HJ7.out; first | omega | exact Nat.le_refl _⟩, ⟨by first | exact Kd.R_nil _ _ _ _ _ | exact Kd.N_nil _ _ _ _ _ | exact Kd.V_nil _ _ _ _ _ | exact Kd.Q_nil _ _ _ _ _ | exact Kd.S_nil _ _ _ _ _⟩, ⟨by (with_reducible repeat (first | refine blk_drewN ?_ _ | refine blk_drew ?_ | refine blk_alloc ?_ _)); refine blk_far ?_ NB1095_1104.out _; (with_reducible repeat (first | refine blk_drewN ?_ _ | refine blk_drew ?_ | refine blk_alloc ?_ _)); exact BK1095.out⟩, ⟨by (with_reducible repeat (first | refine blk_drewN ?_ _ | refine blk_drew ?_ | refine blk_alloc ?_ _)); refine blk_far ?_ NB1096_1104.out _; (with_reducible repeat (first | refine blk_drewN ?_ _ | refine blk_drew ?_ | refine blk_alloc ?_ _)); exact BK1096.out⟩, ⟨by (with_reducible repeat (first | refine blk_drewN ?_ _ | refine blk_drew ?_ | refine blk_alloc ?_ _)); refine blk_put (cs := #[.int .i64 t1097, .int .i64 t1098, .int .i64 t1099, .int .i64 t1100, .slice Ao18 t1101.length co18]) ?_ 4 _ rfl; (with_reducible repeat (first | refine blk_drewN ?_ _ | refine blk_drew ?_ | refine blk_alloc ?_ _)); exact BK1104.out⟩, ⟨hb_ HB.out⟩⟩
    ·
     rw [if_neg c31] at H
     have c31b0 : decide (a0_2 < a2) = false := decide_eq_false c31
     clear c31
     (first | rw [c31b0] | (simp only [i64_w, i32_w]; rw [c31b0]) | rw [c31b4] | rw [c31b3] | skip)
     have H' := Aside0.mk H
     clear H
     go_wp2
     go_meet
     case rel => exact ⟨_, (t1101), (.slice Ao18 t1101.length co18), H', ⟨by have := HJ7.out; first | omega | exact Nat.le_refl _⟩, ⟨rq_ HO_1105004.out⟩, ⟨bq_ BK1095.out⟩, ⟨bq_ BK1096.out⟩, ⟨bq_ BK1104.out⟩, ⟨hb_ HB.out⟩⟩
   case rest =>
    clear HC27
    (try clear c1); (try clear c2); (try clear p2); (try clear c3); (try clear c7); (try clear c11); (try clear c15); (try clear c16); (try clear c21); (try clear c21b0); (try clear c21b1); (try clear c22); (try clear c23); (try clear c25); (try clear c27); (try clear c28); (try clear c29); (try clear c31); (try clear c31b0); (try clear c32); (try clear c33); (try clear hcz12_0); (try clear hcz12_1); (try clear hcz12_2); (try clear hcz12_3); (try clear hcz12_4); (try clear hcz17_0); (try clear hcz17_1); (try clear hcz17_2); (try clear hcz17_3); (try clear hcz17_4); (try clear hcz19_0); (try clear hcz19_1); (try clear hcz19_2); (try clear hcz19_3); (try clear hcz19_4); (try clear hcz24_0); (try clear hcz24_1); (try clear hcz24_2); (try clear hcz24_3); (try clear hcz24_4); (try clear hcz26_0); (try clear hcz26_1); (try clear hcz26_2); (try clear hcz26_3); (try clear hcz26_4); (try clear hcz30_0); (try clear hcz30_1); (try clear hcz30_2); (try clear hcz30_3); (try clear hcz30_4); (try clear hcz34_0); (try clear hcz34_1); (try clear hcz34_2); (try clear hcz34_3); (try clear hcz34_4); (try clear hfz12_0); (try clear hfz12_1); (try clear hfz12_2); (try clear hfz12_3); (try clear hfz12_4); (try clear hfz17_0); (try clear hfz17_1); (try clear hfz17_2); (try clear hfz17_3); (try clear hfz17_4); (try clear hfz19_0); (try clear hfz19_1); (try clear hfz19_2); (try clear hfz19_3); (try clear hfz19_4); (try clear hfz24_0); (try clear hfz24_1); (try clear hfz24_2); (try clear hfz24_3); (try clear hfz24_4); (try clear hfz26_0); (try clear hfz26_1); (try clear hfz26_2); (try clear hfz26_3); (try clear hfz26_4); (try clear hfz30_0); (try clear hfz30_1); (try clear hfz30_2); (try clear hfz30_3); (try clear hfz30_4); (try clear hfz34_0); (try clear hfz34_1); (try clear hfz34_2); (try clear hfz34_3); (try clear hfz34_4); (try clear p2)
    obtain ⟨kq, x1105004_26, u1105004, HA, HJ26, HO_1105004, BK1095, BK1096, BK1104, HB⟩ := hcut
    cases kq with
    | zero => exact absurd HA.out (by simp [spec_MakerPut.j1])
    | succ kj26 =>
     have H := HA.out
     clear HA
     simp only [spec_MakerPut.j1] at H
     by_cases c35 : x1105004_26.length < 8796093022208
     ·
      rw [if_pos c35] at H
      have LMc35 := Aside0.mk c35
      clear c35
      obtain ⟨y1107, hy1107⟩ : ∃ y_ : List (S_Mark), y_ = (x1105004_26 ++ [(⟨a3, a4⟩ : S_Mark)]) := ⟨_, rfl⟩
      replace H : ((spec_l1Max.f a1 0).bind fun t1110 => (if (y1107.length : Int) > t1110 then ((some (([] : List (S_Mark)) : List (S_Mark))).bind fun y1111 => ((spec_l1Max.f a1 0).bind fun t1114 => (if 0 ≤ (wrap64 ((y1107.length : Int) - t1114)) then (if (wrap64 ((y1107.length : Int) - t1114)) ≤ (y1107.length : Int) then ((some (y1107.drop ((wrap64 ((y1107.length : Int) - t1114)) : Int).toNat : List (S_Mark))).bind fun y1115 => (if y1111.length + y1115.length < 8796093022208 then (some (t1097, t1098, a2, a3, (y1111 ++ y1115))) else (none))) else (none)) else (none)))) else (some (t1097, t1098, a2, a3, y1107)))) = some (r1, r2, r3, r4, r5) := by first | (rw [hy1107]; with_reducible exact H) | (have H2_ := (Option.bind_some _ _).symm.trans H; rw [hy1107]; with_reducible exact H2_) | (have H2_ := (Option.bind_some _ _).symm.trans H; with_reducible exact H2_) | with_reducible exact H | (rw [hy1107]; exact H) | exact H
      have Ny1107 := Aside0.mk hy1107
      clear hy1107
      replace H := Option.bind_eq_some_iff.mp H
      obtain ⟨t1110, A360, H⟩ := H
      replace H : (if (y1107.length : Int) > t1110 then ((some (([] : List (S_Mark)) : List (S_Mark))).bind fun y1111 => ((spec_l1Max.f a1 0).bind fun t1114 => (if 0 ≤ (wrap64 ((y1107.length : Int) - t1114)) then (if (wrap64 ((y1107.length : Int) - t1114)) ≤ (y1107.length : Int) then ((some (y1107.drop ((wrap64 ((y1107.length : Int) - t1114)) : Int).toNat : List (S_Mark))).bind fun y1115 => (if y1111.length + y1115.length < 8796093022208 then (some (t1097, t1098, a2, a3, (y1111 ++ y1115))) else (none))) else (none)) else (none)))) else (some (t1097, t1098, a2, a3, y1107))) = some (r1, r2, r3, r4, r5) := H
      have A36 := Aside0.mk A360
      clear A360
      by_cases c37 : (y1107.length : Int) > t1110
      ·
       rw [if_pos c37] at H
       have c37b0 : decide (t1110 < (y1107.length : Int)) = true := decide_eq_true c37
       clear c37
       obtain ⟨y1111, hy1111⟩ : ∃ y_ : List (S_Mark), y_ = (([] : List (S_Mark))) := ⟨_, rfl⟩
       replace H : ((spec_l1Max.f a1 0).bind fun t1114 => (if 0 ≤ (wrap64 ((y1107.length : Int) - t1114)) then (if (wrap64 ((y1107.length : Int) - t1114)) ≤ (y1107.length : Int) then ((some (y1107.drop ((wrap64 ((y1107.length : Int) - t1114)) : Int).toNat : List (S_Mark))).bind fun y1115 => (if y1111.length + y1115.length < 8796093022208 then (some (t1097, t1098, a2, a3, (y1111 ++ y1115))) else (none))) else (none)) else (none))) = some (r1, r2, r3, r4, r5) := by first | (rw [hy1111]; with_reducible exact H) | (have H2_ := (Option.bind_some _ _).symm.trans H; rw [hy1111]; with_reducible exact H2_) | (have H2_ := (Option.bind_some _ _).symm.trans H; with_reducible exact H2_) | with_reducible exact H | (rw [hy1111]; exact H) | exact H
       have Ny1111 := Aside0.mk hy1111
       clear hy1111
       replace H := Option.bind_eq_some_iff.mp H
       obtain ⟨t1114, A380, H⟩ := H
       replace H : (if 0 ≤ (wrap64 ((y1107.length : Int) - t1114)) then (if (wrap64 ((y1107.length : Int) - t1114)) ≤ (y1107.length : Int) then ((some (y1107.drop ((wrap64 ((y1107.length : Int) - t1114)) : Int).toNat : List (S_Mark))).bind fun y1115 => (if y1111.length + y1115.length < 8796093022208 then (some (t1097, t1098, a2, a3, (y1111 ++ y1115))) else (none))) else (none)) else (none)) = some (r1, r2, r3, r4, r5) := H
       have A38 := Aside0.mk A380
       clear A380
       obtain ⟨ji39, hji39⟩ : ∃ j_ : Int, (wrap64 ((y1107.length : Int) - t1114)) = j_ := ⟨_, rfl⟩
       replace H : (if 0 ≤ (ji39) then (if (ji39) ≤ (y1107.length : Int) then ((some (y1107.drop ((ji39) : Int).toNat : List (S_Mark))).bind fun y1115 => (if y1111.length + y1115.length < 8796093022208 then (some (t1097, t1098, a2, a3, (y1111 ++ y1115))) else (none))) else (none)) else (none)) = some (r1, r2, r3, r4, r5) := by first | (rw [hji39] at H; exact H) | (simp only [hji39] at H ⊢; exact H)
       (try rw [hji39] at A36)
       (try rw [hji39] at A38)
       have hji39w : (IntKind.i64.wrap ((y1107.length : Int) - t1114)) = ji39 := (i64_w _).trans hji39
       by_cases c40 : 0 ≤ (ji39)
       ·
        rw [if_pos c40] at H
        have c40b0 := eq_true c40
        have c40b1 : decide (0 ≤ (ji39)) = true := decide_eq_true c40
        clear c40
        by_cases c41 : (ji39) ≤ (y1107.length : Int)
        ·
         rw [if_pos c41] at H
         have c41b0 := eq_true c41
         have c41b1 : decide ((ji39) ≤ (y1107.length : Int)) = true := decide_eq_true c41
         clear c41
         obtain ⟨y1115, hy1115⟩ : ∃ y_ : List (S_Mark), y_ = (y1107.drop ((ji39) : Int).toNat) := ⟨_, rfl⟩
         replace H : (if y1111.length + y1115.length < 8796093022208 then (some (t1097, t1098, a2, a3, (y1111 ++ y1115))) else (none)) = some (r1, r2, r3, r4, r5) := by first | (rw [hy1115]; with_reducible exact H) | (have H2_ := (Option.bind_some _ _).symm.trans H; rw [hy1115]; with_reducible exact H2_) | (have H2_ := (Option.bind_some _ _).symm.trans H; with_reducible exact H2_) | with_reducible exact H | (rw [hy1115]; exact H) | exact H
         have Ny1115 := Aside0.mk hy1115
         clear hy1115
         by_cases c42 : y1111.length + y1115.length < 8796093022208
         ·
          rw [if_pos c42] at H
          have LMc42 := Aside0.mk c42
          clear c42
          obtain ⟨y1119, hy1119⟩ : ∃ y_ : List (S_Mark), y_ = (y1111 ++ y1115) := ⟨_, rfl⟩
          replace H : (some (t1097, t1098, a2, a3, y1119)) = some (r1, r2, r3, r4, r5) := by first | (rw [hy1119]; with_reducible exact H) | (have H2_ := (Option.bind_some _ _).symm.trans H; rw [hy1119]; with_reducible exact H2_) | (have H2_ := (Option.bind_some _ _).symm.trans H; with_reducible exact H2_) | with_reducible exact H | (rw [hy1119]; exact H) | exact H
          have Ny1119 := Aside0.mk hy1119
          clear hy1119
          simp only [Option.some.injEq, Prod.mk.injEq] at H
          obtain ⟨rfl, rfl, rfl, rfl, rfl⟩ := H
          have hnb43 := NB1104_1095.out
          have hnc43 := NB1095_1104.out
          have hnb44 := NB1104_1096.out
          have hnc44 := NB1096_1104.out
          have hcz45_0 : wc.cell? ⟨gb1104, 0, none⟩ = some (.int .i64 t1097) := (blk_cell BK1104.out 0).trans rfl
          have hcz45_1 : wc.cell? ⟨gb1104, 1, none⟩ = some (.int .i64 t1098) := (blk_cell BK1104.out 1).trans rfl
          have hcz45_2 : wc.cell? ⟨gb1104, 2, none⟩ = some (.int .i64 t1099) := (blk_cell BK1104.out 2).trans rfl
          have hcz45_3 : wc.cell? ⟨gb1104, 3, none⟩ = some (.int .i64 t1100) := (blk_cell BK1104.out 3).trans rfl
          have hcz45_4 : wc.cell? ⟨gb1104, 4, none⟩ = some (u1105004) := (blk_cell BK1104.out 4).trans rfl
          have hfz45_0 := blk_frozen BK1104.out 0
          have hfz45_1 := blk_frozen BK1104.out 1
          have hfz45_2 := blk_frozen BK1104.out 2
          have hfz45_3 := blk_frozen BK1104.out 3
          have hfz45_4 := blk_frozen BK1104.out 4
          try go_wp2_with (first | ((with_reducible refine gate_builtin (b := .append) (xs := #[.tmp 36, .tmp 40]) rfl ?_); at_builtin; refine Kd.R_append k_Mark (w0 := w) w.heap.size rfl (.tmp 36) (.tmp 40) 52 118 (.agg #[(.int .i64 0), (.int .i64 0)]) 16 rfl Try.underlying52 info118 rfl (by decide) (by omega) u1105004 x1105004_26 (⟨a3, a4⟩ : S_Mark) [.int .i64 a3, .int .i64 a4] (fun _ => True) (fun _ => False) rfl (by first | (go_simp; done) | (go_simp; rfl)) ?aP (fun _ hk => hk.elim) ?aF ?aO ?aB ?aS ?aL ?_; (case aP => exact k_Mark_mkM _ _ _ (⟨a3, a4⟩ : S_Mark)); (case aB => exact (hb_ HB.out)); (case aF => exact (fun _ _ => trivial)); (case aO => exact (by (with_reducible repeat (first | apply Kd.R_alloc | apply Kd.R_drewN | apply Kd.R_drew)); exact Kd.R_mono (Kd.R_far (p := ⟨gb1104, 3, none⟩) (Kd.R_far (p := ⟨gb1104, 2, none⟩) (Kd.R_types HO_1105004.out BK1104.out (by decide)) (fun _ hk => hk.2) (.int .i64 a2)) (fun _ hk => hk.2) (.int .i64 a3)) (fun _ hk => trivial))); (case aS => exact (below_size (hb_ HB.out))); (case aL => have := LMc35.out; omega); intro v1108 w46 ho hb hg hat; rw [← Ny1107.out] at ho; have n0_ := Aside0.mk (blk_grown (g := gb1095) (o := .cells #[.int .i64 a0_0, .int .i64 a0_1, .int .i64 a0_2, .int .i64 a0_3, .slice A0_4 l0_4.length c0_4] 54 (0, 0)) (bf_ NB1095_1104.out BK1095.out) hg (Kd.R_ne HO_1105004.out BK1095.out (by decide))); have n1_ := Aside0.mk (blk_grown (g := gb1096) (o := .cells #[.int .i64 x1097000_7, .int .i64 x1097001_7, .int .i64 x1097002_7, .int .i64 x1097003_7, .slice none 0 0] 54 (0, 0)) (bf_ NB1096_1104.out BK1096.out) hg (Kd.R_ne HO_1105004.out BK1096.out (by decide))); have n2_ := Aside0.mk (blk_grown (g := gb1104) (o := .cells #[.int .i64 t1097, .int .i64 t1098, .int .i64 a2, .int .i64 a3, u1105004] 54 (0, 0)) (bp_ BK1104.out) hg (Kd.R_ne HO_1105004.out BK1104.out (by decide))); have n3_ := Aside0.mk (hb); have n4_ := Aside0.mk (ho); clear BK1095; clear BK1096; clear BK1104; clear HB; clear HO_1105004; have BK1095 := n0_; have BK1096 := n1_; have BK1104 := n2_; have HB := n3_; have HO1109 := n4_; clear n0_ n1_ n2_ n3_ n4_; clear ho hb hg hat; obtain ⟨Ao47, co47, eo47⟩ := Kd.R_slice HO1109.out; subst eo47; have hcz48_0 : w46.cell? ⟨gb1104, 0, none⟩ = some (.int .i64 t1097) := (blk_cell BK1104.out 0).trans rfl; have hcz48_1 : w46.cell? ⟨gb1104, 1, none⟩ = some (.int .i64 t1098) := (blk_cell BK1104.out 1).trans rfl; have hcz48_2 : w46.cell? ⟨gb1104, 2, none⟩ = some (.int .i64 a2) := (blk_cell BK1104.out 2).trans rfl; have hcz48_3 : w46.cell? ⟨gb1104, 3, none⟩ = some (.int .i64 a3) := (blk_cell BK1104.out 3).trans rfl; have hcz48_4 : w46.cell? ⟨gb1104, 4, none⟩ = some (u1105004) := (blk_cell BK1104.out 4).trans rfl; have hfz48_0 := blk_frozen BK1104.out 0; have hfz48_1 := blk_frozen BK1104.out 1; have hfz48_2 := blk_frozen BK1104.out 2; have hfz48_3 := blk_frozen BK1104.out 3; have hfz48_4 := blk_frozen BK1104.out 4))
          have n0_ : Aside0 (Kd.R k_Mark 118 (w46.setCell ⟨gb1104, 4, none⟩ (.slice Ao47 y1107.length co47)) w.heap.size (fun _ => True) (.slice Ao47 y1107.length co47) y1107) := ⟨by (with_reducible repeat (first | apply Kd.R_alloc | apply Kd.R_drewN | apply Kd.R_drew)); exact Kd.R_mono (Kd.R_far (p := ⟨gb1104, 4, none⟩) (Kd.R_types HO1109.out BK1104.out (by decide)) (fun _ hk => hk.2) (.slice Ao47 y1107.length co47)) (fun _ hk => trivial)⟩
          have n1_ : Aside0 ((w46.setCell ⟨gb1104, 4, none⟩ (.slice Ao47 y1107.length co47)).heap[gb1095]? = some (.cells #[.int .i64 a0_0, .int .i64 a0_1, .int .i64 a0_2, .int .i64 a0_3, .slice A0_4 l0_4.length c0_4] 54 (0, 0))) := ⟨by (with_reducible repeat (first | refine blk_drewN ?_ _ | refine blk_drew ?_ | refine blk_alloc ?_ _)); refine blk_far ?_ NB1095_1104.out _; (with_reducible repeat (first | refine blk_drewN ?_ _ | refine blk_drew ?_ | refine blk_alloc ?_ _)); exact BK1095.out⟩
          have n2_ : Aside0 ((w46.setCell ⟨gb1104, 4, none⟩ (.slice Ao47 y1107.length co47)).heap[gb1096]? = some (.cells #[.int .i64 x1097000_7, .int .i64 x1097001_7, .int .i64 x1097002_7, .int .i64 x1097003_7, .slice none 0 0] 54 (0, 0))) := ⟨by (with_reducible repeat (first | refine blk_drewN ?_ _ | refine blk_drew ?_ | refine blk_alloc ?_ _)); refine blk_far ?_ NB1096_1104.out _; (with_reducible repeat (first | refine blk_drewN ?_ _ | refine blk_drew ?_ | refine blk_alloc ?_ _)); exact BK1096.out⟩
          have n3_ : Aside0 ((w46.setCell ⟨gb1104, 4, none⟩ (.slice Ao47 y1107.length co47)).heap[gb1104]? = some (.cells #[.int .i64 t1097, .int .i64 t1098, .int .i64 a2, .int .i64 a3, .slice Ao47 y1107.length co47] 54 (0, 0))) := ⟨by (with_reducible repeat (first | refine blk_drewN ?_ _ | refine blk_drew ?_ | refine blk_alloc ?_ _)); refine blk_put (cs := #[.int .i64 t1097, .int .i64 t1098, .int .i64 a2, .int .i64 a3, u1105004]) ?_ 4 _ rfl; (with_reducible repeat (first | refine blk_drewN ?_ _ | refine blk_drew ?_ | refine blk_alloc ?_ _)); exact BK1104.out⟩
          have n4_ : Aside0 (Below w.heap.size w (w46.setCell ⟨gb1104, 4, none⟩ (.slice Ao47 y1107.length co47))) := ⟨hb_ HB.out⟩
          (try clear HO1109)
          (try clear BK1095)
          (try clear BK1096)
          (try clear BK1104)
          (try clear HB)
          generalize (w46.setCell ⟨gb1104, 4, none⟩ (.slice Ao47 y1107.length co47)) = w49 at n0_ n1_ n2_ n3_ n4_ ⊢
          have HO1109 := n0_
          have BK1095 := n1_
          have BK1096 := n2_
          have BK1104 := n3_
          have HB := n4_
          clear n0_ n1_ n2_ n3_ n4_
          have n0_ := Aside0.mk (Kd.R_drew HO1109.out)
          have n1_ := Aside0.mk (blk_drew BK1095.out)
          have n2_ := Aside0.mk (blk_drew BK1096.out)
          have n3_ := Aside0.mk (blk_drew BK1104.out)
          have n4_ := Aside0.mk (below_drew1 HB.out)
          clear HO1109; clear BK1095
          clear BK1096; clear BK1104
          clear HB
          have HO1109 := n0_
          have BK1095 := n1_
          have BK1096 := n2_
          have BK1104 := n3_
          have HB := n4_
          clear n0_ n1_ n2_ n3_ n4_
          refine start_ (n := 6) (S := fun w' => w'.cell? ⟨gb1104, 0, none⟩ = some (.int .i64 t1097) ∧ w'.cell? ⟨gb1104, 1, none⟩ = some (.int .i64 t1098) ∧ w'.cell? ⟨gb1104, 2, none⟩ = some (.int .i64 a2) ∧ w'.cell? ⟨gb1104, 3, none⟩ = some (.int .i64 a3) ∧ w'.cell? ⟨gb1104, 4, none⟩ = some (.slice Ao47 y1107.length co47)) (ds := []) #[false, false, false, false, false, false] (by kernel_rfl) rfl rfl ⟨(blk_cell BK1104.out 0).trans rfl, (blk_cell BK1104.out 1).trans rfl, (blk_cell BK1104.out 2).trans rfl, (blk_cell BK1104.out 3).trans rfl, (blk_cell BK1104.out 4).trans rfl⟩ (fun hHeld => ?_)
          generalize w49.drew = w50 at HO1109 BK1095 BK1096 BK1104 HB hHeld ⊢
          refine pure_ (i := 0) (N := some 43) (v := ?_) (a' := ?_) #[true, false, false, false, false, false] rfl rfl (by kernel_rfl) (fun _ _ _ h => h) (Or.inl ⟨by rfl, ?_⟩) ?_ ?_; rotate_left; (focus intro w'; go_simp; with_reducible rfl); rotate_left; (focus simp only [Act.put, List.setIfInBounds_toArray, List.set_cons_zero, List.set_cons_succ, i64_w, i32_w]; rfl)
          refine pure_ (i := 3) (N := some 46) (v := ?_) (a' := ?_) #[true, false, false, true, false, false] rfl rfl (by kernel_rfl) (fun _ _ _ h => h) (Or.inl ⟨by rfl, ?_⟩) ?_ ?_; rotate_left; (focus intro w'; go_simp; with_reducible rfl); rotate_left; (focus simp only [Act.put, List.setIfInBounds_toArray, List.set_cons_zero, List.set_cons_succ, i64_w, i32_w]; rfl)
          refine take_ (i := 1) (N := some 44) (v := ?_) (a' := ?_) #[true, true, false, true, false, false] rfl rfl (by kernel_rfl) (fun _ _ _ h => h) (Or.inl ⟨by rfl, ?_⟩) hHeld ?_ ?_
          rotate_left
          ·
           rintro w' ⟨s0, s1, s2, s3, s4⟩
           go_simp
           with_reducible rfl
          rotate_left; (focus simp only [Act.put, List.setIfInBounds_toArray, List.set_cons_zero, List.set_cons_succ, i64_w, i32_w]; rfl)
          refine pure_ (i := 2) (N := some 45) (v := ?_) (a' := ?_) #[true, true, true, true, false, false] rfl rfl (by kernel_rfl) (fun _ _ _ h => h) (Or.inl ⟨by rfl, ?_⟩) ?_ ?_; rotate_left; (focus intro w'; go_simp; with_reducible rfl); rotate_left; (focus simp only [Act.put, List.setIfInBounds_toArray, List.set_cons_zero, List.set_cons_succ, i64_w, i32_w]; rfl)
          refine one_ (i := 4) (N := some 47) #[true, true, true, true, true, false] rfl rfl (by kernel_rfl) (by decide) (fun K hK => ?_)
          refine goes_ Try.func113 (by kernel_rfl) rfl #[.int .i64 a1, .int .i64 0] (by rfl) rfl rfl sm_ ?_
          with_reducible refine (spec_l1Max.calls a1 0 t1110 _ A36.out).mono ?_
          rintro e w' ⟨rfl, ⟨nd, rfl⟩⟩
          refine ⟨_, rfl, ?_⟩
          refine hK.out _ _ ⟨(blk_cell BK1104.out 0).trans rfl, (blk_cell BK1104.out 1).trans rfl, (blk_cell BK1104.out 2).trans rfl, (blk_cell BK1104.out 3).trans rfl, (blk_cell BK1104.out 4).trans rfl⟩ (fun hHeld => ?_)
          clear hK K
          refine norm_ (a' := ?_) ?_ ?_
          rotate_left
          ·
           show Act.put _ (some 47) _ = _
           simp only [Act.put, List.setIfInBounds_toArray, List.set_cons_zero, List.set_cons_succ, i64_w, i32_w]
           rfl
          refine pure_ (i := 5) (N := some 48) (v := ?_) (a' := ?_) #[true, true, true, true, true, true] rfl rfl (by kernel_rfl) (fun _ _ _ h => h) (Or.inl ⟨by rfl, ?_⟩) ?_ ?_; rotate_left; (focus intro w'; go_simp; with_reducible rfl); rotate_left; (focus simp only [Act.put, List.setIfInBounds_toArray, List.set_cons_zero, List.set_cons_succ, i64_w, i32_w]; rfl)
          refine done_ (by kernel_rfl) ?_
          try go_wp2
          (try (rw [drewN_self w50]; generalize hq_ : World.drewN w50 _ = w50; have n0_ : Aside0 (Kd.R k_Mark 118 w50 w.heap.size (fun _ => True) (.slice Ao47 y1107.length co47) y1107) := ⟨by rw [← hq_]; exact (rq_ HO1109.out)⟩; have n1_ : Aside0 (w50.heap[gb1095]? = some (.cells #[.int .i64 a0_0, .int .i64 a0_1, .int .i64 a0_2, .int .i64 a0_3, .slice A0_4 l0_4.length c0_4] 54 (0, 0))) := ⟨by rw [← hq_]; exact (bq_ BK1095.out)⟩; have n2_ : Aside0 (w50.heap[gb1096]? = some (.cells #[.int .i64 x1097000_7, .int .i64 x1097001_7, .int .i64 x1097002_7, .int .i64 x1097003_7, .slice none 0 0] 54 (0, 0))) := ⟨by rw [← hq_]; exact (bq_ BK1096.out)⟩; have n3_ : Aside0 (w50.heap[gb1104]? = some (.cells #[.int .i64 t1097, .int .i64 t1098, .int .i64 a2, .int .i64 a3, .slice Ao47 y1107.length co47] 54 (0, 0))) := ⟨by rw [← hq_]; exact (bq_ BK1104.out)⟩; have n4_ : Aside0 (Below w.heap.size w w50) := ⟨by rw [← hq_]; exact (hb_ HB.out)⟩; clear HO1109 BK1095 BK1096 BK1104 HB hq_; have HO1109 := n0_; have BK1095 := n1_; have BK1096 := n2_; have BK1104 := n3_; have HB := n4_; clear n0_ n1_ n2_ n3_ n4_))
          have n0_ := Aside0.mk (Kd.R_drew HO1109.out)
          have n1_ := Aside0.mk (blk_drew BK1095.out)
          have n2_ := Aside0.mk (blk_drew BK1096.out)
          have n3_ := Aside0.mk (blk_drew BK1104.out)
          have n4_ := Aside0.mk (below_drew1 HB.out)
          clear HO1109; clear BK1095
          clear BK1096; clear BK1104
          clear HB
          have HO1109 := n0_
          have BK1095 := n1_
          have BK1096 := n2_
          have BK1104 := n3_
          have HB := n4_
          clear n0_ n1_ n2_ n3_ n4_
          refine start_ (n := 13) (S := fun w' => w'.cell? ⟨gb1104, 0, none⟩ = some (.int .i64 t1097) ∧ w'.cell? ⟨gb1104, 1, none⟩ = some (.int .i64 t1098) ∧ w'.cell? ⟨gb1104, 2, none⟩ = some (.int .i64 a2) ∧ w'.cell? ⟨gb1104, 3, none⟩ = some (.int .i64 a3) ∧ w'.cell? ⟨gb1104, 4, none⟩ = some (.slice Ao47 y1107.length co47)) (ds := [12]) #[false, false, false, false, false, false, false, false, false, false, false, false, false] (by kernel_rfl) rfl rfl ⟨(blk_cell BK1104.out 0).trans rfl, (blk_cell BK1104.out 1).trans rfl, (blk_cell BK1104.out 2).trans rfl, (blk_cell BK1104.out 3).trans rfl, (blk_cell BK1104.out 4).trans rfl⟩ (fun hHeld => ?_); refine with_tabW spec_MakerPut.tab11 spec_MakerPut.bits11 (fun HT_ HW_ => ?_)
          generalize w50.drew = w51 at HO1109 BK1095 BK1096 BK1104 HB hHeld ⊢
          refine pI_ 1 50 HT_ #[false, true, false, false, false, false, false, false, false, false, false, false, false] rfl rfl ?_
          refine pI_ 3 52 HT_ #[false, true, false, true, false, false, false, false, false, false, false, false, false] rfl rfl ?_
          refine pI_ 6 55 HT_ #[false, true, false, true, false, false, true, false, false, false, false, false, false] rfl rfl ?_
          refine take_ (i := 2) (N := some 51) (v := ?_) (a' := ?_) #[false, true, true, true, false, false, true, false, false, false, false, false, false] rfl rfl (take_ofW HT_.out HW_.out (by kernel_rfl)) (fun _ _ _ h => h) (Or.inl ⟨by rfl, ?_⟩) hHeld ?_ ?_
          rotate_left
          ·
           rintro w' ⟨s0, s1, s2, s3, s4⟩
           go_simp
           with_reducible rfl
          rotate_left; (focus simp only [Act.put, List.setIfInBounds_toArray, List.set_cons_zero, List.set_cons_succ, i64_w, i32_w]; rfl)
          refine take_ (i := 4) (N := some 53) (v := ?_) (a' := ?_) #[false, true, true, true, true, false, true, false, false, false, false, false, false] rfl rfl (take_ofW HT_.out HW_.out (by kernel_rfl)) (fun _ _ _ h => h) (Or.inl ⟨by rfl, ?_⟩) hHeld ?_ ?_
          rotate_left
          ·
           rintro w' ⟨s0, s1, s2, s3, s4⟩
           go_simp
           with_reducible rfl
          rotate_left; (focus simp only [Act.put, List.setIfInBounds_toArray, List.set_cons_zero, List.set_cons_succ, i64_w, i32_w]; rfl)
          refine pI_ 5 54 HT_ #[false, true, true, true, true, true, true, false, false, false, false, false, false] rfl rfl ?_
          have q55 : ((ji39) : Int) ≤ ((y1107.length : Int) : Int) := of_decide_eq_true (by first | (with_reducible assumption) | assumption)
          obtain ⟨i055, hi055, _, hsz55, _⟩ := info_parts info118
          have q055 : (0 : Int) ≤ ((ji39) : Int) := of_decide_eq_true (by first | (with_reducible assumption) | assumption)
          have hcut55 := cut_from (P := Try.prog) 52 118 .i64 Try.underlying52 hi055 2 hsz55 Ao47 y1107.length co47 (ji39) q055 q55
          obtain ⟨A55, hA55⟩ : ∃ A1, A1 = (if co47 = ((ji39) : Int).toNat then Ao47 else (Ao47 : Option Addr).map (·.add (((ji39) : Int).toNat * 2))) := ⟨_, rfl⟩
          obtain ⟨c55, hc55⟩ : ∃ c1, c1 = co47 - ((ji39) : Int).toNat := ⟨_, rfl⟩
          have hy55 : y1115.length = y1107.length - ((ji39) : Int).toNat := (by rw [Ny1115.out, List.length_drop] <;> omega)
          rw [← hy55, ← hA55, ← hc55] at hcut55
          have KA55 := Aside0.mk hA55
          have KC55 := Aside0.mk hc55
          clear hy55 hA55 hc55 hi055 hsz55
          replace q55 := eq_true q55
          refine join_ (σ := Value) 3 spec_MakerPut.m0 (fun s_ => [(49, s_), (56, .int .i64 t1114), (57, .int .i64 ji39), (58, .slice A55 y1115.length c55)]) (fun s_ w' => (w'.cell? ⟨gb1104, 0, none⟩ = some (.int .i64 t1097) ∧ w'.cell? ⟨gb1104, 1, none⟩ = some (.int .i64 t1098) ∧ w'.cell? ⟨gb1104, 2, none⟩ = some (.int .i64 a2) ∧ w'.cell? ⟨gb1104, 3, none⟩ = some (.int .i64 a3) ∧ w'.cell? ⟨gb1104, 4, none⟩ = some (.slice Ao47 y1107.length co47)) ∧ (Kd.R k_Mark 118 w' w.heap.size (fun k_ => some k_ ≠ (s_ : Value).ownBlock) (.slice Ao47 y1107.length co47) y1107) ∧ (Kd.R k_Mark 118 w' w.heap.size (fun k_ => some k_ ≠ (.slice Ao47 y1107.length co47 : Value).ownBlock) s_ y1111) ∧ (w'.heap[gb1095]? = some (.cells #[.int .i64 a0_0, .int .i64 a0_1, .int .i64 a0_2, .int .i64 a0_3, .slice A0_4 l0_4.length c0_4] 54 (0, 0))) ∧ (w'.heap[gb1096]? = some (.cells #[.int .i64 x1097000_7, .int .i64 x1097001_7, .int .i64 x1097002_7, .int .i64 x1097003_7, .slice none 0 0] 54 (0, 0))) ∧ (w'.heap[gb1104]? = some (.cells #[.int .i64 t1097, .int .i64 t1098, .int .i64 a2, .int .i64 a3, .slice Ao47 y1107.length co47] 54 (0, 0))) ∧ (Below w.heap.size w w')) ?_ ?_
          rotate_left
          ·
           intro hCont
           refine two_ (i := 0) (j := 7) (Ni := some 49) (Nj := some 56) #[true, true, true, true, true, true, true, false, false, false, false, false, false] #[false, true, true, true, true, true, true, true, false, false, false, false, false] rfl rfl rfl rfl (two_of HT_.out (by kernel_rfl)) (by decide) (by decide) (fun K hK => ?_) (fun K hK => ?_)
           ·
            skip
            refine Kd.R_lit_step k_Mark _ 118 ?hg (N := 49) ?hd (xs := ([] : List (S_Mark))) (inner := []) (ok := fun _ => True) (okp := fun _ => True) ?hr ?hp (fun _ hk => hk) trivial (Below.refl _ _) (Nat.le_refl _) (by simp) ?_; (case hd => rfl); (case hg => rfl); (case hr => first | (go_simp; done) | (go_simp; rfl)); (case hp => exact (Reps.none _ _))
            intro v1112 w52 ho53 hb hg_ hnew_
            clear hg_ hnew_
            (first | rw [← Ny1111.out] at ho53 | (simp only [Int.reduceToNat] at ho53; rw [← Ny1111.out] at ho53))
            have n0_ := Aside0.mk (Kd.R_elder' (rq_ HO1109.out) (Kd.R_base ho53) hb)
            have n1_ := Aside0.mk (Kd.R_lower (Kd.R_new' ho53 (Kd.R_lt (rq_ HO1109.out))) (below_size (hb_ HB.out)))
            have n2_ := Aside0.mk (bb_ BK1095.out hb)
            have n3_ := Aside0.mk (bb_ BK1096.out hb)
            have n4_ := Aside0.mk (bb_ BK1104.out hb)
            have n5_ := Aside0.mk (below_step (hb_ HB.out) hb)
            clear HO1109; clear BK1095
            clear BK1096; clear BK1104
            clear HB
            have HO1109 := n0_
            have HO1113 := n1_
            have BK1095 := n2_
            have BK1096 := n3_
            have BK1104 := n4_
            have HB := n5_
            clear n0_ n1_ n2_ n3_ n4_ n5_; clear hb ho53
            refine hK.out _ _ ⟨(blk_cell BK1104.out 0).trans rfl, (blk_cell BK1104.out 1).trans rfl, (blk_cell BK1104.out 2).trans rfl, (blk_cell BK1104.out 3).trans rfl, (blk_cell BK1104.out 4).trans rfl⟩ (fun hHeld => ?_)
            clear hK K
            refine norm_ (a' := ?_) ?_ ?_
            rotate_left
            ·
             show Act.put _ (some 49) _ = _
             simp only [Act.put, List.setIfInBounds_toArray, List.set_cons_zero, List.set_cons_succ, i64_w, i32_w]
             rfl
            refine one_ (i := 7) (N := some 56) #[true, true, true, true, true, true, true, true, false, false, false, false, false] rfl rfl (one_of HT_.out (by kernel_rfl)) (by decide) (fun K hK => ?_)
            refine goes_ Try.func113 (by kernel_rfl) rfl #[.int .i64 a1, .int .i64 0] (by rfl) rfl rfl sm_ ?_
            with_reducible refine (spec_l1Max.calls a1 0 t1114 _ A38.out).mono ?_
            rintro e w' ⟨rfl, ⟨nd, rfl⟩⟩
            refine ⟨_, rfl, ?_⟩
            refine hK.out _ _ ⟨(blk_cell BK1104.out 0).trans rfl, (blk_cell BK1104.out 1).trans rfl, (blk_cell BK1104.out 2).trans rfl, (blk_cell BK1104.out 3).trans rfl, (blk_cell BK1104.out 4).trans rfl⟩ (fun hHeld => ?_)
            clear hK K
            refine norm_ (a' := ?_) ?_ ?_
            rotate_left
            ·
             show Act.put _ (some 56) _ = _
             simp only [Act.put, List.setIfInBounds_toArray, List.set_cons_zero, List.set_cons_succ, i64_w, i32_w]
             rfl
            refine pI_ 8 57 HT_ #[true, true, true, true, true, true, true, true, true, false, false, false, false] rfl rfl ?_
            refine pI_ 9 58 HT_ spec_MakerPut.m0 rfl rfl ?_
            exact norm_ (by simp only [putAll, Act.put, List.setIfInBounds_toArray, List.set_cons_zero, List.set_cons_succ]) (hCont (v1112) _ ⟨hHeld, (rm_ HO1109.out), (rm_ HO1113.out), (bq_ BK1095.out), (bq_ BK1096.out), (bq_ BK1104.out), (hb_ HB.out)⟩)
           ·
            skip
            refine goes_ Try.func113 (by kernel_rfl) rfl #[.int .i64 a1, .int .i64 0] (by rfl) rfl rfl sm_ ?_
            with_reducible refine (spec_l1Max.calls a1 0 t1114 _ A38.out).mono ?_
            rintro e w' ⟨rfl, ⟨nd, rfl⟩⟩
            refine ⟨_, rfl, ?_⟩
            refine hK.out _ _ ⟨(blk_cell BK1104.out 0).trans rfl, (blk_cell BK1104.out 1).trans rfl, (blk_cell BK1104.out 2).trans rfl, (blk_cell BK1104.out 3).trans rfl, (blk_cell BK1104.out 4).trans rfl⟩ (fun hHeld => ?_)
            clear hK K
            refine norm_ (a' := ?_) ?_ ?_
            rotate_left
            ·
             show Act.put _ (some 56) _ = _
             simp only [Act.put, List.setIfInBounds_toArray, List.set_cons_zero, List.set_cons_succ, i64_w, i32_w]
             rfl
            refine pI_ 8 57 HT_ #[false, true, true, true, true, true, true, true, true, false, false, false, false] rfl rfl ?_
            refine pI_ 9 58 HT_ #[false, true, true, true, true, true, true, true, true, true, false, false, false] rfl rfl ?_
            refine one_ (i := 0) (N := some 49) spec_MakerPut.m0 rfl rfl (one_of HT_.out (by kernel_rfl)) (by decide) (fun K hK => ?_)
            refine Kd.R_lit_step k_Mark _ 118 ?hg (N := 49) ?hd (xs := ([] : List (S_Mark))) (inner := []) (ok := fun _ => True) (okp := fun _ => True) ?hr ?hp (fun _ hk => hk) trivial (Below.refl _ _) (Nat.le_refl _) (by simp) ?_; (case hd => rfl); (case hg => rfl); (case hr => first | (go_simp; done) | (go_simp; rfl)); (case hp => exact (Reps.none _ _))
            intro v1112 w52 ho53 hb hg_ hnew_
            clear hg_ hnew_
            (first | rw [← Ny1111.out] at ho53 | (simp only [Int.reduceToNat] at ho53; rw [← Ny1111.out] at ho53))
            have n0_ := Aside0.mk (Kd.R_elder' (rq_ HO1109.out) (Kd.R_base ho53) hb)
            have n1_ := Aside0.mk (Kd.R_lower (Kd.R_new' ho53 (Kd.R_lt (rq_ HO1109.out))) (below_size (hb_ HB.out)))
            have n2_ := Aside0.mk (bb_ BK1095.out hb)
            have n3_ := Aside0.mk (bb_ BK1096.out hb)
            have n4_ := Aside0.mk (bb_ BK1104.out hb)
            have n5_ := Aside0.mk (below_step (hb_ HB.out) hb)
            clear HO1109; clear BK1095
            clear BK1096; clear BK1104
            clear HB
            have HO1109 := n0_
            have HO1113 := n1_
            have BK1095 := n2_
            have BK1096 := n3_
            have BK1104 := n4_
            have HB := n5_
            clear n0_ n1_ n2_ n3_ n4_ n5_; clear hb ho53
            refine hK.out _ _ ⟨(blk_cell BK1104.out 0).trans rfl, (blk_cell BK1104.out 1).trans rfl, (blk_cell BK1104.out 2).trans rfl, (blk_cell BK1104.out 3).trans rfl, (blk_cell BK1104.out 4).trans rfl⟩ (fun hHeld => ?_)
            clear hK K
            refine norm_ (a' := ?_) ?_ ?_
            rotate_left
            ·
             show Act.put _ (some 49) _ = _
             simp only [Act.put, List.setIfInBounds_toArray, List.set_cons_zero, List.set_cons_succ, i64_w, i32_w]
             rfl
            exact norm_ (by simp only [putAll, Act.put, List.setIfInBounds_toArray, List.set_cons_zero, List.set_cons_succ]) (hCont (v1112) _ ⟨hHeld, (rm_ HO1109.out), (rm_ HO1113.out), (bq_ BK1095.out), (bq_ BK1096.out), (bq_ BK1104.out), (hb_ HB.out)⟩)
          rintro v1112 w54 ⟨hS_, h0_, h1_, h2_, h3_, h4_, h5_⟩
          have n0_ : Aside0 (Kd.R k_Mark 118 w54 w.heap.size (fun k_ => some k_ ≠ (v1112 : Value).ownBlock) (.slice Ao47 y1107.length co47) y1107) := ⟨h0_⟩
          have n1_ : Aside0 (Kd.R k_Mark 118 w54 w.heap.size (fun k_ => some k_ ≠ (.slice Ao47 y1107.length co47 : Value).ownBlock) v1112 y1111) := ⟨h1_⟩
          have n2_ : Aside0 (w54.heap[gb1095]? = some (.cells #[.int .i64 a0_0, .int .i64 a0_1, .int .i64 a0_2, .int .i64 a0_3, .slice A0_4 l0_4.length c0_4] 54 (0, 0))) := ⟨h2_⟩
          have n3_ : Aside0 (w54.heap[gb1096]? = some (.cells #[.int .i64 x1097000_7, .int .i64 x1097001_7, .int .i64 x1097002_7, .int .i64 x1097003_7, .slice none 0 0] 54 (0, 0))) := ⟨h3_⟩
          have n4_ : Aside0 (w54.heap[gb1104]? = some (.cells #[.int .i64 t1097, .int .i64 t1098, .int .i64 a2, .int .i64 a3, .slice Ao47 y1107.length co47] 54 (0, 0))) := ⟨h4_⟩
          have n5_ : Aside0 (Below w.heap.size w w54) := ⟨h5_⟩
          clear HO1109; clear BK1095
          clear BK1096; clear BK1104
          clear HB; clear h0_ h1_ h2_ h3_ h4_ h5_
          have HO1109 := n0_
          have HO1113 := n1_
          have BK1095 := n2_
          have BK1096 := n3_
          have BK1104 := n4_
          have HB := n5_
          clear n0_ n1_ n2_ n3_ n4_ n5_
          have hHeld : w54.cell? ⟨gb1104, 0, none⟩ = some (.int .i64 t1097) ∧ w54.cell? ⟨gb1104, 1, none⟩ = some (.int .i64 t1098) ∧ w54.cell? ⟨gb1104, 2, none⟩ = some (.int .i64 a2) ∧ w54.cell? ⟨gb1104, 3, none⟩ = some (.int .i64 a3) ∧ w54.cell? ⟨gb1104, 4, none⟩ = some (.slice Ao47 y1107.length co47) := hS_
          have q55o : ((ji39) : Int) ≤ ((y1107.length : Int) : Int) := of_eq_true q55
          have hroom55 : y1107.length ≤ co47 := (Kd.R_reads' HO1109.out).2.1
          have hC55 : Kd.C k_Mark _ Ao47 y1107.length y1107 := (Kd.R_reads' HO1109.out).2.2
          have hr55 := Kd.C_drop (m := ((ji39) : Int).toNat) (c := co47) hC55 (by omega) hroom55
          have hA55 := KA55.out
          have hc55 := KC55.out
          have hy55 : y1115.length = y1107.length - ((ji39) : Int).toNat := (by rw [Ny1115.out, List.length_drop] <;> omega)
          rw [show (y1107).drop ((ji39) : Int).toNat = y1115 from Ny1115.out.symm] at hr55
          replace hr55 : Kd.C k_Mark _ A55 y1115.length y1115 := (by rw [hA55]; exact hr55)
          have HR1118 := Aside0.mk hr55
          have HC1118 := Aside0.mk (show y1115.length ≤ c55 from by rw [hy55, hc55]; exact Nat.sub_le_sub_right hroom55 _)
          have KY55 := Aside0.mk hy55
          have KL55 := Aside0.mk (show ((ji39) : Int).toNat ≤ y1107.length from by omega)
          clear hr55 hC55 hroom55 hc55 hy55 hA55 q55o
          refine norm_ (a' := ?_) ?_ ?_
          rotate_left; (focus simp only [putAll, Act.put, List.setIfInBounds_toArray, List.set_cons_zero, List.set_cons_succ]; rfl)
          refine one_ (i := 10) (N := some 59) #[true, true, true, true, true, true, true, true, true, true, true, false, false] rfl rfl (one_of HT_.out (by kernel_rfl)) (by decide) (fun K hK => ?_)
          refine Kd.R_append_rows_step k_Mark (w0 := w) w.heap.size (by rfl) (.tmp 49) (.tmp 58) 52 118 (.agg #[(.int .i64 0), (.int .i64 0)]) 16 rfl Try.underlying52 info118 rfl (by decide) (by omega) v1112 y1111 y1115 _ _ _ (fun k_ => some k_ ≠ (.slice Ao47 y1107.length co47 : Value).ownBlock) (fun _ => False) rfl rfl ?aO ?aR (fun _ _ h => h) (fun _ h => h.elim) ?aF ?aB ?aS ?aL ?_
          (case aR => repeat (first | exact (by repeat (first | (with_reducible exact HR1118.out) | (with_reducible refine Kd.C_alloc ?_ _) | (with_reducible refine Kd.C_drewN ?_ _) | (with_reducible refine Kd.C_drew ?_) | exact HR1118.out)) | (with_reducible refine Kd.C_alloc ?_ _) | (with_reducible refine Kd.C_drewN ?_ _) | (with_reducible refine Kd.C_drew ?_)))
          (case aB => exact (hb_ HB.out))
          (case aF => exact (fun k_ hk => Kd.fresh' (Kd.R_lt (rq_ HO1109.out)) k_ hk))
          (case aO => exact (rq_ HO1113.out))
          (case aS => exact (below_size (hb_ HB.out)))
          (case aL => have := LMc42.out; omega)
          intro v1120 w56 ho hb hg hat
          rw [← Ny1119.out] at ho
          have n0_ := Aside0.mk (blk_grown (g := gb1095) (o := .cells #[.int .i64 a0_0, .int .i64 a0_1, .int .i64 a0_2, .int .i64 a0_3, .slice A0_4 l0_4.length c0_4] 54 (0, 0)) (bq_ BK1095.out) hg (Kd.R_ne HO1113.out BK1095.out (by decide)))
          have n1_ := Aside0.mk (blk_grown (g := gb1096) (o := .cells #[.int .i64 x1097000_7, .int .i64 x1097001_7, .int .i64 x1097002_7, .int .i64 x1097003_7, .slice none 0 0] 54 (0, 0)) (bq_ BK1096.out) hg (Kd.R_ne HO1113.out BK1096.out (by decide)))
          have n2_ := Aside0.mk (blk_grown (g := gb1104) (o := .cells #[.int .i64 t1097, .int .i64 t1098, .int .i64 a2, .int .i64 a3, .slice Ao47 y1107.length co47] 54 (0, 0)) (bq_ BK1104.out) hg (Kd.R_ne HO1113.out BK1104.out (by decide)))
          have n3_ := Aside0.mk (Kd.R_after (ok := (fun _ => True)) (by (with_reducible repeat (first | apply Kd.R_alloc | apply Kd.R_drewN | apply Kd.R_drew)); exact Kd.R_mono HO1109.out (fun _ hk => ⟨trivial, hk⟩)) hg hat)
          have n4_ := Aside0.mk (hb)
          have n5_ := Aside0.mk ((show Kd.C k_Mark w56 A55 y1115.length y1115 from by rw [Ny1115.out, KA55.out]; exact Kd.C_drop (m := ((ji39) : Int).toNat) (c := co47) ((Kd.R_reads' (Kd.R_after (ok := (fun _ => True)) (by (with_reducible repeat (first | apply Kd.R_alloc | apply Kd.R_drewN | apply Kd.R_drew)); exact Kd.R_mono HO1109.out (fun _ hk => ⟨trivial, hk⟩)) hg hat)).2.2) KL55.out ((Kd.R_reads' (Kd.R_after (ok := (fun _ => True)) (by (with_reducible repeat (first | apply Kd.R_alloc | apply Kd.R_drewN | apply Kd.R_drew)); exact Kd.R_mono HO1109.out (fun _ hk => ⟨trivial, hk⟩)) hg hat)).2.1)))
          have n6_ := Aside0.mk (ho)
          clear BK1095; clear BK1096
          clear BK1104; clear HO1109
          clear HB; clear HR1118
          clear HO1113
          have BK1095 := n0_
          have BK1096 := n1_
          have BK1104 := n2_
          have HO1109 := n3_
          have HB := n4_
          have HR1118 := n5_
          have HO1121 := n6_
          clear n0_ n1_ n2_ n3_ n4_ n5_ n6_; clear ho hb hg hat
          obtain ⟨Ao57, co57, eo57⟩ := Kd.R_slice HO1121.out
          (first | subst eo57 | (injection eo57 with f1_ f2_ f3_; have f4_ := f1_.symm; have f5_ := f3_.symm; clear f1_ f2_ f3_; subst f4_; subst f5_))
          refine hK.out _ _ ⟨(blk_cell BK1104.out 0).trans rfl, (blk_cell BK1104.out 1).trans rfl, (blk_cell BK1104.out 2).trans rfl, (blk_cell BK1104.out 3).trans rfl, (blk_cell BK1104.out 4).trans rfl⟩ (fun hHeld => ?_)
          clear hK K
          refine norm_ (a' := ?_) ?_ ?_
          rotate_left
          ·
           show Act.put _ (some 59) _ = _
           simp only [Act.put, List.setIfInBounds_toArray, List.set_cons_zero, List.set_cons_succ, i64_w, i32_w]
           rfl
          refine pI_ 11 60 HT_ #[true, true, true, true, true, true, true, true, true, true, true, true, false] rfl rfl ?_
          refine last_ (i := 12) (N := none) #[true, true, true, true, true, true, true, true, true, true, true, true, true] rfl rfl (one_of HT_.out (by kernel_rfl)) (by decide) (fun K hK => ?_)
          have hs58 : w56.cell? ⟨gb1104, 4, none⟩ = some (.slice Ao47 y1107.length co47) := (blk_cell BK1104.out 4).trans rfl
          have hfs58 := blk_frozen BK1104.out 4
          have hns58_0 := NB1095_1104.out
          have hns58_1 := NB1096_1104.out
          have hms58_0 := NB1104_1095.out
          have hms58_1 := NB1104_1096.out
          refine skip_ (w1 := ?_) (by rfl) rfl ?_ ?_
          rotate_left; (focus go_simp; rfl)
          refine hK.out _ _ ?_
          clear hK K
          refine done_ (done_of HT_.out (by kernel_rfl)) ?_
          have hcz59_0 : w56.cell? ⟨gb1104, 0, none⟩ = some (.int .i64 t1097) := (blk_cell BK1104.out 0).trans rfl
          have hcz59_1 : w56.cell? ⟨gb1104, 1, none⟩ = some (.int .i64 t1098) := (blk_cell BK1104.out 1).trans rfl
          have hcz59_2 : w56.cell? ⟨gb1104, 2, none⟩ = some (.int .i64 a2) := (blk_cell BK1104.out 2).trans rfl
          have hcz59_3 : w56.cell? ⟨gb1104, 3, none⟩ = some (.int .i64 a3) := (blk_cell BK1104.out 3).trans rfl
          have hcz59_4 : w56.cell? ⟨gb1104, 4, none⟩ = some (.slice Ao47 y1107.length co47) := (blk_cell BK1104.out 4).trans rfl
          have hfz59_0 := blk_frozen BK1104.out 0
          have hfz59_1 := blk_frozen BK1104.out 1
          have hfz59_2 := blk_frozen BK1104.out 2
          have hfz59_3 := blk_frozen BK1104.out 3
          have hfz59_4 := blk_frozen BK1104.out 4
          have hnb60 := NB1096_1095.out
          have hnc60 := NB1095_1096.out
          have hcz61_0 : w56.cell? ⟨gb1096, 0, none⟩ = some (.int .i64 x1097000_7) := (blk_cell BK1096.out 0).trans rfl
          have hcz61_1 : w56.cell? ⟨gb1096, 1, none⟩ = some (.int .i64 x1097001_7) := (blk_cell BK1096.out 1).trans rfl
          have hcz61_2 : w56.cell? ⟨gb1096, 2, none⟩ = some (.int .i64 x1097002_7) := (blk_cell BK1096.out 2).trans rfl
          have hcz61_3 : w56.cell? ⟨gb1096, 3, none⟩ = some (.int .i64 x1097003_7) := (blk_cell BK1096.out 3).trans rfl
          have hcz61_4 : w56.cell? ⟨gb1096, 4, none⟩ = some (.slice none 0 0) := (blk_cell BK1096.out 4).trans rfl
          have hfz61_0 := blk_frozen BK1096.out 0
          have hfz61_1 := blk_frozen BK1096.out 1
          have hfz61_2 := blk_frozen BK1096.out 2
          have hfz61_3 := blk_frozen BK1096.out 3
          have hfz61_4 := blk_frozen BK1096.out 4
          try go_wp2
          refine bodyPost_ret (results_cell_row rfl _ _ gb1096 54 #[.int .i64 t1097, .int .i64 t1098, .int .i64 a2, .int .i64 a3, .slice Ao57 y1119.length co57] (0, 0) _ rfl (by (with_reducible repeat (first | refine blk_drewN ?_ _ | refine blk_drew ?_ | refine blk_alloc ?_ _)); refine blk_put (cs := #[.int .i64 t1097, .int .i64 t1098, .int .i64 a2, .int .i64 a3, .slice none 0 0]) ?_ 4 _ rfl; (with_reducible repeat (first | refine blk_drewN ?_ _ | refine blk_drew ?_ | refine blk_alloc ?_ _)); refine blk_put (cs := #[.int .i64 t1097, .int .i64 t1098, .int .i64 a2, .int .i64 x1097003_7, .slice none 0 0]) ?_ 3 _ rfl; (with_reducible repeat (first | refine blk_drewN ?_ _ | refine blk_drew ?_ | refine blk_alloc ?_ _)); refine blk_put (cs := #[.int .i64 t1097, .int .i64 t1098, .int .i64 x1097002_7, .int .i64 x1097003_7, .slice none 0 0]) ?_ 2 _ rfl; (with_reducible repeat (first | refine blk_drewN ?_ _ | refine blk_drew ?_ | refine blk_alloc ?_ _)); refine blk_put (cs := #[.int .i64 t1097, .int .i64 x1097001_7, .int .i64 x1097002_7, .int .i64 x1097003_7, .slice none 0 0]) ?_ 1 _ rfl; (with_reducible repeat (first | refine blk_drewN ?_ _ | refine blk_drew ?_ | refine blk_alloc ?_ _)); refine blk_put (cs := #[.int .i64 x1097000_7, .int .i64 x1097001_7, .int .i64 x1097002_7, .int .i64 x1097003_7, .slice none 0 0]) ?_ 0 _ rfl; (with_reducible repeat (first | refine blk_drewN ?_ _ | refine blk_drew ?_ | refine blk_alloc ?_ _)); refine blk_far ?_ NB1096_1104.out _; (with_reducible repeat (first | refine blk_drewN ?_ _ | refine blk_drew ?_ | refine blk_alloc ?_ _)); exact BK1096.out) Try.underlying54 rfl (by kernel_rfl)) rfl ?_
          exact ⟨_, by first | rfl | (simp [errW_none, errW_some] <;> rfl) | (simp only [← hji39]; first | rfl | (simp [errW_none, errW_some] <;> rfl)) | (simp [*, errW_none, errW_some] <;> rfl), by (with_reducible repeat (first | apply Kd.R_alloc | apply Kd.R_drewN | apply Kd.R_drew)); exact Kd.R_mono (Kd.R_far (p := ⟨gb1096, 4, none⟩) (Kd.R_far (p := ⟨gb1096, 3, none⟩) (Kd.R_far (p := ⟨gb1096, 2, none⟩) (Kd.R_far (p := ⟨gb1096, 1, none⟩) (Kd.R_far (p := ⟨gb1096, 0, none⟩) (Kd.R_far (p := ⟨gb1104, 4, none⟩) (Kd.R_types (Kd.R_types HO1121.out BK1104.out (by decide)) BK1096.out (by decide)) (fun _ hk => hk.1.2) (.slice Ao57 y1119.length co57)) (fun _ hk => hk.2) (.int .i64 t1097)) (fun _ hk => hk.2) (.int .i64 t1098)) (fun _ hk => hk.2) (.int .i64 a2)) (fun _ hk => hk.2) (.int .i64 a3)) (fun _ hk => hk.2) (.slice Ao57 y1119.length co57)) (fun _ hk => trivial), hb_ HB.out⟩
         ·
          rw [if_neg c42] at H
          exact absurd H (by simp)
        ·
         rw [if_neg c41] at H
         exact absurd H (by simp)
       ·
        rw [if_neg c40] at H
        exact absurd H (by simp)
      ·
       rw [if_neg c37] at H
       have c37b0 : decide (t1110 < (y1107.length : Int)) = false := decide_eq_false c37
       clear c37
       simp only [Option.some.injEq, Prod.mk.injEq] at H
       obtain ⟨rfl, rfl, rfl, rfl, rfl⟩ := H
       have hnb62 := NB1104_1095.out
       have hnc62 := NB1095_1104.out
       have hnb63 := NB1104_1096.out
       have hnc63 := NB1096_1104.out
       have hcz64_0 : wc.cell? ⟨gb1104, 0, none⟩ = some (.int .i64 t1097) := (blk_cell BK1104.out 0).trans rfl
       have hcz64_1 : wc.cell? ⟨gb1104, 1, none⟩ = some (.int .i64 t1098) := (blk_cell BK1104.out 1).trans rfl
       have hcz64_2 : wc.cell? ⟨gb1104, 2, none⟩ = some (.int .i64 t1099) := (blk_cell BK1104.out 2).trans rfl
       have hcz64_3 : wc.cell? ⟨gb1104, 3, none⟩ = some (.int .i64 t1100) := (blk_cell BK1104.out 3).trans rfl
       have hcz64_4 : wc.cell? ⟨gb1104, 4, none⟩ = some (u1105004) := (blk_cell BK1104.out 4).trans rfl
       have hfz64_0 := blk_frozen BK1104.out 0
       have hfz64_1 := blk_frozen BK1104.out 1
       have hfz64_2 := blk_frozen BK1104.out 2
       have hfz64_3 := blk_frozen BK1104.out 3
       have hfz64_4 := blk_frozen BK1104.out 4
       try go_wp2_with (first | ((with_reducible refine gate_builtin (b := .append) (xs := #[.tmp 36, .tmp 40]) rfl ?_); at_builtin; refine Kd.R_append k_Mark (w0 := w) w.heap.size rfl (.tmp 36) (.tmp 40) 52 118 (.agg #[(.int .i64 0), (.int .i64 0)]) 16 rfl Try.underlying52 info118 rfl (by decide) (by omega) u1105004 x1105004_26 (⟨a3, a4⟩ : S_Mark) [.int .i64 a3, .int .i64 a4] (fun _ => True) (fun _ => False) rfl (by first | (go_simp; done) | (go_simp; rfl)) ?aP (fun _ hk => hk.elim) ?aF ?aO ?aB ?aS ?aL ?_; (case aP => exact k_Mark_mkM _ _ _ (⟨a3, a4⟩ : S_Mark)); (case aB => exact (hb_ HB.out)); (case aF => exact (fun _ _ => trivial)); (case aO => exact (by (with_reducible repeat (first | apply Kd.R_alloc | apply Kd.R_drewN | apply Kd.R_drew)); exact Kd.R_mono (Kd.R_far (p := ⟨gb1104, 3, none⟩) (Kd.R_far (p := ⟨gb1104, 2, none⟩) (Kd.R_types HO_1105004.out BK1104.out (by decide)) (fun _ hk => hk.2) (.int .i64 a2)) (fun _ hk => hk.2) (.int .i64 a3)) (fun _ hk => trivial))); (case aS => exact (below_size (hb_ HB.out))); (case aL => have := LMc35.out; omega); intro v1108 w65 ho hb hg hat; rw [← Ny1107.out] at ho; have n0_ := Aside0.mk (blk_grown (g := gb1095) (o := .cells #[.int .i64 a0_0, .int .i64 a0_1, .int .i64 a0_2, .int .i64 a0_3, .slice A0_4 l0_4.length c0_4] 54 (0, 0)) (bf_ NB1095_1104.out BK1095.out) hg (Kd.R_ne HO_1105004.out BK1095.out (by decide))); have n1_ := Aside0.mk (blk_grown (g := gb1096) (o := .cells #[.int .i64 x1097000_7, .int .i64 x1097001_7, .int .i64 x1097002_7, .int .i64 x1097003_7, .slice none 0 0] 54 (0, 0)) (bf_ NB1096_1104.out BK1096.out) hg (Kd.R_ne HO_1105004.out BK1096.out (by decide))); have n2_ := Aside0.mk (blk_grown (g := gb1104) (o := .cells #[.int .i64 t1097, .int .i64 t1098, .int .i64 a2, .int .i64 a3, u1105004] 54 (0, 0)) (bp_ BK1104.out) hg (Kd.R_ne HO_1105004.out BK1104.out (by decide))); have n3_ := Aside0.mk (hb); have n4_ := Aside0.mk (ho); clear BK1095; clear BK1096; clear BK1104; clear HB; clear HO_1105004; have BK1095 := n0_; have BK1096 := n1_; have BK1104 := n2_; have HB := n3_; have HO1109 := n4_; clear n0_ n1_ n2_ n3_ n4_; clear ho hb hg hat; obtain ⟨Ao66, co66, eo66⟩ := Kd.R_slice HO1109.out; subst eo66; have hcz67_0 : w65.cell? ⟨gb1104, 0, none⟩ = some (.int .i64 t1097) := (blk_cell BK1104.out 0).trans rfl; have hcz67_1 : w65.cell? ⟨gb1104, 1, none⟩ = some (.int .i64 t1098) := (blk_cell BK1104.out 1).trans rfl; have hcz67_2 : w65.cell? ⟨gb1104, 2, none⟩ = some (.int .i64 a2) := (blk_cell BK1104.out 2).trans rfl; have hcz67_3 : w65.cell? ⟨gb1104, 3, none⟩ = some (.int .i64 a3) := (blk_cell BK1104.out 3).trans rfl; have hcz67_4 : w65.cell? ⟨gb1104, 4, none⟩ = some (u1105004) := (blk_cell BK1104.out 4).trans rfl; have hfz67_0 := blk_frozen BK1104.out 0; have hfz67_1 := blk_frozen BK1104.out 1; have hfz67_2 := blk_frozen BK1104.out 2; have hfz67_3 := blk_frozen BK1104.out 3; have hfz67_4 := blk_frozen BK1104.out 4))
       have n0_ : Aside0 (Kd.R k_Mark 118 (w65.setCell ⟨gb1104, 4, none⟩ (.slice Ao66 y1107.length co66)) w.heap.size (fun _ => True) (.slice Ao66 y1107.length co66) y1107) := ⟨by (with_reducible repeat (first | apply Kd.R_alloc | apply Kd.R_drewN | apply Kd.R_drew)); exact Kd.R_mono (Kd.R_far (p := ⟨gb1104, 4, none⟩) (Kd.R_types HO1109.out BK1104.out (by decide)) (fun _ hk => hk.2) (.slice Ao66 y1107.length co66)) (fun _ hk => trivial)⟩
       have n1_ : Aside0 ((w65.setCell ⟨gb1104, 4, none⟩ (.slice Ao66 y1107.length co66)).heap[gb1095]? = some (.cells #[.int .i64 a0_0, .int .i64 a0_1, .int .i64 a0_2, .int .i64 a0_3, .slice A0_4 l0_4.length c0_4] 54 (0, 0))) := ⟨by (with_reducible repeat (first | refine blk_drewN ?_ _ | refine blk_drew ?_ | refine blk_alloc ?_ _)); refine blk_far ?_ NB1095_1104.out _; (with_reducible repeat (first | refine blk_drewN ?_ _ | refine blk_drew ?_ | refine blk_alloc ?_ _)); exact BK1095.out⟩
       have n2_ : Aside0 ((w65.setCell ⟨gb1104, 4, none⟩ (.slice Ao66 y1107.length co66)).heap[gb1096]? = some (.cells #[.int .i64 x1097000_7, .int .i64 x1097001_7, .int .i64 x1097002_7, .int .i64 x1097003_7, .slice none 0 0] 54 (0, 0))) := ⟨by (with_reducible repeat (first | refine blk_drewN ?_ _ | refine blk_drew ?_ | refine blk_alloc ?_ _)); refine blk_far ?_ NB1096_1104.out _; (with_reducible repeat (first | refine blk_drewN ?_ _ | refine blk_drew ?_ | refine blk_alloc ?_ _)); exact BK1096.out⟩
       have n3_ : Aside0 ((w65.setCell ⟨gb1104, 4, none⟩ (.slice Ao66 y1107.length co66)).heap[gb1104]? = some (.cells #[.int .i64 t1097, .int .i64 t1098, .int .i64 a2, .int .i64 a3, .slice Ao66 y1107.length co66] 54 (0, 0))) := ⟨by (with_reducible repeat (first | refine blk_drewN ?_ _ | refine blk_drew ?_ | refine blk_alloc ?_ _)); refine blk_put (cs := #[.int .i64 t1097, .int .i64 t1098, .int .i64 a2, .int .i64 a3, u1105004]) ?_ 4 _ rfl; (with_reducible repeat (first | refine blk_drewN ?_ _ | refine blk_drew ?_ | refine blk_alloc ?_ _)); exact BK1104.out⟩
       have n4_ : Aside0 (Below w.heap.size w (w65.setCell ⟨gb1104, 4, none⟩ (.slice Ao66 y1107.length co66))) := ⟨hb_ HB.out⟩
       (try clear HO1109)
       (try clear BK1095)
       (try clear BK1096)
       (try clear BK1104)
       (try clear HB)
       generalize (w65.setCell ⟨gb1104, 4, none⟩ (.slice Ao66 y1107.length co66)) = w68 at n0_ n1_ n2_ n3_ n4_ ⊢
       have HO1109 := n0_
       have BK1095 := n1_
       have BK1096 := n2_
       have BK1104 := n3_
       have HB := n4_
       clear n0_ n1_ n2_ n3_ n4_
       have n0_ := Aside0.mk (Kd.R_drew HO1109.out)
       have n1_ := Aside0.mk (blk_drew BK1095.out)
       have n2_ := Aside0.mk (blk_drew BK1096.out)
       have n3_ := Aside0.mk (blk_drew BK1104.out)
       have n4_ := Aside0.mk (below_drew1 HB.out)
       clear HO1109; clear BK1095
       clear BK1096; clear BK1104
       clear HB
       have HO1109 := n0_
       have BK1095 := n1_
       have BK1096 := n2_
       have BK1104 := n3_
       have HB := n4_
       clear n0_ n1_ n2_ n3_ n4_
       refine start_ (n := 6) (S := fun w' => w'.cell? ⟨gb1104, 0, none⟩ = some (.int .i64 t1097) ∧ w'.cell? ⟨gb1104, 1, none⟩ = some (.int .i64 t1098) ∧ w'.cell? ⟨gb1104, 2, none⟩ = some (.int .i64 a2) ∧ w'.cell? ⟨gb1104, 3, none⟩ = some (.int .i64 a3) ∧ w'.cell? ⟨gb1104, 4, none⟩ = some (.slice Ao66 y1107.length co66)) (ds := []) #[false, false, false, false, false, false] (by kernel_rfl) rfl rfl ⟨(blk_cell BK1104.out 0).trans rfl, (blk_cell BK1104.out 1).trans rfl, (blk_cell BK1104.out 2).trans rfl, (blk_cell BK1104.out 3).trans rfl, (blk_cell BK1104.out 4).trans rfl⟩ (fun hHeld => ?_)
       generalize w68.drew = w69 at HO1109 BK1095 BK1096 BK1104 HB hHeld ⊢
       refine pure_ (i := 0) (N := some 43) (v := ?_) (a' := ?_) #[true, false, false, false, false, false] rfl rfl (by kernel_rfl) (fun _ _ _ h => h) (Or.inl ⟨by rfl, ?_⟩) ?_ ?_; rotate_left; (focus intro w'; go_simp; with_reducible rfl); rotate_left; (focus simp only [Act.put, List.setIfInBounds_toArray, List.set_cons_zero, List.set_cons_succ, i64_w, i32_w]; rfl)
       refine pure_ (i := 3) (N := some 46) (v := ?_) (a' := ?_) #[true, false, false, true, false, false] rfl rfl (by kernel_rfl) (fun _ _ _ h => h) (Or.inl ⟨by rfl, ?_⟩) ?_ ?_; rotate_left; (focus intro w'; go_simp; with_reducible rfl); rotate_left; (focus simp only [Act.put, List.setIfInBounds_toArray, List.set_cons_zero, List.set_cons_succ, i64_w, i32_w]; rfl)
       refine take_ (i := 1) (N := some 44) (v := ?_) (a' := ?_) #[true, true, false, true, false, false] rfl rfl (by kernel_rfl) (fun _ _ _ h => h) (Or.inl ⟨by rfl, ?_⟩) hHeld ?_ ?_
       rotate_left
       ·
        rintro w' ⟨s0, s1, s2, s3, s4⟩
        go_simp
        with_reducible rfl
       rotate_left; (focus simp only [Act.put, List.setIfInBounds_toArray, List.set_cons_zero, List.set_cons_succ, i64_w, i32_w]; rfl)
       refine pure_ (i := 2) (N := some 45) (v := ?_) (a' := ?_) #[true, true, true, true, false, false] rfl rfl (by kernel_rfl) (fun _ _ _ h => h) (Or.inl ⟨by rfl, ?_⟩) ?_ ?_; rotate_left; (focus intro w'; go_simp; with_reducible rfl); rotate_left; (focus simp only [Act.put, List.setIfInBounds_toArray, List.set_cons_zero, List.set_cons_succ, i64_w, i32_w]; rfl)
       refine one_ (i := 4) (N := some 47) #[true, true, true, true, true, false] rfl rfl (by kernel_rfl) (by decide) (fun K hK => ?_)
       refine goes_ Try.func113 (by kernel_rfl) rfl #[.int .i64 a1, .int .i64 0] (by rfl) rfl rfl sm_ ?_
       with_reducible refine (spec_l1Max.calls a1 0 t1110 _ A36.out).mono ?_
       rintro e w' ⟨rfl, ⟨nd, rfl⟩⟩
       refine ⟨_, rfl, ?_⟩
       refine hK.out _ _ ⟨(blk_cell BK1104.out 0).trans rfl, (blk_cell BK1104.out 1).trans rfl, (blk_cell BK1104.out 2).trans rfl, (blk_cell BK1104.out 3).trans rfl, (blk_cell BK1104.out 4).trans rfl⟩ (fun hHeld => ?_)
       clear hK K
       refine norm_ (a' := ?_) ?_ ?_
       rotate_left
       ·
        show Act.put _ (some 47) _ = _
        simp only [Act.put, List.setIfInBounds_toArray, List.set_cons_zero, List.set_cons_succ, i64_w, i32_w]
        rfl
       refine pure_ (i := 5) (N := some 48) (v := ?_) (a' := ?_) #[true, true, true, true, true, true] rfl rfl (by kernel_rfl) (fun _ _ _ h => h) (Or.inl ⟨by rfl, ?_⟩) ?_ ?_; rotate_left; (focus intro w'; go_simp; with_reducible rfl); rotate_left; (focus simp only [Act.put, List.setIfInBounds_toArray, List.set_cons_zero, List.set_cons_succ, i64_w, i32_w]; rfl)
       refine done_ (by kernel_rfl) ?_
       have hcz70_0 : w69.cell? ⟨gb1104, 0, none⟩ = some (.int .i64 t1097) := (blk_cell BK1104.out 0).trans rfl
       have hcz70_1 : w69.cell? ⟨gb1104, 1, none⟩ = some (.int .i64 t1098) := (blk_cell BK1104.out 1).trans rfl
       have hcz70_2 : w69.cell? ⟨gb1104, 2, none⟩ = some (.int .i64 a2) := (blk_cell BK1104.out 2).trans rfl
       have hcz70_3 : w69.cell? ⟨gb1104, 3, none⟩ = some (.int .i64 a3) := (blk_cell BK1104.out 3).trans rfl
       have hcz70_4 : w69.cell? ⟨gb1104, 4, none⟩ = some (.slice Ao66 y1107.length co66) := (blk_cell BK1104.out 4).trans rfl
       have hfz70_0 := blk_frozen BK1104.out 0
       have hfz70_1 := blk_frozen BK1104.out 1
       have hfz70_2 := blk_frozen BK1104.out 2
       have hfz70_3 := blk_frozen BK1104.out 3
       have hfz70_4 := blk_frozen BK1104.out 4
       have hnb71 := NB1096_1095.out
       have hnc71 := NB1095_1096.out
       have hcz72_0 : w69.cell? ⟨gb1096, 0, none⟩ = some (.int .i64 x1097000_7) := (blk_cell BK1096.out 0).trans rfl
       have hcz72_1 : w69.cell? ⟨gb1096, 1, none⟩ = some (.int .i64 x1097001_7) := (blk_cell BK1096.out 1).trans rfl
       have hcz72_2 : w69.cell? ⟨gb1096, 2, none⟩ = some (.int .i64 x1097002_7) := (blk_cell BK1096.out 2).trans rfl
       have hcz72_3 : w69.cell? ⟨gb1096, 3, none⟩ = some (.int .i64 x1097003_7) := (blk_cell BK1096.out 3).trans rfl
       have hcz72_4 : w69.cell? ⟨gb1096, 4, none⟩ = some (.slice none 0 0) := (blk_cell BK1096.out 4).trans rfl
       have hfz72_0 := blk_frozen BK1096.out 0
       have hfz72_1 := blk_frozen BK1096.out 1
       have hfz72_2 := blk_frozen BK1096.out 2
       have hfz72_3 := blk_frozen BK1096.out 3
       have hfz72_4 := blk_frozen BK1096.out 4
       try go_wp2
       refine bodyPost_ret (results_cell_row rfl _ _ gb1096 54 #[.int .i64 t1097, .int .i64 t1098, .int .i64 a2, .int .i64 a3, .slice Ao66 y1107.length co66] (0, 0) _ rfl (bp_ BK1096.out) Try.underlying54 rfl (by kernel_rfl)) rfl ?_
       exact ⟨_, er_, by (with_reducible repeat (first | apply Kd.R_alloc | apply Kd.R_drewN | apply Kd.R_drew)); exact Kd.R_mono (Kd.R_far (p := ⟨gb1096, 4, none⟩) (Kd.R_far (p := ⟨gb1096, 3, none⟩) (Kd.R_far (p := ⟨gb1096, 2, none⟩) (Kd.R_far (p := ⟨gb1096, 1, none⟩) (Kd.R_far (p := ⟨gb1096, 0, none⟩) (Kd.R_types HO1109.out BK1096.out (by decide)) (fun _ hk => hk.2) (.int .i64 t1097)) (fun _ hk => hk.2) (.int .i64 t1098)) (fun _ hk => hk.2) (.int .i64 a2)) (fun _ hk => hk.2) (.int .i64 a3)) (fun _ hk => hk.2) (.slice Ao66 y1107.length co66)) (fun _ hk => trivial), hb_ HB.out⟩
     ·
      rw [if_neg c35] at H
      exact absurd H (by simp)
/-! ### spec_l4DrawRight: function 126 -/
mutual
def spec_l4DrawRight.l0 : Nat → Int → List Int → Int → Int → Int → Int → Int → Int → List (S_Mark) → Option (Int × Int × Int × Int × (List (S_Mark)) × Int × Int)
 | 0, _, _, _, _, _, _, _, _, _ => none
 | k + 1, x4, x1000, x1001, x1002, x1285000, x1285001, x1285002, x1285003, x1285004 => (spec_l1Below.f x1000 x1001 x1002 8).bind fun bt1285 => (if x4 < bt1285.1 then (spec_l4DrawRight.j1 k x4 x1000 bt1285.2.1 bt1285.2.2 x1285000 x1285001 x1285002 x1285003 x1285004) else (some (x1285000, x1285001, x1285002, x1285003, x1285004, bt1285.2.1, bt1285.2.2)))
def spec_l4DrawRight.j1 : Nat → Int → List Int → Int → Int → Int → Int → Int → Int → List (S_Mark) → Option (Int × Int × Int × Int × (List (S_Mark)) × Int × Int)
 | 0, _, _, _, _, _, _, _, _, _ => none
 | k + 1, x4, x1000, x1001, x1002, x1285000, x1285001, x1285002, x1285003, x1285004 => (spec_l1Below.f x1000 x1001 x1002 9).bind fun bt1288 => (if (wrap64 (x1285002 + (wrap64 (Int.tdiv bt1288.1 8)))) > x1285002 then (spec_l4DrawRight.j2 k x4 (wrap64 (x1285002 + (wrap64 (Int.tdiv bt1288.1 8)))) 0 x1000 bt1288.2.1 bt1288.2.2 x1285000 x1285001 x1285002 x1285003 x1285004) else (spec_l4DrawRight.j2 k x4 (wrap64 (x1285002 + (wrap64 (Int.tdiv bt1288.1 8)))) (wrap64 (x1285003 + 1)) x1000 bt1288.2.1 bt1288.2.2 x1285000 x1285001 x1285002 x1285003 x1285004))
def spec_l4DrawRight.j2 : Nat → Int → Int → Int → List Int → Int → Int → Int → Int → Int → Int → List (S_Mark) → Option (Int × Int × Int × Int × (List (S_Mark)) × Int × Int)
 | 0, _, _, _, _, _, _, _, _, _, _, _ => none
 | k + 1, x4, x5, x6, x1000, x1001, x1002, x1285000, x1285001, x1285002, x1285003, x1285004 => (spec_l1Below.f x1000 x1001 x1002 3).bind fun bt1291 => ((spec_MakerPut.f k x1285000 x1285001 x1285002 x1285003 x1285004 (wrap64 (1 + bt1291.1)) x5 x6 (wrap64 (2 * x4))).bind fun bt1294 => (spec_l4DrawRight.l0 k (wrap64 (x4 + 1)) x1000 bt1291.2.1 bt1291.2.2 bt1294.1 bt1294.2.1 bt1294.2.2.1 bt1294.2.2.2.1 bt1294.2.2.2.2))
end
def spec_l4DrawRight.f (k : Nat) (s0_0 : List Int) (s0_1 : Int) (s0_2 : Int) : Option (Int × Int × Int × Int × (List (S_Mark)) × Int × Int) := (spec_l1Below.f s0_0 s0_1 s0_2 3).bind fun bt1278 => ((spec_l1Below.f s0_0 bt1278.2.1 bt1278.2.2 4).bind fun bt1281 => (spec_l4DrawRight.l0 k 0 s0_0 bt1281.2.1 bt1281.2.2 bt1278.1 bt1281.1 0 (-1) ([] : List (S_Mark))))
theorem spec_l4DrawRight.mono_l : ∀ k, (∀ y0 y1 y2 y3 y4 y5 y6 y7 y8, LeO (spec_l4DrawRight.l0 k y0 y1 y2 y3 y4 y5 y6 y7 y8) (spec_l4DrawRight.l0 (k + 1) y0 y1 y2 y3 y4 y5 y6 y7 y8)) ∧ (∀ y0 y1 y2 y3 y4 y5 y6 y7 y8, LeO (spec_l4DrawRight.j1 k y0 y1 y2 y3 y4 y5 y6 y7 y8) (spec_l4DrawRight.j1 (k + 1) y0 y1 y2 y3 y4 y5 y6 y7 y8)) ∧ (∀ y0 y1 y2 y3 y4 y5 y6 y7 y8 y9 y10, LeO (spec_l4DrawRight.j2 k y0 y1 y2 y3 y4 y5 y6 y7 y8 y9 y10) (spec_l4DrawRight.j2 (k + 1) y0 y1 y2 y3 y4 y5 y6 y7 y8 y9 y10))
 | 0 => ⟨fun _ _ _ _ _ _ _ _ _ r h => by simp [spec_l4DrawRight.l0] at h, fun _ _ _ _ _ _ _ _ _ r h => by simp [spec_l4DrawRight.j1] at h, fun _ _ _ _ _ _ _ _ _ _ _ r h => by simp [spec_l4DrawRight.j2] at h⟩
 | k + 1 => by
  obtain ⟨ih0, ih1, ih2⟩ := spec_l4DrawRight.mono_l k
  refine ⟨?_, ?_, ?_⟩
  ·
   intro y0 y1 y2 y3 y4 y5 y6 y7 y8
   unfold spec_l4DrawRight.l0
   repeat' first
   | (with_reducible exact ih0 _ _ _ _ _ _ _ _ _)
   | (with_reducible exact ih1 _ _ _ _ _ _ _ _ _)
   | (with_reducible exact ih2 _ _ _ _ _ _ _ _ _ _ _)
   | (with_reducible exact spec_MakerPut.mono _ _ _ _ _ _ _ _ _ _)
   | (with_reducible exact LeO.refl _)
   | (with_reducible exact LeO.none _)
   | (with_reducible refine LeO.ite ?_ ?_)
   | (with_reducible refine LeO.bind ?_ (fun _ => ?_))
   | exact ih0 _ _ _ _ _ _ _ _ _
   | exact ih1 _ _ _ _ _ _ _ _ _
   | exact ih2 _ _ _ _ _ _ _ _ _ _ _
   | exact spec_MakerPut.mono _ _ _ _ _ _ _ _ _ _
   | exact LeO.none _
   | refine LeO.ite ?_ ?_
   | refine LeO.bind ?_ (fun _ => ?_)
  ·
   intro y0 y1 y2 y3 y4 y5 y6 y7 y8
   unfold spec_l4DrawRight.j1
   repeat' first
   | (with_reducible exact ih0 _ _ _ _ _ _ _ _ _)
   | (with_reducible exact ih1 _ _ _ _ _ _ _ _ _)
   | (with_reducible exact ih2 _ _ _ _ _ _ _ _ _ _ _)
   | (with_reducible exact spec_MakerPut.mono _ _ _ _ _ _ _ _ _ _)
   | (with_reducible exact LeO.refl _)
   | (with_reducible exact LeO.none _)
   | (with_reducible refine LeO.ite ?_ ?_)
   | (with_reducible refine LeO.bind ?_ (fun _ => ?_))
   | exact ih0 _ _ _ _ _ _ _ _ _
   | exact ih1 _ _ _ _ _ _ _ _ _
   | exact ih2 _ _ _ _ _ _ _ _ _ _ _
   | exact spec_MakerPut.mono _ _ _ _ _ _ _ _ _ _
   | exact LeO.none _
   | refine LeO.ite ?_ ?_
   | refine LeO.bind ?_ (fun _ => ?_)
  ·
   intro y0 y1 y2 y3 y4 y5 y6 y7 y8 y9 y10
   unfold spec_l4DrawRight.j2
   repeat' first
   | (with_reducible exact ih0 _ _ _ _ _ _ _ _ _)
   | (with_reducible exact ih1 _ _ _ _ _ _ _ _ _)
   | (with_reducible exact ih2 _ _ _ _ _ _ _ _ _ _ _)
   | (with_reducible exact spec_MakerPut.mono _ _ _ _ _ _ _ _ _ _)
   | (with_reducible exact LeO.refl _)
   | (with_reducible exact LeO.none _)
   | (with_reducible refine LeO.ite ?_ ?_)
   | (with_reducible refine LeO.bind ?_ (fun _ => ?_))
   | exact ih0 _ _ _ _ _ _ _ _ _
   | exact ih1 _ _ _ _ _ _ _ _ _
   | exact ih2 _ _ _ _ _ _ _ _ _ _ _
   | exact spec_MakerPut.mono _ _ _ _ _ _ _ _ _ _
   | exact LeO.none _
   | refine LeO.ite ?_ ?_
   | refine LeO.bind ?_ (fun _ => ?_)
theorem spec_l4DrawRight.mono : ∀ a0 a1 a2 k, LeO (spec_l4DrawRight.f k a0 a1 a2) (spec_l4DrawRight.f (k + 1) a0 a1 a2) := by
 intro a0 a1 a2 k
 obtain ⟨ih0, ih1, ih2⟩ := spec_l4DrawRight.mono_l k
 unfold spec_l4DrawRight.f
 repeat' first
  | (with_reducible exact ih0 _ _ _ _ _ _ _ _ _)
  | (with_reducible exact ih1 _ _ _ _ _ _ _ _ _)
  | (with_reducible exact ih2 _ _ _ _ _ _ _ _ _ _ _)
  | (with_reducible exact spec_MakerPut.mono _ _ _ _ _ _ _ _ _ _)
  | (with_reducible exact LeO.refl _)
  | (with_reducible exact LeO.none _)
  | (with_reducible refine LeO.ite ?_ ?_)
  | (with_reducible refine LeO.bind ?_ (fun _ => ?_))
  | exact ih0 _ _ _ _ _ _ _ _ _
  | exact ih1 _ _ _ _ _ _ _ _ _
  | exact ih2 _ _ _ _ _ _ _ _ _ _ _
  | exact spec_MakerPut.mono _ _ _ _ _ _ _ _ _ _
  | exact LeO.none _
  | refine LeO.ite ?_ ?_
  | refine LeO.bind ?_ (fun _ => ?_)
def spec_l4DrawRight.T9 : Bool × List (List Nat × List Nat) := (true, [([], []), ([], []), ([1], [1]), ([2], [2]), ([], []), ([], []), ([], []), ([6], [6]), ([0, 3, 4, 5, 7, 2], [0, 3, 4, 5, 7]), ([8, 8, 0, 1, 2, 3, 4, 5, 6, 7, 8], [8])])
def spec_l4DrawRight.B9 : List Nat := [0, 0, 2, 6, 0, 0, 0, 64, 255, 511]
theorem spec_l4DrawRight.tab9 : rtab .any (opsOf Try.f126 9) = spec_l4DrawRight.T9 := by kernel_rfl
theorem spec_l4DrawRight.bits9 : waitsOk spec_l4DrawRight.T9.2 spec_l4DrawRight.B9 = true := by kernel_rfl
set_option maxHeartbeats 8000000 in
set_option maxRecDepth 100000 in
theorem spec_l4DrawRight.calls (k : Nat) (g : Nat) (s0_0 : List Int) (s0_1 : Int) (s0_2 : Int) (r1 : Int) (r2 : Int) (r3 : Int) (r4 : Int) (r5 : List (S_Mark)) (r6 : Int) (r7 : Int) (w0 w : World) (hI : IsS_l1Cur w0 w g s0_0 s0_1 s0_2) (hB : Below w0.heap.size w0 w) (h : spec_l4DrawRight.f k s0_0 s0_1 s0_2 = some (r1, r2, r3, r4, r5, r6, r7)) :
 Calls Try.prog 126 #[.pointer (some ⟨g, 0, none⟩)] w fun e w' => ∃ v4_ : Value, e = .returned (.agg #[.int .i64 r1, .int .i64 r2, .int .i64 r3, .int .i64 r4, v4_]) ∧ Kd.R k_Mark 118 w' w.heap.size (fun _ => True) v4_ r5 ∧ IsS_l1Cur w0 w' g s0_0 r6 r7 ∧ Below w0.heap.size w0 w' ∧ KeepBut w w' g none := by
 have hu54 := Try.underlying54
 have HI0 := Aside0.mk hI
 have HK := Aside0.mk (KeepBut.refl w g none)
 have HL := Aside0.mk hB.size
 clear hI
 have HW0 := Aside0.mk hB.size
 have HB := Aside0.mk hB
 clear hB
 have H : ((spec_l1Below.f s0_0 s0_1 s0_2 3).bind fun bt1278 => ((spec_l1Below.f s0_0 bt1278.2.1 bt1278.2.2 4).bind fun bt1281 => (spec_l4DrawRight.l0 k 0 s0_0 bt1281.2.1 bt1281.2.2 bt1278.1 bt1281.1 0 (-1) ([] : List (S_Mark))))) = some (r1, r2, r3, r4, r5, r6, r7) := h
 clear h
 replace H := Option.bind_eq_some_iff.mp H
 obtain ⟨⟨t1278, t1279, t1280⟩, A20, H⟩ := H
 replace H : ((spec_l1Below.f s0_0 t1279 t1280 4).bind fun bt1281 => (spec_l4DrawRight.l0 k 0 s0_0 bt1281.2.1 bt1281.2.2 t1278 bt1281.1 0 (-1) ([] : List (S_Mark)))) = some (r1, r2, r3, r4, r5, r6, r7) := H
 have A2 := Aside0.mk A20
 clear A20
 replace H := Option.bind_eq_some_iff.mp H
 obtain ⟨⟨t1281, t1282, t1283⟩, A30, H⟩ := H
 replace H : (spec_l4DrawRight.l0 k 0 s0_0 t1282 t1283 t1278 t1281 0 (-1) ([] : List (S_Mark))) = some (r1, r2, r3, r4, r5, r6, r7) := H
 have A3 := Aside0.mk A30
 clear A30
 have H' := Aside0.mk H
 clear H
 go_enter Try.func126, Try.ntmps126
 go_wp2_with (first | ((with_reducible refine gate_dst (N := 2) rfl ?_); refine box_event ?hg (N := 2) ?hd (cs := #[.int .i64 0, .int .i64 0, .int .i64 0, .int .i64 0, .slice none 0 0]) (t := 54) ?hr ?_; (case hd => rfl); (case hg => rfl); (case hr => first | (go_simp; done) | (go_simp; rfl)); intro gb1277 hg w4 hbox hb; have n0_ := Aside0.mk (IsS_l1Cur.below (is_l1Cur_ HI0.out) hb); have n1_ := Aside0.mk (KeepBut.trans (hk_ HK.out) (KeepBut.of_below hb g none) (.inl rfl)); have n2_ := Aside0.mk (below_step (hi_ HB.out) hb); have n3_ := Aside0.mk (hbox); have n4_ := Aside0.mk ((by rw [hg]; exact (keep_size (w := w) (g := g) (row := none) (hk_ HK.out)) : w.heap.size ≤ gb1277)); have n5_ := Aside0.mk ((Nat.le_trans HW0.out (by rw [hg]; exact (keep_size (w := w) (g := g) (row := none) (hk_ HK.out)) : w.heap.size ≤ gb1277) : w0.heap.size ≤ gb1277)); have n6_ := Aside0.mk ((by rw [hg]; exact Nat.ne_of_lt (IsS_l1Cur.lt (show IsS_l1Cur w0 _ g s0_0 s0_1 s0_2 from is_l1Cur_ HI0.out)) : g ≠ gb1277)); have n7_ := Aside0.mk ((by rw [hg]; exact Nat.ne_of_gt (IsS_l1Cur.lt (show IsS_l1Cur w0 _ g s0_0 s0_1 s0_2 from is_l1Cur_ HI0.out)) : gb1277 ≠ g)); clear HI0; clear HK; clear HB; have HI0 := n0_; have HK := n1_; have HB := n2_; have BK1277 := n3_; have GW1277 := n4_; have GE1277 := n5_; have NB0_1277 := n6_; have NB1277_0 := n7_; clear n0_ n1_ n2_ n3_ n4_ n5_ n6_ n7_; clear hb hbox hg) | ((with_reducible refine gate_callee (f := 94) rfl ?_); refine goesL_ (some 8) rfl rfl Try.func94 (by kernel_rfl) rfl #[.pointer (some ⟨g, 0, none⟩), .int .i64 3] rfl sm_ ?_; (with_reducible refine (spec_l1Below.calls g s0_0 s0_1 s0_2 3 t1278 t1279 t1280 w0 _ ?side1 ?side2 A2.out).mono ?_); (case side1 => repeat (first | (with_reducible first | exact HI0.out | apply IsS_l1Cur.alloc | apply IsS_l1Cur.drewN | apply IsS_l1Cur.drew | apply IsS_l1Cur.set_1 | apply IsS_l1Cur.set_2 | refine IsS_l1Cur.far ?_ NB0_1277.out _) | exact HI0.out)); (case side2 => repeat (first | (with_reducible first | exact HB.out | apply below_alloc | apply pw_below_drewN | apply below_drew1 | refine below_set ?_ (IsS_l1Cur.ge HI0.out) | refine below_set ?_ GE1277.out) | exact HB.out)); rintro e w5 ⟨rfl, hi, hb, hk⟩; refine ⟨_, rfl, ?_⟩; have n0_ := Aside0.mk (KeepBut.blk hk (g' := gb1277) (o := .cells #[.int .i64 0, .int .i64 0, .int .i64 0, .int .i64 0, .slice none 0 0] 54 (0, 0)) (bq_ BK1277.out) NB1277_0.out (by simp)); have n1_ := Aside0.mk (KeepBut.trans (hk_ HK.out) hk (.inl rfl)); have n2_ := Aside0.mk (hb); have n3_ := Aside0.mk (hi); clear BK1277; clear HK; clear HB; clear HI0; have BK1277 := n0_; have HK := n1_; have HB := n2_; have HI0 := n3_; clear n0_ n1_ n2_ n3_; (try clear hb); (try clear hb2); (try clear hk); (try clear hi)) | ((with_reducible refine gate_callee (f := 94) rfl ?_); refine goesL_ (some 10) rfl rfl Try.func94 (by kernel_rfl) rfl #[.pointer (some ⟨g, 0, none⟩), .int .i64 4] rfl sm_ ?_; (with_reducible refine (spec_l1Below.calls g s0_0 t1279 t1280 4 t1281 t1282 t1283 w0 _ ?side1 ?side2 A3.out).mono ?_); (case side1 => repeat (first | (with_reducible first | exact HI0.out | apply IsS_l1Cur.alloc | apply IsS_l1Cur.drewN | apply IsS_l1Cur.drew | apply IsS_l1Cur.set_1 | apply IsS_l1Cur.set_2 | refine IsS_l1Cur.far ?_ NB0_1277.out _) | exact HI0.out)); (case side2 => repeat (first | (with_reducible first | exact HB.out | apply below_alloc | apply pw_below_drewN | apply below_drew1 | refine below_set ?_ (IsS_l1Cur.ge HI0.out) | refine below_set ?_ GE1277.out) | exact HB.out)); rintro e w6 ⟨rfl, hi, hb, hk⟩; refine ⟨_, rfl, ?_⟩; have n0_ := Aside0.mk (KeepBut.blk hk (g' := gb1277) (o := .cells #[.int .i64 0, .int .i64 0, .int .i64 0, .int .i64 0, .slice none 0 0] 54 (0, 0)) (bq_ BK1277.out) NB1277_0.out (by simp)); have n1_ := Aside0.mk (KeepBut.trans (hk_ HK.out) hk (.inl rfl)); have n2_ := Aside0.mk (hb); have n3_ := Aside0.mk (hi); clear BK1277; clear HK; clear HB; clear HI0; have BK1277 := n0_; have HK := n1_; have HB := n2_; have HI0 := n3_; clear n0_ n1_ n2_ n3_; (try clear hb); (try clear hb2); (try clear hk); (try clear hi)) | ((with_reducible refine gate_dst (N := 3) rfl ?_); refine box_event ?hg (N := 3) ?hd (cs := #[.int .i64 0, .int .i64 0, .int .i64 0, .int .i64 0, .slice none 0 0]) (t := 54) ?hr ?_; (case hd => rfl); (case hg => rfl); (case hr => first | (go_simp; done) | (go_simp; rfl)); intro gb1284 hg w7 hbox hb; have n0_ := Aside0.mk (IsS_l1Cur.below (is_l1Cur_ HI0.out) hb); have n1_ := Aside0.mk (bb_ BK1277.out hb); have n2_ := Aside0.mk (KeepBut.trans (hk_ HK.out) (KeepBut.of_below hb g none) (.inl rfl)); have n3_ := Aside0.mk (below_step (hi_ HB.out) hb); have n4_ := Aside0.mk (hbox); have n5_ := Aside0.mk ((by rw [hg]; exact (keep_size (w := w) (g := g) (row := none) (hk_ HK.out)) : w.heap.size ≤ gb1284)); have n6_ := Aside0.mk ((Nat.le_trans HW0.out (by rw [hg]; exact (keep_size (w := w) (g := g) (row := none) (hk_ HK.out)) : w.heap.size ≤ gb1284) : w0.heap.size ≤ gb1284)); have n7_ := Aside0.mk ((nl_ BK1277.out hg : gb1277 ≠ gb1284)); have n8_ := Aside0.mk ((ng_ BK1277.out hg : gb1284 ≠ gb1277)); have n9_ := Aside0.mk ((by rw [hg]; exact Nat.ne_of_lt (IsS_l1Cur.lt (show IsS_l1Cur w0 _ g s0_0 t1282 t1283 from is_l1Cur_ HI0.out)) : g ≠ gb1284)); have n10_ := Aside0.mk ((by rw [hg]; exact Nat.ne_of_gt (IsS_l1Cur.lt (show IsS_l1Cur w0 _ g s0_0 t1282 t1283 from is_l1Cur_ HI0.out)) : gb1284 ≠ g)); clear HI0; clear BK1277; clear HK; clear HB; have HI0 := n0_; have BK1277 := n1_; have HK := n2_; have HB := n3_; have BK1284 := n4_; have GW1284 := n5_; have GE1284 := n6_; have NB1277_1284 := n7_; have NB1284_1277 := n8_; have NB0_1284 := n9_; have NB1284_0 := n10_; clear n0_ n1_ n2_ n3_ n4_ n5_ n6_ n7_ n8_ n9_ n10_; clear hb hbox hg; have hnb8 := NB1284_1277.out; have hnc8 := NB1277_1284.out; have hnb9 := NB1284_0.out; have hnc9 := NB0_1284.out; have hcz10_0 : w7.cell? ⟨gb1284, 0, none⟩ = some (.int .i64 0) := (blk_cell BK1284.out 0).trans rfl; have hcz10_1 : w7.cell? ⟨gb1284, 1, none⟩ = some (.int .i64 0) := (blk_cell BK1284.out 1).trans rfl; have hcz10_2 : w7.cell? ⟨gb1284, 2, none⟩ = some (.int .i64 0) := (blk_cell BK1284.out 2).trans rfl; have hcz10_3 : w7.cell? ⟨gb1284, 3, none⟩ = some (.int .i64 0) := (blk_cell BK1284.out 3).trans rfl; have hcz10_4 : w7.cell? ⟨gb1284, 4, none⟩ = some (.slice none 0 0) := (blk_cell BK1284.out 4).trans rfl; have hfz10_0 := blk_frozen BK1284.out 0; have hfz10_1 := blk_frozen BK1284.out 1; have hfz10_2 := blk_frozen BK1284.out 2; have hfz10_3 := blk_frozen BK1284.out 3; have hfz10_4 := blk_frozen BK1284.out 4))
 go_loopg [4] k (fun kq v4 w' => ∃ (x4_1 : Int) (x1001_1 : Int) (x1002_1 : Int) (x1285000_1 : Int) (x1285001_1 : Int) (x1285002_1 : Int) (x1285003_1 : Int) (x1285004_1 : List (S_Mark)) (u1285004 : Value), v4 = .int .i64 x4_1 ∧ Aside0 (spec_l4DrawRight.l0 kq x4_1 s0_0 x1001_1 x1002_1 x1285000_1 x1285001_1 x1285002_1 x1285003_1 x1285004_1 = some (r1, r2, r3, r4, r5, r6, r7)) ∧ Aside0 (kq ≤ k) ∧ Aside0 (Kd.R k_Mark 118 w' w.heap.size (fun _ => True) u1285004 x1285004_1) ∧ Aside0 (w'.heap[gb1277]? = some (.cells #[.int .i64 0, .int .i64 0, .int .i64 0, .int .i64 0, (.slice none 0 0)] 54 (0, 0))) ∧ Aside0 (w'.heap[gb1284]? = some (.cells #[.int .i64 x1285000_1, .int .i64 x1285001_1, .int .i64 x1285002_1, .int .i64 x1285003_1, u1285004] 54 (0, 0))) ∧ Aside0 (IsS_l1Cur w0 w' g s0_0 x1001_1 x1002_1) ∧ Aside0 (KeepBut w w' g none) ∧ Aside0 (Below w0.heap.size w0 w'))
 case atStart => exact ⟨(0), (t1282), (t1283), (t1278), (t1281), (0), ((-1)), (([] : List (S_Mark))), (.slice none 0 0), (by first | rfl | (simp; done) | (simp [*]; done)), H', ⟨Nat.le_refl _⟩, ⟨by first | exact Kd.R_nil _ _ _ _ _ | exact Kd.N_nil _ _ _ _ _ | exact Kd.V_nil _ _ _ _ _ | exact Kd.Q_nil _ _ _ _ _ | exact Kd.S_nil _ _ _ _ _⟩, ⟨by (with_reducible repeat (first | refine blk_drewN ?_ _ | refine blk_drew ?_ | refine blk_alloc ?_ _)); refine blk_far ?_ NB1277_1284.out _; (with_reducible repeat (first | refine blk_drewN ?_ _ | refine blk_drew ?_ | refine blk_alloc ?_ _)); refine blk_far ?_ NB1277_1284.out _; (with_reducible repeat (first | refine blk_drewN ?_ _ | refine blk_drew ?_ | refine blk_alloc ?_ _)); refine blk_far ?_ NB1277_1284.out _; (with_reducible repeat (first | refine blk_drewN ?_ _ | refine blk_drew ?_ | refine blk_alloc ?_ _)); refine blk_far ?_ NB1277_1284.out _; (with_reducible repeat (first | refine blk_drewN ?_ _ | refine blk_drew ?_ | refine blk_alloc ?_ _)); refine blk_far ?_ NB1277_1284.out _; (with_reducible repeat (first | refine blk_drewN ?_ _ | refine blk_drew ?_ | refine blk_alloc ?_ _)); exact BK1277.out⟩, ⟨by (with_reducible repeat (first | refine blk_drewN ?_ _ | refine blk_drew ?_ | refine blk_alloc ?_ _)); refine blk_put (cs := #[.int .i64 t1278, .int .i64 t1281, .int .i64 0, .int .i64 (-1), .slice none 0 0]) ?_ 4 _ rfl; (with_reducible repeat (first | refine blk_drewN ?_ _ | refine blk_drew ?_ | refine blk_alloc ?_ _)); refine blk_put (cs := #[.int .i64 t1278, .int .i64 t1281, .int .i64 0, .int .i64 0, .slice none 0 0]) ?_ 3 _ rfl; (with_reducible repeat (first | refine blk_drewN ?_ _ | refine blk_drew ?_ | refine blk_alloc ?_ _)); refine blk_put (cs := #[.int .i64 t1278, .int .i64 t1281, .int .i64 0, .int .i64 0, .slice none 0 0]) ?_ 2 _ rfl; (with_reducible repeat (first | refine blk_drewN ?_ _ | refine blk_drew ?_ | refine blk_alloc ?_ _)); refine blk_put (cs := #[.int .i64 t1278, .int .i64 0, .int .i64 0, .int .i64 0, .slice none 0 0]) ?_ 1 _ rfl; (with_reducible repeat (first | refine blk_drewN ?_ _ | refine blk_drew ?_ | refine blk_alloc ?_ _)); refine blk_put (cs := #[.int .i64 0, .int .i64 0, .int .i64 0, .int .i64 0, .slice none 0 0]) ?_ 0 _ rfl; (with_reducible repeat (first | refine blk_drewN ?_ _ | refine blk_drew ?_ | refine blk_alloc ?_ _)); exact BK1284.out⟩, ⟨is_l1Cur_ HI0.out⟩, ⟨by repeat (first | (with_reducible first | exact HK.out | apply KeepBut.set_ | apply keep_drewN | apply keep_drew | apply keep_alloc | refine keep_far ?_ GW1277.out _ | refine keep_far ?_ GW1284.out _) | exact HK.out)⟩, ⟨by repeat (first | (with_reducible first | exact HB.out | apply below_alloc | apply pw_below_drewN | apply below_drew1 | refine below_set ?_ (IsS_l1Cur.ge HI0.out) | refine below_set ?_ GE1277.out | refine below_set ?_ GE1284.out) | exact HB.out)⟩⟩
 case round =>
  clear H'
  (try clear c1); (try clear p2); (try clear c8); (try clear c9); (try clear hcz10_0); (try clear hcz10_1); (try clear hcz10_2); (try clear hcz10_3); (try clear hcz10_4); (try clear hfz10_0); (try clear hfz10_1); (try clear hfz10_2); (try clear hfz10_3); (try clear hfz10_4)
  obtain ⟨x4_1, x1001_1, x1002_1, x1285000_1, x1285001_1, x1285002_1, x1285003_1, x1285004_1, u1285004, rfl, HA, HK1, HO_1285004, BK1277, BK1284, HI0, HK, HB⟩ := hrel
  cases gk with
  | zero => exact absurd HA.out (by simp [spec_l4DrawRight.l0])
  | succ k1 =>
   have H := HA.out
   clear HA
   simp only [spec_l4DrawRight.l0] at H
   replace H := Option.bind_eq_some_iff.mp H
   obtain ⟨⟨t1285, t1286, t1287⟩, A110, H⟩ := H
   replace H : (if x4_1 < t1285 then (spec_l4DrawRight.j1 k1 x4_1 s0_0 t1286 t1287 x1285000_1 x1285001_1 x1285002_1 x1285003_1 x1285004_1) else (some (x1285000_1, x1285001_1, x1285002_1, x1285003_1, x1285004_1, t1286, t1287))) = some (r1, r2, r3, r4, r5, r6, r7) := H
   have A11 := Aside0.mk A110
   clear A110
   have HC12 := Aside0.mk H
   clear H
   go_upto_if 15 with (first | ((with_reducible refine gate_callee (f := 94) rfl ?_); refine goesL_ (some 14) rfl rfl Try.func94 (by kernel_rfl) rfl #[.pointer (some ⟨g, 0, none⟩), .int .i64 8] rfl sm_ ?_; (with_reducible refine (spec_l1Below.calls g s0_0 x1001_1 x1002_1 8 t1285 t1286 t1287 w0 _ ?side1 ?side2 A11.out).mono ?_); (case side1 => repeat (first | (with_reducible first | exact HI0.out | apply IsS_l1Cur.alloc | apply IsS_l1Cur.drewN | apply IsS_l1Cur.drew | apply IsS_l1Cur.set_1 | apply IsS_l1Cur.set_2 | refine IsS_l1Cur.far ?_ NB0_1277.out _ | refine IsS_l1Cur.far ?_ NB0_1284.out _) | exact HI0.out)); (case side2 => repeat (first | (with_reducible first | exact HB.out | apply below_alloc | apply pw_below_drewN | apply below_drew1 | refine below_set ?_ (IsS_l1Cur.ge HI0.out) | refine below_set ?_ GE1277.out | refine below_set ?_ GE1284.out) | exact HB.out)); rintro e w13 ⟨rfl, hi, hb, hk⟩; refine ⟨_, rfl, ?_⟩; have n0_ := Aside0.mk (Kd.R_mono (Kd.R_keep (IsS_l1Cur.apart (show IsS_l1Cur w0 _ g s0_0 x1001_1 x1002_1 from is_l1Cur_ HI0.out) (rq_ HO_1285004.out) (by decide)) hk (fun _ h => h.2)) (fun _ h => h.1)); have n1_ := Aside0.mk (KeepBut.blk hk (g' := gb1277) (o := .cells #[.int .i64 0, .int .i64 0, .int .i64 0, .int .i64 0, .slice none 0 0] 54 (0, 0)) (bq_ BK1277.out) NB1277_0.out (by simp)); have n2_ := Aside0.mk (KeepBut.blk hk (g' := gb1284) (o := .cells #[.int .i64 x1285000_1, .int .i64 x1285001_1, .int .i64 x1285002_1, .int .i64 x1285003_1, u1285004] 54 (0, 0)) (bq_ BK1284.out) NB1284_0.out (by simp)); have n3_ := Aside0.mk (KeepBut.trans (hk_ HK.out) hk (.inl rfl)); have n4_ := Aside0.mk (hb); have n5_ := Aside0.mk (hi); clear HO_1285004; clear BK1277; clear BK1284; clear HK; clear HB; clear HI0; have HO_1285004 := n0_; have BK1277 := n1_; have BK1284 := n2_; have HK := n3_; have HB := n4_; have HI0 := n5_; clear n0_ n1_ n2_ n3_ n4_ n5_; (try clear hb); (try clear hb2); (try clear hk); (try clear hi)))
   (try simp only [Act.put, List.setIfInBounds_toArray, List.set_cons_zero, List.set_cons_succ])
   go_cut [] (fun wc => ∃ (kq : Nat), Aside0 (spec_l4DrawRight.j1 kq x4_1 s0_0 t1286 t1287 x1285000_1 x1285001_1 x1285002_1 x1285003_1 x1285004_1 = some (r1, r2, r3, r4, r5, r6, r7)) ∧ Aside0 (kq ≤ k1) ∧ Aside0 (Kd.R k_Mark 118 wc w.heap.size (fun _ => True) u1285004 x1285004_1) ∧ Aside0 (wc.heap[gb1277]? = some (.cells #[.int .i64 0, .int .i64 0, .int .i64 0, .int .i64 0, (.slice none 0 0)] 54 (0, 0))) ∧ Aside0 (wc.heap[gb1284]? = some (.cells #[.int .i64 x1285000_1, .int .i64 x1285001_1, .int .i64 x1285002_1, .int .i64 x1285003_1, u1285004] 54 (0, 0))) ∧ Aside0 (IsS_l1Cur w0 wc g s0_0 t1286 t1287) ∧ Aside0 (KeepBut w wc g none) ∧ Aside0 (Below w0.heap.size w0 wc))
   case first =>
    have H := HC12.out
    clear HC12
    by_cases c14 : x4_1 < t1285
    ·
     rw [if_pos c14] at H
     have c14b0 : decide (x4_1 < t1285) = true := decide_eq_true c14
     clear c14
     (first | rw [c14b0] | (simp only [i64_w, i32_w]; rw [c14b0]) | rw [c14b4] | rw [c14b3] | skip)
     have H' := Aside0.mk H
     clear H
     go_wp2
     go_meet
     case rel => exact ⟨_, H', ⟨by have := HK1.out; first | omega | exact Nat.le_refl _⟩, ⟨rq_ HO_1285004.out⟩, ⟨bq_ BK1277.out⟩, ⟨bq_ BK1284.out⟩, ⟨is_l1Cur_ HI0.out⟩, ⟨by repeat (first | (with_reducible first | exact HK.out | apply KeepBut.set_ | apply keep_drewN | apply keep_drew | apply keep_alloc | refine keep_far ?_ GW1277.out _ | refine keep_far ?_ GW1284.out _) | exact HK.out)⟩, ⟨by repeat (first | (with_reducible first | exact HB.out | apply below_alloc | apply pw_below_drewN | apply below_drew1 | refine below_set ?_ (IsS_l1Cur.ge HI0.out) | refine below_set ?_ GE1277.out | refine below_set ?_ GE1284.out) | exact HB.out)⟩⟩
    ·
     rw [if_neg c14] at H
     have c14b0 : decide (x4_1 < t1285) = false := decide_eq_false c14
     clear c14
     (first | rw [c14b0] | (simp only [i64_w, i32_w]; rw [c14b0]) | rw [c14b4] | rw [c14b3] | skip)
     simp only [Option.some.injEq, Prod.mk.injEq] at H
     obtain ⟨rfl, rfl, rfl, rfl, rfl, rfl, rfl⟩ := H
     have hnb15 := NB1284_1277.out
     have hnc15 := NB1277_1284.out
     have hnb16 := NB1284_0.out
     have hnc16 := NB0_1284.out
     have hcz17_0 : w13.cell? ⟨gb1284, 0, none⟩ = some (.int .i64 x1285000_1) := (blk_cell BK1284.out 0).trans rfl
     have hcz17_1 : w13.cell? ⟨gb1284, 1, none⟩ = some (.int .i64 x1285001_1) := (blk_cell BK1284.out 1).trans rfl
     have hcz17_2 : w13.cell? ⟨gb1284, 2, none⟩ = some (.int .i64 x1285002_1) := (blk_cell BK1284.out 2).trans rfl
     have hcz17_3 : w13.cell? ⟨gb1284, 3, none⟩ = some (.int .i64 x1285003_1) := (blk_cell BK1284.out 3).trans rfl
     have hcz17_4 : w13.cell? ⟨gb1284, 4, none⟩ = some (u1285004) := (blk_cell BK1284.out 4).trans rfl
     have hfz17_0 := blk_frozen BK1284.out 0
     have hfz17_1 := blk_frozen BK1284.out 1
     have hfz17_2 := blk_frozen BK1284.out 2
     have hfz17_3 := blk_frozen BK1284.out 3
     have hfz17_4 := blk_frozen BK1284.out 4
     have hnb18 := NB1277_0.out
     have hnc18 := NB0_1277.out
     have hcz19_0 : w13.cell? ⟨gb1277, 0, none⟩ = some (.int .i64 0) := (blk_cell BK1277.out 0).trans rfl
     have hcz19_1 : w13.cell? ⟨gb1277, 1, none⟩ = some (.int .i64 0) := (blk_cell BK1277.out 1).trans rfl
     have hcz19_2 : w13.cell? ⟨gb1277, 2, none⟩ = some (.int .i64 0) := (blk_cell BK1277.out 2).trans rfl
     have hcz19_3 : w13.cell? ⟨gb1277, 3, none⟩ = some (.int .i64 0) := (blk_cell BK1277.out 3).trans rfl
     have hcz19_4 : w13.cell? ⟨gb1277, 4, none⟩ = some (.slice none 0 0) := (blk_cell BK1277.out 4).trans rfl
     have hfz19_0 := blk_frozen BK1277.out 0
     have hfz19_1 := blk_frozen BK1277.out 1
     have hfz19_2 := blk_frozen BK1277.out 2
     have hfz19_3 := blk_frozen BK1277.out 3
     have hfz19_4 := blk_frozen BK1277.out 4
     obtain ⟨Ao20, co20, eo20⟩ := Kd.R_slice HO_1285004.out
     subst eo20
     go_wp2
     refine bodyPost_ret (results_cell_row rfl _ _ gb1277 54 #[.int .i64 x1285000_1, .int .i64 x1285001_1, .int .i64 x1285002_1, .int .i64 x1285003_1, .slice Ao20 x1285004_1.length co20] (0, 0) _ rfl (bp_ BK1277.out) Try.underlying54 rfl (by kernel_rfl)) rfl ?_
     exact ⟨_, er_, by (with_reducible repeat (first | apply Kd.R_alloc | apply Kd.R_drewN | apply Kd.R_drew)); exact Kd.R_mono (Kd.R_far (p := ⟨gb1277, 4, none⟩) (Kd.R_far (p := ⟨gb1277, 3, none⟩) (Kd.R_far (p := ⟨gb1277, 2, none⟩) (Kd.R_far (p := ⟨gb1277, 1, none⟩) (Kd.R_far (p := ⟨gb1277, 0, none⟩) (Kd.R_types HO_1285004.out BK1277.out (by decide)) (fun _ hk => hk.2) (.int .i64 x1285000_1)) (fun _ hk => hk.2) (.int .i64 x1285001_1)) (fun _ hk => hk.2) (.int .i64 x1285002_1)) (fun _ hk => hk.2) (.int .i64 x1285003_1)) (fun _ hk => hk.2) (.slice Ao20 x1285004_1.length co20)) (fun _ hk => trivial), is_l1Cur_ HI0.out, by repeat (first | (with_reducible first | exact HB.out | apply below_alloc | apply pw_below_drewN | apply below_drew1 | refine below_set ?_ (IsS_l1Cur.ge HI0.out) | refine below_set ?_ GE1277.out | refine below_set ?_ GE1284.out) | exact HB.out), by repeat (first | (with_reducible first | exact HK.out | apply KeepBut.set_ | apply keep_drewN | apply keep_drew | apply keep_alloc | refine keep_far ?_ GW1277.out _ | refine keep_far ?_ GW1284.out _) | exact HK.out)⟩
   case rest =>
    clear HC12
    (try clear c1); (try clear p2); (try clear c8); (try clear c9); (try clear c12); (try clear c14); (try clear c14b0); (try clear c15); (try clear c16); (try clear c18); (try clear hcz10_0); (try clear hcz10_1); (try clear hcz10_2); (try clear hcz10_3); (try clear hcz10_4); (try clear hcz17_0); (try clear hcz17_1); (try clear hcz17_2); (try clear hcz17_3); (try clear hcz17_4); (try clear hcz19_0); (try clear hcz19_1); (try clear hcz19_2); (try clear hcz19_3); (try clear hcz19_4); (try clear hfz10_0); (try clear hfz10_1); (try clear hfz10_2); (try clear hfz10_3); (try clear hfz10_4); (try clear hfz17_0); (try clear hfz17_1); (try clear hfz17_2); (try clear hfz17_3); (try clear hfz17_4); (try clear hfz19_0); (try clear hfz19_1); (try clear hfz19_2); (try clear hfz19_3); (try clear hfz19_4); (try clear p2)
    obtain ⟨kq, HA, HJ11, HO_1285004, BK1277, BK1284, HI0, HK, HB⟩ := hcut
    cases kq with
    | zero => exact absurd HA.out (by simp [spec_l4DrawRight.j1])
    | succ kj11 =>
     have H := HA.out
     clear HA
     simp only [spec_l4DrawRight.j1] at H
     replace H := Option.bind_eq_some_iff.mp H
     obtain ⟨⟨t1288, t1289, t1290⟩, A210, H⟩ := H
     replace H : (if (wrap64 (x1285002_1 + (wrap64 (Int.tdiv t1288 8)))) > x1285002_1 then (spec_l4DrawRight.j2 kj11 x4_1 (wrap64 (x1285002_1 + (wrap64 (Int.tdiv t1288 8)))) 0 s0_0 t1289 t1290 x1285000_1 x1285001_1 x1285002_1 x1285003_1 x1285004_1) else (spec_l4DrawRight.j2 kj11 x4_1 (wrap64 (x1285002_1 + (wrap64 (Int.tdiv t1288 8)))) (wrap64 (x1285003_1 + 1)) s0_0 t1289 t1290 x1285000_1 x1285001_1 x1285002_1 x1285003_1 x1285004_1)) = some (r1, r2, r3, r4, r5, r6, r7) := H
     have A21 := Aside0.mk A210
     clear A210
     have HC22 := Aside0.mk H
     clear H
     try go_wp2
     have n0_ := Aside0.mk (Kd.R_drew HO_1285004.out)
     have n1_ := Aside0.mk (blk_drew BK1277.out)
     have n2_ := Aside0.mk (blk_drew BK1284.out)
     have n3_ := Aside0.mk (IsS_l1Cur.drew HI0.out)
     have n4_ := Aside0.mk (keep_drew HK.out)
     have n5_ := Aside0.mk (below_drew1 HB.out)
     clear HO_1285004; clear BK1277
     clear BK1284; clear HI0
     clear HK; clear HB
     have HO_1285004 := n0_
     have BK1277 := n1_
     have BK1284 := n2_
     have HI0 := n3_
     have HK := n4_
     have HB := n5_
     clear n0_ n1_ n2_ n3_ n4_ n5_
     refine start_ (n := 7) (S := fun w' => w'.cell? ⟨gb1284, 0, none⟩ = some (.int .i64 x1285000_1) ∧ w'.cell? ⟨gb1284, 1, none⟩ = some (.int .i64 x1285001_1) ∧ w'.cell? ⟨gb1284, 2, none⟩ = some (.int .i64 x1285002_1) ∧ w'.cell? ⟨gb1284, 3, none⟩ = some (.int .i64 x1285003_1) ∧ w'.cell? ⟨gb1284, 4, none⟩ = some (u1285004)) (ds := []) #[false, false, false, false, false, false, false] (by kernel_rfl) rfl rfl ⟨(blk_cell BK1284.out 0).trans rfl, (blk_cell BK1284.out 1).trans rfl, (blk_cell BK1284.out 2).trans rfl, (blk_cell BK1284.out 3).trans rfl, (blk_cell BK1284.out 4).trans rfl⟩ (fun hHeld => ?_)
     generalize wc.drew = w23 at HO_1285004 BK1277 BK1284 HI0 HK HB hHeld ⊢
     refine pure_ (i := 0) (N := some 18) (v := ?_) (a' := ?_) #[true, false, false, false, false, false, false] rfl rfl (by kernel_rfl) (fun _ _ _ h => h) (Or.inl ⟨by rfl, ?_⟩) ?_ ?_; rotate_left; (focus intro w'; go_simp; with_reducible rfl); rotate_left; (focus simp only [Act.put, List.setIfInBounds_toArray, List.set_cons_zero, List.set_cons_succ, i64_w, i32_w]; rfl)
     refine pure_ (i := 2) (N := some 20) (v := ?_) (a' := ?_) #[true, false, true, false, false, false, false] rfl rfl (by kernel_rfl) (fun _ _ _ h => h) (Or.inl ⟨by rfl, ?_⟩) ?_ ?_; rotate_left; (focus intro w'; go_simp; with_reducible rfl); rotate_left; (focus simp only [Act.put, List.setIfInBounds_toArray, List.set_cons_zero, List.set_cons_succ, i64_w, i32_w]; rfl)
     refine take_ (i := 1) (N := some 19) (v := ?_) (a' := ?_) #[true, true, true, false, false, false, false] rfl rfl (by kernel_rfl) (fun _ _ _ h => h) (Or.inl ⟨by rfl, ?_⟩) hHeld ?_ ?_
     rotate_left
     ·
      rintro w' ⟨s0, s1, s2, s3, s4⟩
      go_simp
      with_reducible rfl
     rotate_left; (focus simp only [Act.put, List.setIfInBounds_toArray, List.set_cons_zero, List.set_cons_succ, i64_w, i32_w]; rfl)
     refine one_ (i := 3) (N := some 21) #[true, true, true, true, false, false, false] rfl rfl (by kernel_rfl) (by decide) (fun K hK => ?_)
     refine goes_ Try.func94 (by kernel_rfl) rfl #[.pointer (some ⟨g, 0, none⟩), .int .i64 9] (by rfl) rfl rfl sm_ ?_
     with_reducible refine (spec_l1Below.calls g s0_0 t1286 t1287 9 t1288 t1289 t1290 w0 _ ?side1 ?side2 A21.out).mono ?_
     (case side1 => repeat (first | (with_reducible first | exact HI0.out | apply IsS_l1Cur.alloc | apply IsS_l1Cur.drewN | apply IsS_l1Cur.drew | apply IsS_l1Cur.set_1 | apply IsS_l1Cur.set_2 | refine IsS_l1Cur.far ?_ NB0_1277.out _ | refine IsS_l1Cur.far ?_ NB0_1284.out _) | exact HI0.out))
     (case side2 => repeat (first | (with_reducible first | exact HB.out | apply below_alloc | apply pw_below_drewN | apply below_drew1 | refine below_set ?_ (IsS_l1Cur.ge HI0.out) | refine below_set ?_ GE1277.out | refine below_set ?_ GE1284.out) | exact HB.out))
     rintro e w24 ⟨rfl, hi, hb, hk⟩
     refine ⟨_, rfl, ?_⟩
     have n0_ := Aside0.mk (Kd.R_mono (Kd.R_keep (IsS_l1Cur.apart (show IsS_l1Cur w0 _ g s0_0 t1286 t1287 from is_l1Cur_ HI0.out) (rq_ HO_1285004.out) (by decide)) hk (fun _ h => h.2)) (fun _ h => h.1))
     have n1_ := Aside0.mk (KeepBut.blk hk (g' := gb1277) (o := .cells #[.int .i64 0, .int .i64 0, .int .i64 0, .int .i64 0, .slice none 0 0] 54 (0, 0)) (bq_ BK1277.out) NB1277_0.out (by simp))
     have n2_ := Aside0.mk (KeepBut.blk hk (g' := gb1284) (o := .cells #[.int .i64 x1285000_1, .int .i64 x1285001_1, .int .i64 x1285002_1, .int .i64 x1285003_1, u1285004] 54 (0, 0)) (bq_ BK1284.out) NB1284_0.out (by simp))
     have n3_ := Aside0.mk (KeepBut.trans (hk_ HK.out) hk (.inl rfl))
     have n4_ := Aside0.mk (hb)
     have n5_ := Aside0.mk (hi)
     clear HO_1285004; clear BK1277
     clear BK1284; clear HK
     clear HB; clear HI0
     have HO_1285004 := n0_
     have BK1277 := n1_
     have BK1284 := n2_
     have HK := n3_
     have HB := n4_
     have HI0 := n5_
     clear n0_ n1_ n2_ n3_ n4_ n5_
     (try clear hb)
     (try clear hb2)
     (try clear hk)
     (try clear hi)
     refine hK.out _ _ ⟨(blk_cell BK1284.out 0).trans rfl, (blk_cell BK1284.out 1).trans rfl, (blk_cell BK1284.out 2).trans rfl, (blk_cell BK1284.out 3).trans rfl, (blk_cell BK1284.out 4).trans rfl⟩ (fun hHeld => ?_)
     clear hK K
     refine norm_ (a' := ?_) ?_ ?_
     rotate_left
     ·
      show Act.put _ (some 21) _ = _
      simp only [Act.put, List.setIfInBounds_toArray, List.set_cons_zero, List.set_cons_succ, i64_w, i32_w]
      rfl
     refine pure_ (i := 4) (N := some 22) (v := ?_) (a' := ?_) #[true, true, true, true, true, false, false] rfl rfl (by kernel_rfl) (fun _ _ _ h => h) (Or.inl ⟨by rfl, ?_⟩) ?_ ?_; rotate_left; (focus intro w'; go_simp; with_reducible rfl); rotate_left; (focus simp only [Act.put, List.setIfInBounds_toArray, List.set_cons_zero, List.set_cons_succ, i64_w, i32_w]; rfl)
     refine pure_ (i := 5) (N := some 23) (v := ?_) (a' := ?_) #[true, true, true, true, true, true, false] rfl rfl (by kernel_rfl) (fun _ _ _ h => h) (Or.inl ⟨by rfl, ?_⟩) ?_ ?_; rotate_left; (focus intro w'; go_simp; with_reducible rfl); rotate_left; (focus simp only [Act.put, List.setIfInBounds_toArray, List.set_cons_zero, List.set_cons_succ, i64_w, i32_w]; rfl)
     refine pure_ (i := 6) (N := some 5) (v := ?_) (a' := ?_) #[true, true, true, true, true, true, true] rfl rfl (by kernel_rfl) (fun _ _ _ h => h) (Or.inl ⟨by rfl, ?_⟩) ?_ ?_; rotate_left; (focus intro w'; go_simp; with_reducible rfl); rotate_left; (focus simp only [Act.put, List.setIfInBounds_toArray, List.set_cons_zero, List.set_cons_succ, i64_w, i32_w]; rfl)
     refine done_ (by kernel_rfl) ?_
     have hnb25 := NB1284_1277.out
     have hnc25 := NB1277_1284.out
     have hnb26 := NB1284_0.out
     have hnc26 := NB0_1284.out
     have hcz27_0 : w24.cell? ⟨gb1284, 0, none⟩ = some (.int .i64 x1285000_1) := (blk_cell BK1284.out 0).trans rfl
     have hcz27_1 : w24.cell? ⟨gb1284, 1, none⟩ = some (.int .i64 x1285001_1) := (blk_cell BK1284.out 1).trans rfl
     have hcz27_2 : w24.cell? ⟨gb1284, 2, none⟩ = some (.int .i64 x1285002_1) := (blk_cell BK1284.out 2).trans rfl
     have hcz27_3 : w24.cell? ⟨gb1284, 3, none⟩ = some (.int .i64 x1285003_1) := (blk_cell BK1284.out 3).trans rfl
     have hcz27_4 : w24.cell? ⟨gb1284, 4, none⟩ = some (u1285004) := (blk_cell BK1284.out 4).trans rfl
     have hfz27_0 := blk_frozen BK1284.out 0
     have hfz27_1 := blk_frozen BK1284.out 1
     have hfz27_2 := blk_frozen BK1284.out 2
     have hfz27_3 := blk_frozen BK1284.out 3
     have hfz27_4 := blk_frozen BK1284.out 4
     go_upto_if 30 with (fail)
     go_cut [6] (fun v6 wc => ∃ (kq : Nat) (x6_21 : Int), v6 = .int .i64 x6_21 ∧ Aside0 (spec_l4DrawRight.j2 kq x4_1 (wrap64 (x1285002_1 + (wrap64 (Int.tdiv t1288 8)))) x6_21 s0_0 t1289 t1290 x1285000_1 x1285001_1 x1285002_1 x1285003_1 x1285004_1 = some (r1, r2, r3, r4, r5, r6, r7)) ∧ Aside0 (kq ≤ kj11) ∧ Aside0 (Kd.R k_Mark 118 wc w.heap.size (fun _ => True) u1285004 x1285004_1) ∧ Aside0 (wc.heap[gb1277]? = some (.cells #[.int .i64 0, .int .i64 0, .int .i64 0, .int .i64 0, (.slice none 0 0)] 54 (0, 0))) ∧ Aside0 (wc.heap[gb1284]? = some (.cells #[.int .i64 x1285000_1, .int .i64 x1285001_1, .int .i64 x1285002_1, .int .i64 x1285003_1, u1285004] 54 (0, 0))) ∧ Aside0 (IsS_l1Cur w0 wc g s0_0 t1289 t1290) ∧ Aside0 (KeepBut w wc g none) ∧ Aside0 (Below w0.heap.size w0 wc))
     case first =>
      have H := HC22.out
      clear HC22
      by_cases c28 : (wrap64 (x1285002_1 + (wrap64 (Int.tdiv t1288 8)))) > x1285002_1
      ·
       rw [if_pos c28] at H
       have c28b0 : decide (x1285002_1 < (wrap64 (x1285002_1 + (wrap64 (Int.tdiv t1288 8))))) = true := decide_eq_true c28
       clear c28
       (first | rw [c28b0] | (simp only [i64_w, i32_w]; rw [c28b0]) | rw [c28b4] | rw [c28b3] | skip)
       have H' := Aside0.mk H
       clear H
       go_wp2
       go_meet
       case rel => exact ⟨_, (0), (by first | rfl | (simp; done) | (simp [*]; done)), H', ⟨by have := HK1.out; have := HJ11.out; first | omega | exact Nat.le_refl _⟩, ⟨rq_ HO_1285004.out⟩, ⟨bq_ BK1277.out⟩, ⟨bq_ BK1284.out⟩, ⟨is_l1Cur_ HI0.out⟩, ⟨by repeat (first | (with_reducible first | exact HK.out | apply KeepBut.set_ | apply keep_drewN | apply keep_drew | apply keep_alloc | refine keep_far ?_ GW1277.out _ | refine keep_far ?_ GW1284.out _) | exact HK.out)⟩, ⟨by repeat (first | (with_reducible first | exact HB.out | apply below_alloc | apply pw_below_drewN | apply below_drew1 | refine below_set ?_ (IsS_l1Cur.ge HI0.out) | refine below_set ?_ GE1277.out | refine below_set ?_ GE1284.out) | exact HB.out)⟩⟩
      ·
       rw [if_neg c28] at H
       have c28b0 : decide (x1285002_1 < (wrap64 (x1285002_1 + (wrap64 (Int.tdiv t1288 8))))) = false := decide_eq_false c28
       clear c28
       (first | rw [c28b0] | (simp only [i64_w, i32_w]; rw [c28b0]) | rw [c28b4] | rw [c28b3] | skip)
       have H' := Aside0.mk H
       clear H
       go_wp2
       go_meet
       case rel => exact ⟨_, (wrap64 (x1285003_1 + 1)), (by first | rfl | (simp; done) | (simp [*]; done)), H', ⟨by have := HK1.out; have := HJ11.out; first | omega | exact Nat.le_refl _⟩, ⟨rq_ HO_1285004.out⟩, ⟨bq_ BK1277.out⟩, ⟨bq_ BK1284.out⟩, ⟨is_l1Cur_ HI0.out⟩, ⟨by repeat (first | (with_reducible first | exact HK.out | apply KeepBut.set_ | apply keep_drewN | apply keep_drew | apply keep_alloc | refine keep_far ?_ GW1277.out _ | refine keep_far ?_ GW1284.out _) | exact HK.out)⟩, ⟨by repeat (first | (with_reducible first | exact HB.out | apply below_alloc | apply pw_below_drewN | apply below_drew1 | refine below_set ?_ (IsS_l1Cur.ge HI0.out) | refine below_set ?_ GE1277.out | refine below_set ?_ GE1284.out) | exact HB.out)⟩⟩
     case rest =>
      clear HC22
      (try clear c1); (try clear c2); (try clear p2); (try clear p6); (try clear c8); (try clear c9); (try clear c12); (try clear c14); (try clear c14b0); (try clear c15); (try clear c16); (try clear c18); (try clear c25); (try clear c26); (try clear c28); (try clear c28b0); (try clear hcz10_0); (try clear hcz10_1); (try clear hcz10_2); (try clear hcz10_3); (try clear hcz10_4); (try clear hcz17_0); (try clear hcz17_1); (try clear hcz17_2); (try clear hcz17_3); (try clear hcz17_4); (try clear hcz19_0); (try clear hcz19_1); (try clear hcz19_2); (try clear hcz19_3); (try clear hcz19_4); (try clear hcz27_0); (try clear hcz27_1); (try clear hcz27_2); (try clear hcz27_3); (try clear hcz27_4); (try clear hfz10_0); (try clear hfz10_1); (try clear hfz10_2); (try clear hfz10_3); (try clear hfz10_4); (try clear hfz17_0); (try clear hfz17_1); (try clear hfz17_2); (try clear hfz17_3); (try clear hfz17_4); (try clear hfz19_0); (try clear hfz19_1); (try clear hfz19_2); (try clear hfz19_3); (try clear hfz19_4); (try clear hfz27_0); (try clear hfz27_1); (try clear hfz27_2); (try clear hfz27_3); (try clear hfz27_4); (try clear p2)
      obtain ⟨kq, x6_21, rfl, HA, HJ21, HO_1285004, BK1277, BK1284, HI0, HK, HB⟩ := hcut
      cases kq with
      | zero => exact absurd HA.out (by simp [spec_l4DrawRight.j2])
      | succ kj21 =>
       have H := HA.out
       clear HA
       simp only [spec_l4DrawRight.j2] at H
       replace H := Option.bind_eq_some_iff.mp H
       obtain ⟨⟨t1291, t1292, t1293⟩, A290, H⟩ := H
       replace H : ((spec_MakerPut.f kj21 x1285000_1 x1285001_1 x1285002_1 x1285003_1 x1285004_1 (wrap64 (1 + t1291)) (wrap64 (x1285002_1 + (wrap64 (Int.tdiv t1288 8)))) x6_21 (wrap64 (2 * x4_1))).bind fun bt1294 => (spec_l4DrawRight.l0 kj21 (wrap64 (x4_1 + 1)) s0_0 t1292 t1293 bt1294.1 bt1294.2.1 bt1294.2.2.1 bt1294.2.2.2.1 bt1294.2.2.2.2)) = some (r1, r2, r3, r4, r5, r6, r7) := H
       have A29 := Aside0.mk A290
       clear A290
       replace H := Option.bind_eq_some_iff.mp H
       obtain ⟨⟨t1294, t1295, t1296, t1297, t1298⟩, A300, H⟩ := H
       replace H : (spec_l4DrawRight.l0 kj21 (wrap64 (x4_1 + 1)) s0_0 t1292 t1293 t1294 t1295 t1296 t1297 t1298) = some (r1, r2, r3, r4, r5, r6, r7) := H
       have A30 := Aside0.mk A300
       clear A300
       have H' := Aside0.mk H
       clear H
       try go_wp2
       have n0_ := Aside0.mk (Kd.R_drew HO_1285004.out)
       have n1_ := Aside0.mk (blk_drew BK1277.out)
       have n2_ := Aside0.mk (blk_drew BK1284.out)
       have n3_ := Aside0.mk (IsS_l1Cur.drew HI0.out)
       have n4_ := Aside0.mk (keep_drew HK.out)
       have n5_ := Aside0.mk (below_drew1 HB.out)
       clear HO_1285004; clear BK1277
       clear BK1284; clear HI0
       clear HK; clear HB
       have HO_1285004 := n0_
       have BK1277 := n1_
       have BK1284 := n2_
       have HI0 := n3_
       have HK := n4_
       have HB := n5_
       clear n0_ n1_ n2_ n3_ n4_ n5_
       refine start_ (n := 10) (S := fun w' => w'.cell? ⟨gb1284, 0, none⟩ = some (.int .i64 x1285000_1) ∧ w'.cell? ⟨gb1284, 1, none⟩ = some (.int .i64 x1285001_1) ∧ w'.cell? ⟨gb1284, 2, none⟩ = some (.int .i64 x1285002_1) ∧ w'.cell? ⟨gb1284, 3, none⟩ = some (.int .i64 x1285003_1) ∧ w'.cell? ⟨gb1284, 4, none⟩ = some (u1285004)) (ds := [9]) #[false, false, false, false, false, false, false, false, false, false] (by kernel_rfl) rfl rfl ⟨(blk_cell BK1284.out 0).trans rfl, (blk_cell BK1284.out 1).trans rfl, (blk_cell BK1284.out 2).trans rfl, (blk_cell BK1284.out 3).trans rfl, (blk_cell BK1284.out 4).trans rfl⟩ (fun hHeld => ?_); refine with_tabW spec_l4DrawRight.tab9 spec_l4DrawRight.bits9 (fun HT_ HW_ => ?_)
       generalize wc.drew = w31 at HO_1285004 BK1277 BK1284 HI0 HK HB hHeld ⊢
       refine pI_ 1 32 HT_ #[false, true, false, false, false, false, false, false, false, false] rfl rfl ?_
       refine pI_ 4 35 HT_ #[false, true, false, false, true, false, false, false, false, false] rfl rfl ?_
       refine pI_ 5 36 HT_ #[false, true, false, false, true, true, false, false, false, false] rfl rfl ?_
       refine pI_ 6 37 HT_ #[false, true, false, false, true, true, true, false, false, false] rfl rfl ?_
       refine pI_ 7 38 HT_ #[false, true, false, false, true, true, true, true, false, false] rfl rfl ?_
       refine take_ (i := 0) (N := some 31) (v := ?_) (a' := ?_) #[true, true, false, false, true, true, true, true, false, false] rfl rfl (take_ofW HT_.out HW_.out (by kernel_rfl)) (fun _ _ _ h => h) (Or.inl ⟨by rfl, ?_⟩) hHeld ?_ ?_
       rotate_left
       ·
        rintro w' ⟨s0, s1, s2, s3, s4⟩
        go_simp
        with_reducible rfl
       rotate_left; (focus simp only [Act.put, List.setIfInBounds_toArray, List.set_cons_zero, List.set_cons_succ, i64_w, i32_w]; rfl)
       refine one_ (i := 2) (N := some 33) #[true, true, true, false, true, true, true, true, false, false] rfl rfl (one_of HT_.out (by kernel_rfl)) (by decide) (fun K hK => ?_)
       refine goes_ Try.func94 (by kernel_rfl) rfl #[.pointer (some ⟨g, 0, none⟩), .int .i64 3] (by rfl) rfl rfl sm_ ?_
       with_reducible refine (spec_l1Below.calls g s0_0 t1289 t1290 3 t1291 t1292 t1293 w0 _ ?side1 ?side2 A29.out).mono ?_
       (case side1 => repeat (first | (with_reducible first | exact HI0.out | apply IsS_l1Cur.alloc | apply IsS_l1Cur.drewN | apply IsS_l1Cur.drew | apply IsS_l1Cur.set_1 | apply IsS_l1Cur.set_2 | refine IsS_l1Cur.far ?_ NB0_1277.out _ | refine IsS_l1Cur.far ?_ NB0_1284.out _) | exact HI0.out))
       (case side2 => repeat (first | (with_reducible first | exact HB.out | apply below_alloc | apply pw_below_drewN | apply below_drew1 | refine below_set ?_ (IsS_l1Cur.ge HI0.out) | refine below_set ?_ GE1277.out | refine below_set ?_ GE1284.out) | exact HB.out))
       rintro e w32 ⟨rfl, hi, hb, hk⟩
       refine ⟨_, rfl, ?_⟩
       have n0_ := Aside0.mk (Kd.R_mono (Kd.R_keep (IsS_l1Cur.apart (show IsS_l1Cur w0 _ g s0_0 t1289 t1290 from is_l1Cur_ HI0.out) (rq_ HO_1285004.out) (by decide)) hk (fun _ h => h.2)) (fun _ h => h.1))
       have n1_ := Aside0.mk (KeepBut.blk hk (g' := gb1277) (o := .cells #[.int .i64 0, .int .i64 0, .int .i64 0, .int .i64 0, .slice none 0 0] 54 (0, 0)) (bq_ BK1277.out) NB1277_0.out (by simp))
       have n2_ := Aside0.mk (KeepBut.blk hk (g' := gb1284) (o := .cells #[.int .i64 x1285000_1, .int .i64 x1285001_1, .int .i64 x1285002_1, .int .i64 x1285003_1, u1285004] 54 (0, 0)) (bq_ BK1284.out) NB1284_0.out (by simp))
       have n3_ := Aside0.mk (KeepBut.trans (hk_ HK.out) hk (.inl rfl))
       have n4_ := Aside0.mk (hb)
       have n5_ := Aside0.mk (hi)
       clear HO_1285004; clear BK1277
       clear BK1284; clear HK
       clear HB; clear HI0
       have HO_1285004 := n0_
       have BK1277 := n1_
       have BK1284 := n2_
       have HK := n3_
       have HB := n4_
       have HI0 := n5_
       clear n0_ n1_ n2_ n3_ n4_ n5_
       (try clear hb)
       (try clear hb2)
       (try clear hk)
       (try clear hi)
       obtain ⟨Ao33, co33, eo33⟩ := Kd.R_slice HO_1285004.out
       (first | subst eo33 | (injection eo33 with f1_ f2_ f3_; have f4_ := f1_.symm; have f5_ := f3_.symm; clear f1_ f2_ f3_; subst f4_; subst f5_))
       refine hK.out _ _ ⟨(blk_cell BK1284.out 0).trans rfl, (blk_cell BK1284.out 1).trans rfl, (blk_cell BK1284.out 2).trans rfl, (blk_cell BK1284.out 3).trans rfl, (blk_cell BK1284.out 4).trans rfl⟩ (fun hHeld => ?_)
       clear hK K
       refine norm_ (a' := ?_) ?_ ?_
       rotate_left
       ·
        show Act.put _ (some 33) _ = _
        simp only [Act.put, List.setIfInBounds_toArray, List.set_cons_zero, List.set_cons_succ, i64_w, i32_w]
        rfl
       refine pI_ 3 34 HT_ #[true, true, true, true, true, true, true, true, false, false] rfl rfl ?_
       refine one_ (i := 8) (N := some 39) #[true, true, true, true, true, true, true, true, true, false] rfl rfl (one_of HT_.out (by kernel_rfl)) (by decide) (fun K hK => ?_)
       refine goes_ Try.func71 (by kernel_rfl) rfl #[.agg #[.int .i64 x1285000_1, .int .i64 x1285001_1, .int .i64 x1285002_1, .int .i64 x1285003_1, .slice Ao33 x1285004_1.length co33], .int .i64 (wrap64 (1 + t1291)), .int .i64 (wrap64 (x1285002_1 + (wrap64 (Int.tdiv t1288 8)))), .int .i64 x6_21, .int .i64 (wrap64 (2 * x4_1))] (by rfl) rfl rfl sm_ ?_
       with_reducible refine (spec_MakerPut.calls kj21 x1285000_1 x1285001_1 x1285002_1 x1285003_1 _ _ x1285004_1 (wrap64 (1 + t1291)) (wrap64 (x1285002_1 + (wrap64 (Int.tdiv t1288 8)))) x6_21 (wrap64 (2 * x4_1)) t1294 t1295 t1296 t1297 t1298 _ ?side1 ?side2 A30.out).mono ?_
       (case side1 => repeat (first | exact (Kd.R_reads' HO_1285004.out).2.2 | (with_reducible refine Kd.C_alloc ?_ _) | (with_reducible refine Kd.C_drewN ?_ _) | (with_reducible refine Kd.C_drew ?_)))
       (case side2 => exact (Kd.R_reads' HO_1285004.out).2.1)
       rintro e w34 ⟨v1299, rfl, ho0, hb⟩
       refine ⟨_, rfl, ?_⟩
       have n0_ := Aside0.mk (Kd.R_elder' (rq_ HO_1285004.out) (Kd.R_base ho0) hb)
       have n1_ := Aside0.mk (Kd.R_lower (Kd.R_new' ho0 (Kd.R_lt (rq_ HO_1285004.out))) (keep_size (w := w) (g := g) (row := none) (hk_ HK.out)))
       have n2_ := Aside0.mk (bb_ BK1277.out hb)
       have n3_ := Aside0.mk (bb_ BK1284.out hb)
       have n4_ := Aside0.mk (IsS_l1Cur.below (is_l1Cur_ HI0.out) hb)
       have n5_ := Aside0.mk (KeepBut.trans (hk_ HK.out) (KeepBut.of_below hb g none) (.inl rfl))
       have n6_ := Aside0.mk (below_step (hi_ HB.out) hb)
       clear HO_1285004; clear BK1277
       clear BK1284; clear HI0
       clear HK; clear HB
       have HO_1285004 := n0_
       have HO1300 := n1_
       have BK1277 := n2_
       have BK1284 := n3_
       have HI0 := n4_
       have HK := n5_
       have HB := n6_
       clear n0_ n1_ n2_ n3_ n4_ n5_ n6_
       (try clear hb)
       (try clear hb2)
       (try clear hk)
       (try clear hi)
       (try clear ho0)
       obtain ⟨Ao39, co39, eo39⟩ := Kd.R_slice HO1300.out
       (first | subst eo39 | (injection eo39 with f1_ f2_ f3_; have f4_ := f1_.symm; have f5_ := f3_.symm; clear f1_ f2_ f3_; subst f4_; subst f5_))
       refine hK.out _ _ ⟨(blk_cell BK1284.out 0).trans rfl, (blk_cell BK1284.out 1).trans rfl, (blk_cell BK1284.out 2).trans rfl, (blk_cell BK1284.out 3).trans rfl, (blk_cell BK1284.out 4).trans rfl⟩ (fun hHeld => ?_)
       clear hK K
       refine norm_ (a' := ?_) ?_ ?_
       rotate_left
       ·
        show Act.put _ (some 39) _ = _
        simp only [Act.put, List.setIfInBounds_toArray, List.set_cons_zero, List.set_cons_succ, i64_w, i32_w]
        rfl
       refine last_ (i := 9) (N := none) #[true, true, true, true, true, true, true, true, true, true] rfl rfl (one_of HT_.out (by kernel_rfl)) (by decide) (fun K hK => ?_)
       have hs35 : w34.cell? ⟨gb1284, 0, none⟩ = some (.int .i64 x1285000_1) := (blk_cell BK1284.out 0).trans rfl
       have hfs35 := blk_frozen BK1284.out 0
       have hns35_0 := NB1277_1284.out
       have hms35_0 := NB1284_1277.out
       have hs36 : w34.cell? ⟨gb1284, 1, none⟩ = some (.int .i64 x1285001_1) := (blk_cell BK1284.out 1).trans rfl
       have hfs36 := blk_frozen BK1284.out 1
       have hns36_0 := NB1277_1284.out
       have hms36_0 := NB1284_1277.out
       have hs37 : w34.cell? ⟨gb1284, 2, none⟩ = some (.int .i64 x1285002_1) := (blk_cell BK1284.out 2).trans rfl
       have hfs37 := blk_frozen BK1284.out 2
       have hns37_0 := NB1277_1284.out
       have hms37_0 := NB1284_1277.out
       have hs38 : w34.cell? ⟨gb1284, 3, none⟩ = some (.int .i64 x1285003_1) := (blk_cell BK1284.out 3).trans rfl
       have hfs38 := blk_frozen BK1284.out 3
       have hns38_0 := NB1277_1284.out
       have hms38_0 := NB1284_1277.out
       have hs40 : w34.cell? ⟨gb1284, 4, none⟩ = some (.slice Ao33 x1285004_1.length co33) := (blk_cell BK1284.out 4).trans rfl
       have hfs40 := blk_frozen BK1284.out 4
       have hns40_0 := NB1277_1284.out
       have hms40_0 := NB1284_1277.out
       refine skip_ (w1 := ?_) (by rfl) rfl ?_ ?_
       rotate_left; (focus go_simp; rfl)
       refine hK.out _ _ ?_
       clear hK K
       refine done_ (done_of HT_.out (by kernel_rfl)) ?_
       try go_wp2
       go_roundg kj21
       case measure => have := HK1.out; have := HJ11.out; have := HJ21.out; omega
       case rel => exact ⟨(wrap64 (x4_1 + 1)), (t1292), (t1293), (t1294), (t1295), (t1296), (t1297), (t1298), (.slice Ao39 t1298.length co39), (by first | rfl | (simp; done) | (simp [*]; done)), H', ⟨by have := HK1.out; have := HJ11.out; have := HJ21.out; omega⟩, ⟨by (with_reducible repeat (first | apply Kd.R_alloc | apply Kd.R_drewN | apply Kd.R_drew)); exact Kd.R_mono (Kd.R_far (p := ⟨gb1284, 4, none⟩) (Kd.R_far (p := ⟨gb1284, 3, none⟩) (Kd.R_far (p := ⟨gb1284, 2, none⟩) (Kd.R_far (p := ⟨gb1284, 1, none⟩) (Kd.R_far (p := ⟨gb1284, 0, none⟩) (Kd.R_types HO1300.out BK1284.out (by decide)) (fun _ hk => hk.2) (.int .i64 t1294)) (fun _ hk => hk.2) (.int .i64 t1295)) (fun _ hk => hk.2) (.int .i64 t1296)) (fun _ hk => hk.2) (.int .i64 t1297)) (fun _ hk => hk.2) (.slice Ao39 t1298.length co39)) (fun _ hk => trivial)⟩, ⟨by (with_reducible repeat (first | refine blk_drewN ?_ _ | refine blk_drew ?_ | refine blk_alloc ?_ _)); refine blk_far ?_ NB1277_1284.out _; (with_reducible repeat (first | refine blk_drewN ?_ _ | refine blk_drew ?_ | refine blk_alloc ?_ _)); refine blk_far ?_ NB1277_1284.out _; (with_reducible repeat (first | refine blk_drewN ?_ _ | refine blk_drew ?_ | refine blk_alloc ?_ _)); refine blk_far ?_ NB1277_1284.out _; (with_reducible repeat (first | refine blk_drewN ?_ _ | refine blk_drew ?_ | refine blk_alloc ?_ _)); refine blk_far ?_ NB1277_1284.out _; (with_reducible repeat (first | refine blk_drewN ?_ _ | refine blk_drew ?_ | refine blk_alloc ?_ _)); refine blk_far ?_ NB1277_1284.out _; (with_reducible repeat (first | refine blk_drewN ?_ _ | refine blk_drew ?_ | refine blk_alloc ?_ _)); exact BK1277.out⟩, ⟨by (with_reducible repeat (first | refine blk_drewN ?_ _ | refine blk_drew ?_ | refine blk_alloc ?_ _)); refine blk_put (cs := #[.int .i64 t1294, .int .i64 t1295, .int .i64 t1296, .int .i64 t1297, .slice Ao33 x1285004_1.length co33]) ?_ 4 _ rfl; (with_reducible repeat (first | refine blk_drewN ?_ _ | refine blk_drew ?_ | refine blk_alloc ?_ _)); refine blk_put (cs := #[.int .i64 t1294, .int .i64 t1295, .int .i64 t1296, .int .i64 x1285003_1, .slice Ao33 x1285004_1.length co33]) ?_ 3 _ rfl; (with_reducible repeat (first | refine blk_drewN ?_ _ | refine blk_drew ?_ | refine blk_alloc ?_ _)); refine blk_put (cs := #[.int .i64 t1294, .int .i64 t1295, .int .i64 x1285002_1, .int .i64 x1285003_1, .slice Ao33 x1285004_1.length co33]) ?_ 2 _ rfl; (with_reducible repeat (first | refine blk_drewN ?_ _ | refine blk_drew ?_ | refine blk_alloc ?_ _)); refine blk_put (cs := #[.int .i64 t1294, .int .i64 x1285001_1, .int .i64 x1285002_1, .int .i64 x1285003_1, .slice Ao33 x1285004_1.length co33]) ?_ 1 _ rfl; (with_reducible repeat (first | refine blk_drewN ?_ _ | refine blk_drew ?_ | refine blk_alloc ?_ _)); refine blk_put (cs := #[.int .i64 x1285000_1, .int .i64 x1285001_1, .int .i64 x1285002_1, .int .i64 x1285003_1, .slice Ao33 x1285004_1.length co33]) ?_ 0 _ rfl; (with_reducible repeat (first | refine blk_drewN ?_ _ | refine blk_drew ?_ | refine blk_alloc ?_ _)); exact BK1284.out⟩, ⟨is_l1Cur_ HI0.out⟩, ⟨by repeat (first | (with_reducible first | exact HK.out | apply KeepBut.set_ | apply keep_drewN | apply keep_drew | apply keep_alloc | refine keep_far ?_ GW1277.out _ | refine keep_far ?_ GW1284.out _) | exact HK.out)⟩, ⟨by repeat (first | (with_reducible first | exact HB.out | apply below_alloc | apply pw_below_drewN | apply below_drew1 | refine below_set ?_ (IsS_l1Cur.ge HI0.out) | refine below_set ?_ GE1277.out | refine below_set ?_ GE1284.out) | exact HB.out)⟩⟩
end Go.Proofs.Ytgkeapbeogmfjaa.Q
