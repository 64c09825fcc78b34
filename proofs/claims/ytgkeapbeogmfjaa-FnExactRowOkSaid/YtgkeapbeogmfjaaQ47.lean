/- Made by a program of ours out of the print of the loaded functions: for each of some functions a plain function, and the walk that shows that a call comes to what it says. No condition but those of each theorem. -/
import Derived.Test.YtgkeapbeogmfjaaQ0
import Derived.Test.YtgkeapbeogmfjaaQA
import Derived.Test.YtgkeapbeogmfjaaQ4
import Derived.Test.YtgkeapbeogmfjaaQ46
namespace Go.Proofs.Ytgkeapbeogmfjaa.Q
open Go.RowKit Go.Proofs.YtgkeapbeogmfjaaW.PrintWords Go.Proofs.YtgkeapbeogmfjaaW.PrintLast Go.Proofs.YtgkeapbeogmfjaaW.PrintMore
attribute [local go_sem] max2_int min2_int max_two min_two max_three min_three max_four min_four   -- for this text's walks alone
set_option linter.unusedVariables false
set_option linter.unusedSimpArgs false

/-! ### spec_RowOk: function 46 -/
abbrev spec_RowOk.m0 : Array Bool := #[false, false, false, false, false, false, false, false, false, false, false, false, false, false, false, false, false, false, false, false, false, false, false, false, false, false, false, false, false, false, false, false, false, false, false, false, false, false, false, false, false, false]
abbrev spec_RowOk.m1 : Array Bool := #[true, false, false, false, false, false, false, false, false, false, false, false, false, false, false, false, false, false, false, false, false, false, false, false, false, false, false, false, false, false, false, false, false, false, false, false, false, false, false, false, false, false]
abbrev spec_RowOk.m2 : Array Bool := #[true, false, true, false, false, false, false, false, false, false, false, false, false, false, false, false, false, false, false, false, false, false, false, false, false, false, false, false, false, false, false, false, false, false, false, false, false, false, false, false, false, false]
abbrev spec_RowOk.m3 : Array Bool := #[true, true, true, false, false, false, false, false, false, false, false, false, false, false, false, false, false, false, false, false, false, false, false, false, false, false, false, false, false, false, false, false, false, false, false, false, false, false, false, false, false, false]
abbrev spec_RowOk.m4 : Array Bool := #[true, true, true, true, false, false, false, false, false, false, false, false, false, false, false, false, false, false, false, false, false, false, false, false, false, false, false, false, false, false, false, false, false, false, false, false, false, false, false, false, false, false]
abbrev spec_RowOk.m5 : Array Bool := #[true, true, true, true, true, false, false, false, false, false, false, false, false, false, false, false, false, false, false, false, false, false, false, false, false, false, false, false, false, false, false, false, false, false, false, false, false, false, false, false, false, false]
abbrev spec_RowOk.m6 : Array Bool := #[true, true, true, true, true, true, false, false, false, false, false, false, false, false, false, false, false, false, false, false, false, false, false, false, false, false, false, false, false, false, false, false, false, false, false, false, false, false, false, false, false, false]
abbrev spec_RowOk.m7 : Array Bool := #[true, true, true, true, true, true, true, false, false, false, false, false, false, false, false, false, false, false, false, false, false, false, false, false, false, false, false, false, false, false, false, false, false, false, false, false, false, false, false, false, false, false]
abbrev spec_RowOk.m8 : Array Bool := #[true, true, true, true, true, true, true, true, false, false, false, false, false, false, false, false, false, false, false, false, false, false, false, false, false, false, false, false, false, false, false, false, false, false, false, false, false, false, false, false, false, false]
abbrev spec_RowOk.m9 : Array Bool := #[true, true, true, true, true, true, true, true, true, false, false, false, false, false, false, false, false, false, false, false, false, false, false, false, false, false, false, false, false, false, false, false, false, false, false, false, false, false, false, false, false, false]
abbrev spec_RowOk.m10 : Array Bool := #[true, true, true, true, true, true, true, true, true, false, true, false, false, false, false, false, false, false, false, false, false, false, false, false, false, false, false, false, false, false, false, false, false, false, false, false, false, false, false, false, false, false]
abbrev spec_RowOk.m11 : Array Bool := #[true, true, true, true, true, true, true, true, true, false, true, false, false, false, true, false, false, false, false, false, false, false, false, false, false, false, false, false, false, false, false, false, false, false, false, false, false, false, false, false, false, false]
abbrev spec_RowOk.m12 : Array Bool := #[true, true, true, true, true, true, true, true, true, false, true, false, false, false, true, false, true, false, false, false, false, false, false, false, false, false, false, false, false, false, false, false, false, false, false, false, false, false, false, false, false, false]
abbrev spec_RowOk.m13 : Array Bool := #[true, true, true, true, true, true, true, true, true, true, true, false, false, false, true, false, true, false, false, false, false, false, false, false, false, false, false, false, false, false, false, false, false, false, false, false, false, false, false, false, false, false]
abbrev spec_RowOk.m14 : Array Bool := #[true, true, true, true, true, true, true, true, true, true, true, true, false, false, true, false, true, false, false, false, false, false, false, false, false, false, false, false, false, false, false, false, false, false, false, false, false, false, false, false, false, false]
abbrev spec_RowOk.m15 : Array Bool := #[true, true, true, true, true, true, true, true, true, true, true, true, true, false, true, false, true, false, false, false, false, false, false, false, false, false, false, false, false, false, false, false, false, false, false, false, false, false, false, false, false, false]
abbrev spec_RowOk.m16 : Array Bool := #[true, true, true, true, true, true, true, true, true, true, true, true, true, true, true, false, true, false, false, false, false, false, false, false, false, false, false, false, false, false, false, false, false, false, false, false, false, false, false, false, false, false]
abbrev spec_RowOk.m17 : Array Bool := #[true, true, true, true, true, true, true, true, true, true, true, true, true, true, true, true, true, false, false, false, false, false, false, false, false, false, false, false, false, false, false, false, false, false, false, false, false, false, false, false, false, false]
abbrev spec_RowOk.m18 : Array Bool := #[true, true, true, true, true, true, true, true, true, true, true, true, true, true, true, true, true, true, false, false, false, false, false, false, false, false, false, false, false, false, false, false, false, false, false, false, false, false, false, false, false, false]
abbrev spec_RowOk.m19 : Array Bool := #[true, true, true, true, true, true, true, true, true, true, true, true, true, true, true, true, true, true, true, false, false, false, false, false, false, false, false, false, false, false, false, false, false, false, false, false, false, false, false, false, false, false]
abbrev spec_RowOk.m20 : Array Bool := #[true, true, true, true, true, true, true, true, true, true, true, true, true, true, true, true, true, true, true, true, false, false, false, false, false, false, false, false, false, false, false, false, false, false, false, false, false, false, false, false, false, false]
abbrev spec_RowOk.m21 : Array Bool := #[true, true, true, true, true, true, true, true, true, true, true, true, true, true, true, true, true, true, true, true, true, false, false, false, false, false, false, false, false, false, false, false, false, false, false, false, false, false, false, false, false, false]
abbrev spec_RowOk.m22 : Array Bool := #[true, true, true, true, true, true, true, true, true, true, true, true, true, true, true, true, true, true, true, true, true, true, false, false, false, false, false, false, false, false, false, false, false, false, false, false, false, false, false, false, false, false]
abbrev spec_RowOk.m23 : Array Bool := #[true, true, true, true, true, true, true, true, true, true, true, true, true, true, true, true, true, true, true, true, true, true, true, false, false, false, false, false, false, false, false, false, false, false, false, false, false, false, false, false, false, false]
abbrev spec_RowOk.m24 : Array Bool := #[true, true, true, true, true, true, true, true, true, true, true, true, true, true, true, true, true, true, true, true, true, true, true, true, false, false, false, false, false, false, false, false, false, false, false, false, false, false, false, false, false, false]
abbrev spec_RowOk.m25 : Array Bool := #[true, true, true, true, true, true, true, true, true, true, true, true, true, true, true, true, true, true, true, true, true, true, true, true, true, false, false, false, false, false, false, false, false, false, false, false, false, false, false, false, false, false]
abbrev spec_RowOk.m26 : Array Bool := #[true, true, true, true, true, true, true, true, true, true, true, true, true, true, true, true, true, true, true, true, true, true, true, true, true, true, false, false, false, false, false, false, false, false, false, false, false, false, false, false, false, false]
abbrev spec_RowOk.m27 : Array Bool := #[true, true, true, true, true, true, true, true, true, true, true, true, true, true, true, true, true, true, true, true, true, true, true, true, true, true, true, false, false, false, false, false, false, false, false, false, false, false, false, false, false, false]
abbrev spec_RowOk.m28 : Array Bool := #[true, true, true, true, true, true, true, true, true, true, true, true, true, true, true, true, true, true, true, true, true, true, true, true, true, true, true, true, true, true, true, true, true, true, true, true, false, false, false, false, false, false]
abbrev spec_RowOk.m29 : Array Bool := #[true, true, true, true, true, true, true, true, true, true, true, true, true, true, true, true, true, true, true, true, true, true, true, true, true, true, true, true, true, true, true, true, true, true, true, true, true, false, false, false, false, false]
abbrev spec_RowOk.m30 : Array Bool := #[true, true, true, true, true, true, true, true, true, true, true, true, true, true, true, true, true, true, true, true, true, true, true, true, true, true, true, true, true, true, true, true, true, true, true, true, true, true, false, false, false, false]
abbrev spec_RowOk.m31 : Array Bool := #[true, true, true, true, true, true, true, true, true, true, true, true, true, true, true, true, true, true, true, true, true, true, true, true, true, true, true, true, true, true, true, true, true, true, true, true, true, true, true, false, false, false]
abbrev spec_RowOk.m32 : Array Bool := #[true, true, true, true, true, true, true, true, true, true, true, true, true, true, true, true, true, true, true, true, true, true, true, true, true, true, true, true, true, true, true, true, true, true, true, true, true, true, true, true, false, false]
abbrev spec_RowOk.m33 : Array Bool := #[true, true, true, true, true, true, true, true, true, true, true, true, true, true, true, true, true, true, true, true, true, true, true, true, true, true, true, true, true, true, true, true, true, true, true, true, true, true, true, true, true, false]
abbrev spec_RowOk.m34 : Array Bool := #[true, true, true, true, true, true, true, true, true, true, true, true, true, true, true, true, true, true, true, true, true, true, true, true, true, true, true, true, true, true, true, true, true, true, true, true, true, true, true, true, true, true]
abbrev spec_RowOk.m35 : Array Bool := #[true, true, true, true, true, true, true, true, true, true, true, true, true, true, true, true, true, true, true, true, true, true, true, true, true, true, true, true, false, false, false, false, false, false, false, false, false, false, false, false, false, false]
abbrev spec_RowOk.m36 : Array Bool := #[true, true, true, true, true, true, true, true, true, true, true, true, true, true, true, true, true, true, true, true, true, true, true, true, true, true, true, true, true, false, false, false, false, false, false, false, false, false, false, false, false, false]
abbrev spec_RowOk.m37 : Array Bool := #[true, true, true, true, true, true, true, true, true, true, true, true, true, true, true, true, true, true, true, true, true, true, true, true, true, true, true, true, true, true, false, false, false, false, false, false, false, false, false, false, false, false]
abbrev spec_RowOk.m38 : Array Bool := #[true, true, true, true, true, true, true, true, true, true, true, true, true, true, true, true, true, true, true, true, true, true, true, true, true, true, true, true, true, true, true, false, false, false, false, false, false, false, false, false, false, false]
abbrev spec_RowOk.m39 : Array Bool := #[true, true, true, true, true, true, true, true, true, true, true, true, true, true, true, true, true, true, true, true, true, true, true, true, true, true, true, true, true, true, true, true, false, false, false, false, false, false, false, false, false, false]
abbrev spec_RowOk.m40 : Array Bool := #[true, true, true, true, true, true, true, true, true, true, true, true, true, true, true, true, true, true, true, true, true, true, true, true, true, true, true, true, true, true, true, true, true, false, false, false, false, false, false, false, false, false]
abbrev spec_RowOk.m41 : Array Bool := #[true, true, true, true, true, true, true, true, true, true, true, true, true, true, true, true, true, true, true, true, true, true, true, true, true, true, true, true, true, true, true, true, true, true, false, false, false, false, false, false, false, false]
abbrev spec_RowOk.m42 : Array Bool := #[true, true, true, true, true, true, true, true, true, true, true, true, true, true, true, true, true, true, true, true, true, true, true, true, true, true, true, true, true, true, true, true, true, true, true, false, false, false, false, false, false, false]
mutual
def spec_RowOk.j3 : Nat → Int → Int → List (S_Item) → Option (Bool)
 | 0, _, _, _ => none
 | k + 1, x958000, x958001, x958002 => (spec_l1In.f x958000 0 x958001).bind fun t964 => (if t964 = true then (if x958001 ≤ 100000 then (some (decide ((x958002.length : Int) ≤ 80))) else (some false)) else (some false))
def spec_RowOk.l0 : Nat → Int → Int → Int → List (S_Item) → Option (Bool)
 | 0, _, _, _, _ => none
 | k + 1, x3, x958000, x958001, x958002 => if x3 < (x958002.length : Int) then (spec_RowOk.j1 k x3 x958000 x958001 x958002) else (spec_RowOk.j3 k x958000 x958001 x958002)
def spec_RowOk.j1 : Nat → Int → Int → Int → List (S_Item) → Option (Bool)
 | 0, _, _, _, _ => none
 | k + 1, x3, x958000, x958001, x958002 => if 0 ≤ x3 then (if x3 < (x958002.length : Int) then ((spec_l3Item.f k ((rd_Item x958002 x3).f0) ((rd_Item x958002 x3).f1) ((rd_Item x958002 x3).f2) ((rd_Item x958002 x3).f3) ((rd_Item x958002 x3).f4)).bind fun t959 => (if t959 = true then ((spec_l1In.f ((rd_Item x958002 x3).f0) x958000 (wrap64 (x958001 - 1))).bind fun t961 => (if t961 = true then (if x3 > 0 then (if 0 ≤ (wrap64 (x3 - 1)) then (if (wrap64 (x3 - 1)) < (x958002.length : Int) then (spec_RowOk.j2 k x3 (decide (((rd_Item x958002 (wrap64 (x3 - 1))).f0) ≥ ((rd_Item x958002 x3).f0))) x958000 x958001 x958002) else (none)) else (none)) else (spec_RowOk.j2 k x3 false x958000 x958001 x958002)) else (spec_RowOk.j2 k x3 true x958000 x958001 x958002))) else (spec_RowOk.j2 k x3 true x958000 x958001 x958002))) else (none)) else (none)
def spec_RowOk.j2 : Nat → Int → Bool → Int → Int → List (S_Item) → Option (Bool)
 | 0, _, _, _, _, _ => none
 | k + 1, x3, x52, x958000, x958001, x958002 => if x52 = true then (some false) else (spec_RowOk.l0 k (wrap64 (x3 + 1)) x958000 x958001 x958002)
end
def spec_RowOk.f (k : Nat) (a0_0 : Int) (a0_1 : Int) (l0_2 : List (S_Item)) : Option (Bool) := spec_RowOk.l0 k 0 a0_0 a0_1 l0_2
theorem spec_RowOk.mono_l : ∀ k, (∀ y0 y1 y2, LeO (spec_RowOk.j3 k y0 y1 y2) (spec_RowOk.j3 (k + 1) y0 y1 y2)) ∧ (∀ y0 y1 y2 y3, LeO (spec_RowOk.l0 k y0 y1 y2 y3) (spec_RowOk.l0 (k + 1) y0 y1 y2 y3)) ∧ (∀ y0 y1 y2 y3, LeO (spec_RowOk.j1 k y0 y1 y2 y3) (spec_RowOk.j1 (k + 1) y0 y1 y2 y3)) ∧ (∀ y0 y1 y2 y3 y4, LeO (spec_RowOk.j2 k y0 y1 y2 y3 y4) (spec_RowOk.j2 (k + 1) y0 y1 y2 y3 y4))
 | 0 => ⟨fun _ _ _ r h => by simp [spec_RowOk.j3] at h, fun _ _ _ _ r h => by simp [spec_RowOk.l0] at h, fun _ _ _ _ r h => by simp [spec_RowOk.j1] at h, fun _ _ _ _ _ r h => by simp [spec_RowOk.j2] at h⟩
 | k + 1 => by
  obtain ⟨ih0, ih1, ih2, ih3⟩ := spec_RowOk.mono_l k
  refine ⟨?_, ?_, ?_, ?_⟩
  ·
   intro y0 y1 y2
   unfold spec_RowOk.j3
   repeat' first
   | (with_reducible exact ih0 _ _ _)
   | (with_reducible exact ih1 _ _ _ _)
   | (with_reducible exact ih2 _ _ _ _)
   | (with_reducible exact ih3 _ _ _ _ _)
   | (with_reducible exact spec_l3Item.mono _ _ _ _ _ _)
   | (with_reducible exact LeO.refl _)
   | (with_reducible exact LeO.none _)
   | (with_reducible refine LeO.ite ?_ ?_)
   | (with_reducible refine LeO.bind ?_ (fun _ => ?_))
   | exact ih0 _ _ _
   | exact ih1 _ _ _ _
   | exact ih2 _ _ _ _
   | exact ih3 _ _ _ _ _
   | exact spec_l3Item.mono _ _ _ _ _ _
   | exact LeO.none _
   | refine LeO.ite ?_ ?_
   | refine LeO.bind ?_ (fun _ => ?_)
  ·
   intro y0 y1 y2 y3
   unfold spec_RowOk.l0
   repeat' first
   | (with_reducible exact ih0 _ _ _)
   | (with_reducible exact ih1 _ _ _ _)
   | (with_reducible exact ih2 _ _ _ _)
   | (with_reducible exact ih3 _ _ _ _ _)
   | (with_reducible exact spec_l3Item.mono _ _ _ _ _ _)
   | (with_reducible exact LeO.refl _)
   | (with_reducible exact LeO.none _)
   | (with_reducible refine LeO.ite ?_ ?_)
   | (with_reducible refine LeO.bind ?_ (fun _ => ?_))
   | exact ih0 _ _ _
   | exact ih1 _ _ _ _
   | exact ih2 _ _ _ _
   | exact ih3 _ _ _ _ _
   | exact spec_l3Item.mono _ _ _ _ _ _
   | exact LeO.none _
   | refine LeO.ite ?_ ?_
   | refine LeO.bind ?_ (fun _ => ?_)
  ·
   intro y0 y1 y2 y3
   unfold spec_RowOk.j1
   repeat' first
   | (with_reducible exact ih0 _ _ _)
   | (with_reducible exact ih1 _ _ _ _)
   | (with_reducible exact ih2 _ _ _ _)
   | (with_reducible exact ih3 _ _ _ _ _)
   | (with_reducible exact spec_l3Item.mono _ _ _ _ _ _)
   | (with_reducible exact LeO.refl _)
   | (with_reducible exact LeO.none _)
   | (with_reducible refine LeO.ite ?_ ?_)
   | (with_reducible refine LeO.bind ?_ (fun _ => ?_))
   | exact ih0 _ _ _
   | exact ih1 _ _ _ _
   | exact ih2 _ _ _ _
   | exact ih3 _ _ _ _ _
   | exact spec_l3Item.mono _ _ _ _ _ _
   | exact LeO.none _
   | refine LeO.ite ?_ ?_
   | refine LeO.bind ?_ (fun _ => ?_)
  ·
   intro y0 y1 y2 y3 y4
   unfold spec_RowOk.j2
   repeat' first
   | (with_reducible exact ih0 _ _ _)
   | (with_reducible exact ih1 _ _ _ _)
   | (with_reducible exact ih2 _ _ _ _)
   | (with_reducible exact ih3 _ _ _ _ _)
   | (with_reducible exact spec_l3Item.mono _ _ _ _ _ _)
   | (with_reducible exact LeO.refl _)
   | (with_reducible exact LeO.none _)
   | (with_reducible refine LeO.ite ?_ ?_)
   | (with_reducible refine LeO.bind ?_ (fun _ => ?_))
   | exact ih0 _ _ _
   | exact ih1 _ _ _ _
   | exact ih2 _ _ _ _
   | exact ih3 _ _ _ _ _
   | exact spec_l3Item.mono _ _ _ _ _ _
   | exact LeO.none _
   | refine LeO.ite ?_ ?_
   | refine LeO.bind ?_ (fun _ => ?_)
theorem spec_RowOk.mono : ∀ a0 a1 a2 k, LeO (spec_RowOk.f k a0 a1 a2) (spec_RowOk.f (k + 1) a0 a1 a2) := by
 intro a0 a1 a2 k
 obtain ⟨ih0, ih1, ih2, ih3⟩ := spec_RowOk.mono_l k
 unfold spec_RowOk.f
 repeat' first
  | (with_reducible exact ih0 _ _ _)
  | (with_reducible exact ih1 _ _ _ _)
  | (with_reducible exact ih2 _ _ _ _)
  | (with_reducible exact ih3 _ _ _ _ _)
  | (with_reducible exact spec_l3Item.mono _ _ _ _ _ _)
  | (with_reducible exact LeO.refl _)
  | (with_reducible exact LeO.none _)
  | (with_reducible refine LeO.ite ?_ ?_)
  | (with_reducible refine LeO.bind ?_ (fun _ => ?_))
  | exact ih0 _ _ _
  | exact ih1 _ _ _ _
  | exact ih2 _ _ _ _
  | exact ih3 _ _ _ _ _
  | exact spec_l3Item.mono _ _ _ _ _ _
  | exact LeO.none _
  | refine LeO.ite ?_ ?_
  | refine LeO.bind ?_ (fun _ => ?_)
def spec_RowOk.T4 : Bool × List (List Nat × List Nat) := (true, [([], []), ([0], [0]), ([], []), ([1, 2], [1, 2]), ([3], [3]), ([4], [4]), ([5], [5]), ([6, 5], [6]), ([7], [7]), ([8, 7], [7, 8]), ([7], [7]), ([9, 10, 7], [7, 9, 10]), ([11, 7], [7, 11]), ([12, 7], [7, 12]), ([7], [7]), ([14, 7], [7, 14]), ([7], [7]), ([16, 7], [7, 16]), ([17, 7], [7, 17]), ([13, 15, 18, 7, 7], [7, 13, 15, 18]), ([19, 7], [7, 19]), ([7, 20], [7, 20]), ([21, 19], [21]), ([22], [22]), ([23, 22], [22, 23]), ([24, 22, 22], [22, 24]), ([25], [25]), ([26, 25], [25, 26]), ([25], [25]), ([28, 25], [25, 28]), ([27, 29, 25], [25, 27, 29]), ([30, 25], [25, 30]), ([31, 25], [25, 31]), ([25], [25]), ([33, 25], [25, 33]), ([25], [25]), ([34, 35, 25], [25, 34, 35]), ([36, 25], [25, 36]), ([37, 25], [25, 37]), ([32, 38, 25], [25, 32, 38]), ([25, 39, 22], [22, 25, 39]), ([22, 40], [22, 40])])
def spec_RowOk.B4 : List Nat := [0, 1, 0, 7, 15, 31, 63, 127, 255, 511, 255, 2047, 4095, 8191, 255, 16639, 255, 65791, 196863, 524287, 1048575, 2097151, 4194303, 8388607, 16777215, 33554431, 67108863, 134217727, 67108863, 335544319, 1073741823, 2147483647, 4294967295, 67108863, 8657043455, 67108863, 60196651007, 128916127743, 266355081215, 549755813887, 1099511627775, 2199023255551]
theorem spec_RowOk.tab4 : rtab .any (opsOf Try.f46 4) = spec_RowOk.T4 := by kernel_rfl
theorem spec_RowOk.bits4 : waitsOk spec_RowOk.T4.2 spec_RowOk.B4 = true := by kernel_rfl
set_option maxHeartbeats 8000000 in
set_option maxRecDepth 100000 in
theorem spec_RowOk.calls (k : Nat) (a0_0 : Int) (a0_1 : Int) (A0_2 : Option Addr) (c0_2 : Nat) (l0_2 : List (S_Item)) (r : Bool) (w : World) (hr0_2 : Kd.C k_Item w A0_2 l0_2.length l0_2) (hc0_2 : l0_2.length ≤ c0_2) (h : spec_RowOk.f k a0_0 a0_1 l0_2 = some r) :
 Calls Try.prog 46 #[.agg #[.int .i64 a0_0, .int .i64 a0_1, .slice A0_2 l0_2.length c0_2]] w fun e w' => e = .returned (.bool r) ∧ Below w.heap.size w w' := by
 have hu41 := Try.underlying41
 have hu36 := Try.underlying36
 have HR0_2 := Aside0.mk hr0_2
 have HC0_2 := Aside0.mk hc0_2
 clear hr0_2 hc0_2
 have HB := Aside0.mk (Below.refl w.heap.size w)
 have H : (spec_RowOk.l0 k 0 a0_0 a0_1 l0_2) = some r := h
 clear h
 have HC2 := Aside0.mk H
 clear H
 go_enter Try.func46, Try.ntmps46
 go_upto_block 0 with (first | ((with_reducible refine gate_dst (N := 1) rfl ?_); (try (refine gate_guard (by rfl) ?_; dsimp only)); refine box_event ?hg (N := 1) ?hd (cs := #[.int .i64 a0_0, .int .i64 a0_1, .slice A0_2 l0_2.length c0_2]) (t := 41) ?hr ?_; (case hd => rfl); (case hg => rfl); (case hr => first | (go_simp; done) | (go_simp; rfl)); intro gb957 hg w3 hbox hb; have n0_ := Aside0.mk (below_step (hb_ HB.out) hb); have n1_ := Aside0.mk (hbox); have n2_ := Aside0.mk ((by rw [hg]; exact (below_size (hb_ HB.out)) : w.heap.size ≤ gb957)); have n3_ := Aside0.mk ((by rw [hg]; exact (below_size (hb_ HB.out)) : w.heap.size ≤ gb957)); clear HB; have HB := n0_; have BK957 := n1_; have GW957 := n2_; have GE957 := n3_; clear n0_ n1_ n2_ n3_; clear hb hbox hg))
 (try simp only [Act.put, List.setIfInBounds_toArray, List.set_cons_zero, List.set_cons_succ])
 go_cut [] (fun wc => ∃ (kq : Nat), Aside0 (spec_RowOk.j3 kq a0_0 a0_1 l0_2 = some r) ∧ Aside0 (kq ≤ k) ∧ Aside0 (wc.heap[gb957]? = some (.cells #[.int .i64 a0_0, .int .i64 a0_1, (.slice A0_2 l0_2.length c0_2)] 41 (0, 0))) ∧ Aside0 (Below w.heap.size w wc))
 case first =>
  have H := HC2.out
  clear HC2
  have H' := Aside0.mk H
  clear H
  go_wp2
  go_loopg [3] k (fun kq v3 w' => ∃ (x3_1 : Int), v3 = .int .i64 x3_1 ∧ Aside0 (spec_RowOk.l0 kq x3_1 a0_0 a0_1 l0_2 = some r) ∧ Aside0 (kq ≤ k) ∧ Aside0 (w'.heap[gb957]? = some (.cells #[.int .i64 a0_0, .int .i64 a0_1, (.slice A0_2 l0_2.length c0_2)] 41 (0, 0))) ∧ Aside0 (Below w.heap.size w w'))
  case atStart => exact ⟨(0), (by first | rfl | (simp; done) | (simp [*]; done)), H', ⟨Nat.le_refl _⟩, ⟨bq_ BK957.out⟩, ⟨hb_ HB.out⟩⟩
  case round =>
   clear H'
   try clear p2
   obtain ⟨x3_1, rfl, HA, HK1, BK957, HB⟩ := hrel
   cases gk with
   | zero => exact absurd HA.out (by simp [spec_RowOk.l0])
   | succ k1 =>
    have H := HA.out
    clear HA
    simp only [spec_RowOk.l0] at H
    have HC4 := Aside0.mk H
    clear H
    have hcz5_0 : wr.cell? ⟨gb957, 0, none⟩ = some (.int .i64 a0_0) := (blk_cell BK957.out 0).trans rfl
    have hcz5_1 : wr.cell? ⟨gb957, 1, none⟩ = some (.int .i64 a0_1) := (blk_cell BK957.out 1).trans rfl
    have hcz5_2 : wr.cell? ⟨gb957, 2, none⟩ = some (.slice A0_2 l0_2.length c0_2) := (blk_cell BK957.out 2).trans rfl
    have hfz5_0 := blk_frozen BK957.out 0
    have hfz5_1 := blk_frozen BK957.out 1
    have hfz5_2 := blk_frozen BK957.out 2
    go_upto_if 8 with (fail)
    go_cut [] (fun wc => ∃ (kq : Nat), Aside0 (spec_RowOk.j1 kq x3_1 a0_0 a0_1 l0_2 = some r) ∧ Aside0 (kq ≤ k1) ∧ Aside0 (wc.heap[gb957]? = some (.cells #[.int .i64 a0_0, .int .i64 a0_1, (.slice A0_2 l0_2.length c0_2)] 41 (0, 0))) ∧ Aside0 (Below w.heap.size w wc))
    case first =>
     have H := HC4.out
     clear HC4
     by_cases c6 : x3_1 < (l0_2.length : Int)
     ·
      rw [if_pos c6] at H
      have c6b0 : decide (x3_1 < (l0_2.length : Int)) = true := decide_eq_true c6
      clear c6
      (first | rw [c6b0] | (simp only [i64_w, i32_w]; rw [c6b0]) | rw [c6b4] | rw [c6b3] | skip)
      have H' := Aside0.mk H
      clear H
      go_wp2
      go_meet
      case rel => exact ⟨_, H', ⟨by have := HK1.out; first | omega | exact Nat.le_refl _⟩, ⟨bq_ BK957.out⟩, ⟨hb_ HB.out⟩⟩
     ·
      rw [if_neg c6] at H
      have c6b0 : decide (x3_1 < (l0_2.length : Int)) = false := decide_eq_false c6
      clear c6
      (first | rw [c6b0] | (simp only [i64_w, i32_w]; rw [c6b0]) | rw [c6b4] | rw [c6b3] | skip)
      have H' := Aside0.mk H
      clear H
      go_wp2
      go_meet
      case rel => exact ⟨_, H', ⟨by have := HK1.out; first | omega | exact Nat.le_refl _⟩, ⟨bq_ BK957.out⟩, ⟨hb_ HB.out⟩⟩
    case rest =>
     clear HC4
     (try clear p2); (try clear c4); (try clear c6); (try clear c6b0); (try clear hcz5_0); (try clear hcz5_1); (try clear hcz5_2); (try clear hfz5_0); (try clear hfz5_1); (try clear hfz5_2); (try clear p2)
     obtain ⟨kq, HA, HJ3, BK957, HB⟩ := hcut
     cases kq with
     | zero => exact absurd HA.out (by simp [spec_RowOk.j1])
     | succ kj3 =>
      have H := HA.out
      clear HA
      simp only [spec_RowOk.j1] at H
      have HC7 := Aside0.mk H
      clear H
      go_upto_region 4 with (fail)
      go_cut [52] (fun v52 wc => ∃ (kq : Nat) (x52_6 : Bool), v52 = .bool x52_6 ∧ Aside0 (spec_RowOk.j2 kq x3_1 x52_6 a0_0 a0_1 l0_2 = some r) ∧ Aside0 (kq ≤ kj3) ∧ Aside0 (wc.heap[gb957]? = some (.cells #[.int .i64 a0_0, .int .i64 a0_1, (.slice A0_2 l0_2.length c0_2)] 41 (0, 0))) ∧ Aside0 (Below w.heap.size w wc))
      case first =>
       have H := HC7.out
       clear HC7
       by_cases c8 : 0 ≤ x3_1
       ·
        rw [if_pos c8] at H
        have c8b0 : decide (0 ≤ x3_1) = true := decide_eq_true c8
        clear c8
        (first | rw [c8b0] | (simp only [i64_w, i32_w]; rw [c8b0]) | rw [c8b4] | rw [c8b3] | skip)
        by_cases c9 : x3_1 < (l0_2.length : Int)
        ·
         rw [if_pos c9] at H
         have c9b0 : decide (x3_1 < (l0_2.length : Int)) = true := decide_eq_true c9
         clear c9
         replace H := Option.bind_eq_some_iff.mp H
         obtain ⟨t959, A100, H⟩ := H
         replace H : (if t959 = true then ((spec_l1In.f ((rd_Item l0_2 x3_1).f0) a0_0 (wrap64 (a0_1 - 1))).bind fun t961 => (if t961 = true then (if x3_1 > 0 then (if 0 ≤ (wrap64 (x3_1 - 1)) then (if (wrap64 (x3_1 - 1)) < (l0_2.length : Int) then (spec_RowOk.j2 kj3 x3_1 (decide (((rd_Item l0_2 (wrap64 (x3_1 - 1))).f0) ≥ ((rd_Item l0_2 x3_1).f0))) a0_0 a0_1 l0_2) else (none)) else (none)) else (spec_RowOk.j2 kj3 x3_1 false a0_0 a0_1 l0_2)) else (spec_RowOk.j2 kj3 x3_1 true a0_0 a0_1 l0_2))) else (spec_RowOk.j2 kj3 x3_1 true a0_0 a0_1 l0_2)) = some r := H
         have A10 := Aside0.mk A100
         clear A100
         by_cases c11 : t959 = true
         ·
          subst c11
          have H1 : ((spec_l1In.f ((rd_Item l0_2 x3_1).f0) a0_0 (wrap64 (a0_1 - 1))).bind fun t961 => (if t961 = true then (if x3_1 > 0 then (if 0 ≤ (wrap64 (x3_1 - 1)) then (if (wrap64 (x3_1 - 1)) < (l0_2.length : Int) then (spec_RowOk.j2 kj3 x3_1 (decide (((rd_Item l0_2 (wrap64 (x3_1 - 1))).f0) ≥ ((rd_Item l0_2 x3_1).f0))) a0_0 a0_1 l0_2) else (none)) else (none)) else (spec_RowOk.j2 kj3 x3_1 false a0_0 a0_1 l0_2)) else (spec_RowOk.j2 kj3 x3_1 true a0_0 a0_1 l0_2))) = some r := by rw [if_pos rfl] at H; exact H
          clear H
          have H := H1
          clear H1
          replace H := Option.bind_eq_some_iff.mp H
          obtain ⟨t961, A120, H⟩ := H
          replace H : (if t961 = true then (if x3_1 > 0 then (if 0 ≤ (wrap64 (x3_1 - 1)) then (if (wrap64 (x3_1 - 1)) < (l0_2.length : Int) then (spec_RowOk.j2 kj3 x3_1 (decide (((rd_Item l0_2 (wrap64 (x3_1 - 1))).f0) ≥ ((rd_Item l0_2 x3_1).f0))) a0_0 a0_1 l0_2) else (none)) else (none)) else (spec_RowOk.j2 kj3 x3_1 false a0_0 a0_1 l0_2)) else (spec_RowOk.j2 kj3 x3_1 true a0_0 a0_1 l0_2)) = some r := H
          have A12 := Aside0.mk A120
          clear A120
          by_cases c13 : t961 = true
          ·
           subst c13
           have H1 : (if x3_1 > 0 then (if 0 ≤ (wrap64 (x3_1 - 1)) then (if (wrap64 (x3_1 - 1)) < (l0_2.length : Int) then (spec_RowOk.j2 kj3 x3_1 (decide (((rd_Item l0_2 (wrap64 (x3_1 - 1))).f0) ≥ ((rd_Item l0_2 x3_1).f0))) a0_0 a0_1 l0_2) else (none)) else (none)) else (spec_RowOk.j2 kj3 x3_1 false a0_0 a0_1 l0_2)) = some r := by rw [if_pos rfl] at H; exact H
           clear H
           have H := H1
           clear H1
           by_cases c14 : x3_1 > 0
           ·
            rw [if_pos c14] at H
            have c14b0 : decide (0 < x3_1) = true := decide_eq_true c14
            clear c14
            obtain ⟨ji15, hji15⟩ : ∃ j_ : Int, (wrap64 (x3_1 - 1)) = j_ := ⟨_, rfl⟩
            replace H : (if 0 ≤ (ji15) then (if (ji15) < (l0_2.length : Int) then (spec_RowOk.j2 kj3 x3_1 (decide (((rd_Item l0_2 (ji15)).f0) ≥ ((rd_Item l0_2 x3_1).f0))) a0_0 a0_1 l0_2) else (none)) else (none)) = some r := by first | (rw [hji15] at H; exact H) | (simp only [hji15] at H ⊢; exact H)
            (try rw [hji15] at A10)
            (try rw [hji15] at A12)
            have hji15w : (IntKind.i64.wrap (x3_1 - 1)) = ji15 := (i64_w _).trans hji15
            by_cases c16 : 0 ≤ (ji15)
            ·
             rw [if_pos c16] at H
             have c16b0 : decide (0 ≤ (ji15)) = true := decide_eq_true c16
             clear c16
             by_cases c17 : (ji15) < (l0_2.length : Int)
             ·
              rw [if_pos c17] at H
              have c17b0 : decide ((ji15) < (l0_2.length : Int)) = true := decide_eq_true c17
              clear c17
              have H' := Aside0.mk H
              clear H
              try go_wp2
              have n0_ := Aside0.mk (blk_drew BK957.out)
              have n1_ := Aside0.mk (below_drew1 HB.out)
              clear BK957; clear HB
              have BK957 := n0_
              have HB := n1_
              clear n0_ n1_
              have p958 : 0 ≤ (x3_1 : Int) := of_decide_eq_true (by first | (with_reducible assumption) | assumption)
              have q958 : x3_1 < (l0_2.length : Int) := of_decide_eq_true (by first | (with_reducible assumption) | assumption)
              obtain ⟨ad958, e958, hx958_0, hx958_1, hx958_2, hx958_3, hx958_4⟩ := at_Item HR0_2.out x3_1 p958 q958
              have hw958_4 := hx958_4
              have hw958_3 := hx958_3
              have hw958_2 := hx958_2
              have hw958_1 := hx958_1
              have hw958_0 := hx958_0
              cases e958
              replace hx958_0 := (HB.out.cell (World.block_lt_of_cell? w _ hx958_0)).trans hx958_0
              replace hx958_1 := (HB.out.cell (World.block_lt_of_cell? w _ hx958_1)).trans hx958_1
              replace hx958_2 := (HB.out.cell (World.block_lt_of_cell? w _ hx958_2)).trans hx958_2
              replace hx958_3 := (HB.out.cell (World.block_lt_of_cell? w _ hx958_3)).trans hx958_3
              replace hx958_4 := (HB.out.cell (World.block_lt_of_cell? w _ hx958_4)).trans hx958_4
              replace p958 := eq_true p958
              replace q958 := eq_true q958
              have p960 : 0 ≤ (x3_1 : Int) := of_decide_eq_true (by first | (with_reducible assumption) | assumption)
              have q960 : x3_1 < (l0_2.length : Int) := of_decide_eq_true (by first | (with_reducible assumption) | assumption)
              obtain ⟨ad960, e960, hx960_0, hx960_1, hx960_2, hx960_3, hx960_4⟩ := at_Item HR0_2.out x3_1 p960 q960
              have hw960_4 := hx960_4
              have hw960_3 := hx960_3
              have hw960_2 := hx960_2
              have hw960_1 := hx960_1
              have hw960_0 := hx960_0
              obtain rfl : ad958 = ad960 := (by injection e960)
              replace hx960_0 := (HB.out.cell (World.block_lt_of_cell? w _ hx960_0)).trans hx960_0
              replace hx960_1 := (HB.out.cell (World.block_lt_of_cell? w _ hx960_1)).trans hx960_1
              replace hx960_2 := (HB.out.cell (World.block_lt_of_cell? w _ hx960_2)).trans hx960_2
              replace hx960_3 := (HB.out.cell (World.block_lt_of_cell? w _ hx960_3)).trans hx960_3
              replace hx960_4 := (HB.out.cell (World.block_lt_of_cell? w _ hx960_4)).trans hx960_4
              replace p960 := eq_true p960
              replace q960 := eq_true q960
              have p962 : 0 ≤ ((ji15) : Int) := of_decide_eq_true (by first | (with_reducible assumption) | assumption)
              have q962 : (ji15) < (l0_2.length : Int) := of_decide_eq_true (by first | (with_reducible assumption) | assumption)
              obtain ⟨ad962, e962, hx962_0, hx962_1, hx962_2, hx962_3, hx962_4⟩ := at_Item HR0_2.out (ji15) p962 q962
              have hw962_4 := hx962_4
              have hw962_3 := hx962_3
              have hw962_2 := hx962_2
              have hw962_1 := hx962_1
              have hw962_0 := hx962_0
              obtain rfl : ad958 = ad962 := (by injection e962)
              replace hx962_0 := (HB.out.cell (World.block_lt_of_cell? w _ hx962_0)).trans hx962_0
              replace hx962_1 := (HB.out.cell (World.block_lt_of_cell? w _ hx962_1)).trans hx962_1
              replace hx962_2 := (HB.out.cell (World.block_lt_of_cell? w _ hx962_2)).trans hx962_2
              replace hx962_3 := (HB.out.cell (World.block_lt_of_cell? w _ hx962_3)).trans hx962_3
              replace hx962_4 := (HB.out.cell (World.block_lt_of_cell? w _ hx962_4)).trans hx962_4
              replace p962 := eq_true p962
              replace q962 := eq_true q962
              have p963 : 0 ≤ (x3_1 : Int) := of_decide_eq_true (by first | (with_reducible assumption) | assumption)
              have q963 : x3_1 < (l0_2.length : Int) := of_decide_eq_true (by first | (with_reducible assumption) | assumption)
              obtain ⟨ad963, e963, hx963_0, hx963_1, hx963_2, hx963_3, hx963_4⟩ := at_Item HR0_2.out x3_1 p963 q963
              have hw963_4 := hx963_4
              have hw963_3 := hx963_3
              have hw963_2 := hx963_2
              have hw963_1 := hx963_1
              have hw963_0 := hx963_0
              obtain rfl : ad958 = ad963 := (by injection e963)
              replace hx963_0 := (HB.out.cell (World.block_lt_of_cell? w _ hx963_0)).trans hx963_0
              replace hx963_1 := (HB.out.cell (World.block_lt_of_cell? w _ hx963_1)).trans hx963_1
              replace hx963_2 := (HB.out.cell (World.block_lt_of_cell? w _ hx963_2)).trans hx963_2
              replace hx963_3 := (HB.out.cell (World.block_lt_of_cell? w _ hx963_3)).trans hx963_3
              replace hx963_4 := (HB.out.cell (World.block_lt_of_cell? w _ hx963_4)).trans hx963_4
              replace p963 := eq_true p963
              replace q963 := eq_true q963
              refine start_ (n := 42) (S := fun w' => w'.cell? ⟨gb957, 0, none⟩ = some (.int .i64 a0_0) ∧ w'.cell? ⟨gb957, 1, none⟩ = some (.int .i64 a0_1) ∧ w'.cell? ⟨gb957, 2, none⟩ = some (.slice (some ad958) l0_2.length c0_2) ∧ w'.cell? (ad958.add ((x3_1).toNat * 5)) = some (.int .i64 ((rd_Item l0_2 x3_1).f0)) ∧ w'.cell? ⟨(ad958.add ((x3_1).toNat * 5)).block, (ad958.add ((x3_1).toNat * 5)).off + 1, none⟩ = some (.string ((rd_Item l0_2 x3_1).f1)) ∧ w'.cell? ⟨(ad958.add ((x3_1).toNat * 5)).block, (ad958.add ((x3_1).toNat * 5)).off + 2, none⟩ = some (.string ((rd_Item l0_2 x3_1).f2)) ∧ w'.cell? ⟨(ad958.add ((x3_1).toNat * 5)).block, (ad958.add ((x3_1).toNat * 5)).off + 3, none⟩ = some (.int .i64 ((rd_Item l0_2 x3_1).f3)) ∧ w'.cell? ⟨(ad958.add ((x3_1).toNat * 5)).block, (ad958.add ((x3_1).toNat * 5)).off + 4, none⟩ = some (.int .i64 ((rd_Item l0_2 x3_1).f4)) ∧ w'.cell? (ad958.add ((x3_1).toNat * 5)) = some (.int .i64 ((rd_Item l0_2 x3_1).f0)) ∧ w'.cell? ⟨(ad958.add ((x3_1).toNat * 5)).block, (ad958.add ((x3_1).toNat * 5)).off + 1, none⟩ = some (.string ((rd_Item l0_2 x3_1).f1)) ∧ w'.cell? ⟨(ad958.add ((x3_1).toNat * 5)).block, (ad958.add ((x3_1).toNat * 5)).off + 2, none⟩ = some (.string ((rd_Item l0_2 x3_1).f2)) ∧ w'.cell? ⟨(ad958.add ((x3_1).toNat * 5)).block, (ad958.add ((x3_1).toNat * 5)).off + 3, none⟩ = some (.int .i64 ((rd_Item l0_2 x3_1).f3)) ∧ w'.cell? ⟨(ad958.add ((x3_1).toNat * 5)).block, (ad958.add ((x3_1).toNat * 5)).off + 4, none⟩ = some (.int .i64 ((rd_Item l0_2 x3_1).f4)) ∧ w'.cell? (ad958.add (((ji15)).toNat * 5)) = some (.int .i64 ((rd_Item l0_2 (ji15)).f0)) ∧ w'.cell? ⟨(ad958.add (((ji15)).toNat * 5)).block, (ad958.add (((ji15)).toNat * 5)).off + 1, none⟩ = some (.string ((rd_Item l0_2 (ji15)).f1)) ∧ w'.cell? ⟨(ad958.add (((ji15)).toNat * 5)).block, (ad958.add (((ji15)).toNat * 5)).off + 2, none⟩ = some (.string ((rd_Item l0_2 (ji15)).f2)) ∧ w'.cell? ⟨(ad958.add (((ji15)).toNat * 5)).block, (ad958.add (((ji15)).toNat * 5)).off + 3, none⟩ = some (.int .i64 ((rd_Item l0_2 (ji15)).f3)) ∧ w'.cell? ⟨(ad958.add (((ji15)).toNat * 5)).block, (ad958.add (((ji15)).toNat * 5)).off + 4, none⟩ = some (.int .i64 ((rd_Item l0_2 (ji15)).f4)) ∧ w'.cell? (ad958.add ((x3_1).toNat * 5)) = some (.int .i64 ((rd_Item l0_2 x3_1).f0)) ∧ w'.cell? ⟨(ad958.add ((x3_1).toNat * 5)).block, (ad958.add ((x3_1).toNat * 5)).off + 1, none⟩ = some (.string ((rd_Item l0_2 x3_1).f1)) ∧ w'.cell? ⟨(ad958.add ((x3_1).toNat * 5)).block, (ad958.add ((x3_1).toNat * 5)).off + 2, none⟩ = some (.string ((rd_Item l0_2 x3_1).f2)) ∧ w'.cell? ⟨(ad958.add ((x3_1).toNat * 5)).block, (ad958.add ((x3_1).toNat * 5)).off + 3, none⟩ = some (.int .i64 ((rd_Item l0_2 x3_1).f3)) ∧ w'.cell? ⟨(ad958.add ((x3_1).toNat * 5)).block, (ad958.add ((x3_1).toNat * 5)).off + 4, none⟩ = some (.int .i64 ((rd_Item l0_2 x3_1).f4))) (ds := []) spec_RowOk.m0 (by kernel_rfl) rfl rfl ⟨(blk_cell BK957.out 0).trans rfl, (blk_cell BK957.out 1).trans rfl, (blk_cell BK957.out 2).trans rfl, ((HB.out.cell (World.block_lt_of_cell? w _ hw958_0)).trans hw958_0), ((HB.out.cell (World.block_lt_of_cell? w _ hw958_1)).trans hw958_1), ((HB.out.cell (World.block_lt_of_cell? w _ hw958_2)).trans hw958_2), ((HB.out.cell (World.block_lt_of_cell? w _ hw958_3)).trans hw958_3), ((HB.out.cell (World.block_lt_of_cell? w _ hw958_4)).trans hw958_4), ((HB.out.cell (World.block_lt_of_cell? w _ hw960_0)).trans hw960_0), ((HB.out.cell (World.block_lt_of_cell? w _ hw960_1)).trans hw960_1), ((HB.out.cell (World.block_lt_of_cell? w _ hw960_2)).trans hw960_2), ((HB.out.cell (World.block_lt_of_cell? w _ hw960_3)).trans hw960_3), ((HB.out.cell (World.block_lt_of_cell? w _ hw960_4)).trans hw960_4), ((HB.out.cell (World.block_lt_of_cell? w _ hw962_0)).trans hw962_0), ((HB.out.cell (World.block_lt_of_cell? w _ hw962_1)).trans hw962_1), ((HB.out.cell (World.block_lt_of_cell? w _ hw962_2)).trans hw962_2), ((HB.out.cell (World.block_lt_of_cell? w _ hw962_3)).trans hw962_3), ((HB.out.cell (World.block_lt_of_cell? w _ hw962_4)).trans hw962_4), ((HB.out.cell (World.block_lt_of_cell? w _ hw963_0)).trans hw963_0), ((HB.out.cell (World.block_lt_of_cell? w _ hw963_1)).trans hw963_1), ((HB.out.cell (World.block_lt_of_cell? w _ hw963_2)).trans hw963_2), ((HB.out.cell (World.block_lt_of_cell? w _ hw963_3)).trans hw963_3), ((HB.out.cell (World.block_lt_of_cell? w _ hw963_4)).trans hw963_4)⟩ (fun hHeld => ?_); refine with_tabW spec_RowOk.tab4 spec_RowOk.bits4 (fun HT_ HW_ => ?_)
              generalize wc.drew = w18 at BK957 HB hx958_0 hx958_1 hx958_2 hx958_3 hx958_4 hx960_0 hx960_1 hx960_2 hx960_3 hx960_4 hx962_0 hx962_1 hx962_2 hx962_3 hx962_4 hx963_0 hx963_1 hx963_2 hx963_3 hx963_4 hHeld ⊢
              refine pI_ 0 11 HT_ spec_RowOk.m1 rfl rfl ?_
              refine pI_ 2 13 HT_ spec_RowOk.m2 rfl rfl ?_
              refine take_ (i := 1) (N := some 12) (v := ?_) (a' := ?_) spec_RowOk.m3 rfl rfl (take_ofW HT_.out HW_.out (by kernel_rfl)) (fun _ _ _ h => h) (Or.inl ⟨by rfl, ?_⟩) hHeld ?_ ?_
              rotate_left
              ·
               rintro w' ⟨s0, s1, s2, s3, s4, s5, s6, s7, s8, s9, s10, s11, s12, s13, s14, s15, s16, s17, s18, s19, s20, s21, s22⟩
               go_simp
               with_reducible rfl
              rotate_left; (focus simp only [Act.put, List.setIfInBounds_toArray, List.set_cons_zero, List.set_cons_succ, i64_w, i32_w]; rfl)
              refine pI_ 3 14 HT_ spec_RowOk.m4 rfl rfl ?_
              refine take_ (i := 4) (N := some 15) (v := ?_) (a' := ?_) spec_RowOk.m5 rfl rfl (take_ofW HT_.out HW_.out (by kernel_rfl)) (fun _ _ _ h => h) (Or.inl ⟨by rfl, ?_⟩) hHeld ?_ ?_
              rotate_left
              ·
               rintro w' ⟨s0, s1, s2, s3, s4, s5, s6, s7, s8, s9, s10, s11, s12, s13, s14, s15, s16, s17, s18, s19, s20, s21, s22⟩
               go_simp
               with_reducible rfl
              rotate_left; (focus simp only [Act.put, List.setIfInBounds_toArray, List.set_cons_zero, List.set_cons_succ, i64_w, i32_w]; rfl)
              refine one_ (i := 5) (N := some 16) spec_RowOk.m6 rfl rfl (one_of HT_.out (by kernel_rfl)) (by decide) (fun K hK => ?_)
              refine goes_ Try.func95 (by kernel_rfl) rfl #[.agg #[.int .i64 ((rd_Item l0_2 x3_1).f0), .string ((rd_Item l0_2 x3_1).f1), .string ((rd_Item l0_2 x3_1).f2), .int .i64 ((rd_Item l0_2 x3_1).f3), .int .i64 ((rd_Item l0_2 x3_1).f4)]] (by rfl) rfl rfl sm_ ?_
              with_reducible refine (spec_l3Item.calls kj3 ((rd_Item l0_2 x3_1).f0) ((rd_Item l0_2 x3_1).f1) ((rd_Item l0_2 x3_1).f2) ((rd_Item l0_2 x3_1).f3) ((rd_Item l0_2 x3_1).f4) true _ A10.out).mono ?_
              rintro e w19 ⟨rfl, hb⟩
              refine ⟨_, rfl, ?_⟩
              have n0_ := Aside0.mk (bb_ BK957.out hb)
              have n1_ := Aside0.mk (below_step (hb_ HB.out) hb)
              clear BK957; clear HB
              have BK957 := n0_
              have HB := n1_
              clear n0_ n1_
              (try clear hb)
              (try clear hb2)
              (try clear hk)
              (try clear hi)
              refine hK.out _ _ ⟨(blk_cell BK957.out 0).trans rfl, (blk_cell BK957.out 1).trans rfl, (blk_cell BK957.out 2).trans rfl, ((HB.out.cell (World.block_lt_of_cell? w _ hw958_0)).trans hw958_0), ((HB.out.cell (World.block_lt_of_cell? w _ hw958_1)).trans hw958_1), ((HB.out.cell (World.block_lt_of_cell? w _ hw958_2)).trans hw958_2), ((HB.out.cell (World.block_lt_of_cell? w _ hw958_3)).trans hw958_3), ((HB.out.cell (World.block_lt_of_cell? w _ hw958_4)).trans hw958_4), ((HB.out.cell (World.block_lt_of_cell? w _ hw960_0)).trans hw960_0), ((HB.out.cell (World.block_lt_of_cell? w _ hw960_1)).trans hw960_1), ((HB.out.cell (World.block_lt_of_cell? w _ hw960_2)).trans hw960_2), ((HB.out.cell (World.block_lt_of_cell? w _ hw960_3)).trans hw960_3), ((HB.out.cell (World.block_lt_of_cell? w _ hw960_4)).trans hw960_4), ((HB.out.cell (World.block_lt_of_cell? w _ hw962_0)).trans hw962_0), ((HB.out.cell (World.block_lt_of_cell? w _ hw962_1)).trans hw962_1), ((HB.out.cell (World.block_lt_of_cell? w _ hw962_2)).trans hw962_2), ((HB.out.cell (World.block_lt_of_cell? w _ hw962_3)).trans hw962_3), ((HB.out.cell (World.block_lt_of_cell? w _ hw962_4)).trans hw962_4), ((HB.out.cell (World.block_lt_of_cell? w _ hw963_0)).trans hw963_0), ((HB.out.cell (World.block_lt_of_cell? w _ hw963_1)).trans hw963_1), ((HB.out.cell (World.block_lt_of_cell? w _ hw963_2)).trans hw963_2), ((HB.out.cell (World.block_lt_of_cell? w _ hw963_3)).trans hw963_3), ((HB.out.cell (World.block_lt_of_cell? w _ hw963_4)).trans hw963_4)⟩ (fun hHeld => ?_)
              clear hK K
              refine norm_ (a' := ?_) ?_ ?_
              rotate_left
              ·
               show Act.put _ (some 16) _ = _
               simp only [Act.put, List.setIfInBounds_toArray, List.set_cons_zero, List.set_cons_succ, i64_w, i32_w]
               rfl
              refine pI_ 6 17 HT_ spec_RowOk.m7 rfl rfl ?_
              refine pI_ 7 18 HT_ spec_RowOk.m8 rfl rfl ?_
              refine pI_ 8 19 HT_ spec_RowOk.m9 rfl rfl ?_
              refine pI_ 10 21 HT_ spec_RowOk.m10 rfl rfl ?_
              refine pI_ 14 25 HT_ spec_RowOk.m11 rfl rfl ?_
              refine pI_ 16 27 HT_ spec_RowOk.m12 rfl rfl ?_
              refine take_ (i := 9) (N := some 20) (v := ?_) (a' := ?_) spec_RowOk.m13 rfl rfl (take_ofW HT_.out HW_.out (by kernel_rfl)) (fun _ _ _ h => h) (Or.inl ⟨by rfl, ?_⟩) hHeld ?_ ?_
              rotate_left
              ·
               rintro w' ⟨s0, s1, s2, s3, s4, s5, s6, s7, s8, s9, s10, s11, s12, s13, s14, s15, s16, s17, s18, s19, s20, s21, s22⟩
               go_simp
               with_reducible rfl
              rotate_left; (focus simp only [Act.put, List.setIfInBounds_toArray, List.set_cons_zero, List.set_cons_succ, i64_w, i32_w]; rfl)
              refine pI_ 11 22 HT_ spec_RowOk.m14 rfl rfl ?_
              refine pI_ 12 23 HT_ spec_RowOk.m15 rfl rfl ?_
              refine take_ (i := 13) (N := some 24) (v := ?_) (a' := ?_) spec_RowOk.m16 rfl rfl (take_ofW HT_.out HW_.out (by kernel_rfl)) (fun _ _ _ h => h) (Or.inl ⟨by rfl, ?_⟩) hHeld ?_ ?_
              rotate_left
              ·
               rintro w' ⟨s0, s1, s2, s3, s4, s5, s6, s7, s8, s9, s10, s11, s12, s13, s14, s15, s16, s17, s18, s19, s20, s21, s22⟩
               go_simp
               with_reducible rfl
              rotate_left; (focus simp only [Act.put, List.setIfInBounds_toArray, List.set_cons_zero, List.set_cons_succ, i64_w, i32_w]; rfl)
              refine take_ (i := 15) (N := some 26) (v := ?_) (a' := ?_) spec_RowOk.m17 rfl rfl (take_ofW HT_.out HW_.out (by kernel_rfl)) (fun _ _ _ h => h) (Or.inl ⟨by rfl, ?_⟩) hHeld ?_ ?_
              rotate_left
              ·
               rintro w' ⟨s0, s1, s2, s3, s4, s5, s6, s7, s8, s9, s10, s11, s12, s13, s14, s15, s16, s17, s18, s19, s20, s21, s22⟩
               go_simp
               with_reducible rfl
              rotate_left; (focus simp only [Act.put, List.setIfInBounds_toArray, List.set_cons_zero, List.set_cons_succ, i64_w, i32_w]; rfl)
              refine take_ (i := 17) (N := some 28) (v := ?_) (a' := ?_) spec_RowOk.m18 rfl rfl (take_ofW HT_.out HW_.out (by kernel_rfl)) (fun _ _ _ h => h) (Or.inl ⟨by rfl, ?_⟩) hHeld ?_ ?_
              rotate_left
              ·
               rintro w' ⟨s0, s1, s2, s3, s4, s5, s6, s7, s8, s9, s10, s11, s12, s13, s14, s15, s16, s17, s18, s19, s20, s21, s22⟩
               go_simp
               with_reducible rfl
              rotate_left; (focus simp only [Act.put, List.setIfInBounds_toArray, List.set_cons_zero, List.set_cons_succ, i64_w, i32_w]; rfl)
              refine pI_ 18 29 HT_ spec_RowOk.m19 rfl rfl ?_
              refine one_ (i := 19) (N := some 30) spec_RowOk.m20 rfl rfl (one_of HT_.out (by kernel_rfl)) (by decide) (fun K hK => ?_)
              refine goes_ Try.func77 (by kernel_rfl) rfl #[.int .i64 ((rd_Item l0_2 x3_1).f0), .int .i64 a0_0, .int .i64 (wrap64 (a0_1 - 1))] (by rfl) rfl rfl sm_ ?_
              with_reducible refine (spec_l1In.calls ((rd_Item l0_2 x3_1).f0) a0_0 (wrap64 (a0_1 - 1)) true _ A12.out).mono ?_
              rintro e w' ⟨rfl, ⟨nd, rfl⟩⟩
              refine ⟨_, rfl, ?_⟩
              refine hK.out _ _ ⟨(blk_cell BK957.out 0).trans rfl, (blk_cell BK957.out 1).trans rfl, (blk_cell BK957.out 2).trans rfl, ((HB.out.cell (World.block_lt_of_cell? w _ hw958_0)).trans hw958_0), ((HB.out.cell (World.block_lt_of_cell? w _ hw958_1)).trans hw958_1), ((HB.out.cell (World.block_lt_of_cell? w _ hw958_2)).trans hw958_2), ((HB.out.cell (World.block_lt_of_cell? w _ hw958_3)).trans hw958_3), ((HB.out.cell (World.block_lt_of_cell? w _ hw958_4)).trans hw958_4), ((HB.out.cell (World.block_lt_of_cell? w _ hw960_0)).trans hw960_0), ((HB.out.cell (World.block_lt_of_cell? w _ hw960_1)).trans hw960_1), ((HB.out.cell (World.block_lt_of_cell? w _ hw960_2)).trans hw960_2), ((HB.out.cell (World.block_lt_of_cell? w _ hw960_3)).trans hw960_3), ((HB.out.cell (World.block_lt_of_cell? w _ hw960_4)).trans hw960_4), ((HB.out.cell (World.block_lt_of_cell? w _ hw962_0)).trans hw962_0), ((HB.out.cell (World.block_lt_of_cell? w _ hw962_1)).trans hw962_1), ((HB.out.cell (World.block_lt_of_cell? w _ hw962_2)).trans hw962_2), ((HB.out.cell (World.block_lt_of_cell? w _ hw962_3)).trans hw962_3), ((HB.out.cell (World.block_lt_of_cell? w _ hw962_4)).trans hw962_4), ((HB.out.cell (World.block_lt_of_cell? w _ hw963_0)).trans hw963_0), ((HB.out.cell (World.block_lt_of_cell? w _ hw963_1)).trans hw963_1), ((HB.out.cell (World.block_lt_of_cell? w _ hw963_2)).trans hw963_2), ((HB.out.cell (World.block_lt_of_cell? w _ hw963_3)).trans hw963_3), ((HB.out.cell (World.block_lt_of_cell? w _ hw963_4)).trans hw963_4)⟩ (fun hHeld => ?_)
              clear hK K
              refine norm_ (a' := ?_) ?_ ?_
              rotate_left
              ·
               show Act.put _ (some 30) _ = _
               simp only [Act.put, List.setIfInBounds_toArray, List.set_cons_zero, List.set_cons_succ, i64_w, i32_w]
               rfl
              refine pI_ 20 31 HT_ spec_RowOk.m21 rfl rfl ?_
              refine pI_ 21 32 HT_ spec_RowOk.m22 rfl rfl ?_
              refine pI_ 22 33 HT_ spec_RowOk.m23 rfl rfl ?_
              refine pI_ 23 34 HT_ spec_RowOk.m24 rfl rfl ?_
              refine pI_ 24 35 HT_ spec_RowOk.m25 rfl rfl ?_
              refine pI_ 25 36 HT_ spec_RowOk.m26 rfl rfl ?_
              refine pI_ 26 37 HT_ spec_RowOk.m27 rfl rfl ?_
              refine pI_ 28 39 HT_ #[true, true, true, true, true, true, true, true, true, true, true, true, true, true, true, true, true, true, true, true, true, true, true, true, true, true, true, false, true, false, false, false, false, false, false, false, false, false, false, false, false, false] rfl rfl ?_
              refine pI_ 29 40 HT_ #[true, true, true, true, true, true, true, true, true, true, true, true, true, true, true, true, true, true, true, true, true, true, true, true, true, true, true, false, true, true, false, false, false, false, false, false, false, false, false, false, false, false] rfl rfl ?_
              refine pI_ 33 44 HT_ #[true, true, true, true, true, true, true, true, true, true, true, true, true, true, true, true, true, true, true, true, true, true, true, true, true, true, true, false, true, true, false, false, false, true, false, false, false, false, false, false, false, false] rfl rfl ?_
              refine pI_ 35 46 HT_ #[true, true, true, true, true, true, true, true, true, true, true, true, true, true, true, true, true, true, true, true, true, true, true, true, true, true, true, false, true, true, false, false, false, true, false, true, false, false, false, false, false, false] rfl rfl ?_
              refine take_ (i := 27) (N := some 38) (v := ?_) (a' := ?_) #[true, true, true, true, true, true, true, true, true, true, true, true, true, true, true, true, true, true, true, true, true, true, true, true, true, true, true, true, true, true, false, false, false, true, false, true, false, false, false, false, false, false] rfl rfl (take_ofW HT_.out HW_.out (by kernel_rfl)) (fun _ _ _ h => h) (Or.inl ⟨by rfl, ?_⟩) hHeld ?_ ?_
              rotate_left
              ·
               rintro w' ⟨s0, s1, s2, s3, s4, s5, s6, s7, s8, s9, s10, s11, s12, s13, s14, s15, s16, s17, s18, s19, s20, s21, s22⟩
               go_simp
               with_reducible rfl
              rotate_left; (focus simp only [Act.put, List.setIfInBounds_toArray, List.set_cons_zero, List.set_cons_succ, i64_w, i32_w]; rfl)
              refine pI_ 30 41 HT_ #[true, true, true, true, true, true, true, true, true, true, true, true, true, true, true, true, true, true, true, true, true, true, true, true, true, true, true, true, true, true, true, false, false, true, false, true, false, false, false, false, false, false] rfl rfl ?_
              refine pI_ 31 42 HT_ #[true, true, true, true, true, true, true, true, true, true, true, true, true, true, true, true, true, true, true, true, true, true, true, true, true, true, true, true, true, true, true, true, false, true, false, true, false, false, false, false, false, false] rfl rfl ?_
              refine take_ (i := 32) (N := some 43) (v := ?_) (a' := ?_) #[true, true, true, true, true, true, true, true, true, true, true, true, true, true, true, true, true, true, true, true, true, true, true, true, true, true, true, true, true, true, true, true, true, true, false, true, false, false, false, false, false, false] rfl rfl (take_ofW HT_.out HW_.out (by kernel_rfl)) (fun _ _ _ h => h) (Or.inl ⟨by rfl, ?_⟩) hHeld ?_ ?_
              rotate_left
              ·
               rintro w' ⟨s0, s1, s2, s3, s4, s5, s6, s7, s8, s9, s10, s11, s12, s13, s14, s15, s16, s17, s18, s19, s20, s21, s22⟩
               go_simp
               with_reducible rfl
              rotate_left; (focus simp only [Act.put, List.setIfInBounds_toArray, List.set_cons_zero, List.set_cons_succ, i64_w, i32_w]; rfl)
              refine take_ (i := 34) (N := some 45) (v := ?_) (a' := ?_) spec_RowOk.m28 rfl rfl (take_ofW HT_.out HW_.out (by kernel_rfl)) (fun _ _ _ h => h) (Or.inl ⟨by rfl, ?_⟩) hHeld ?_ ?_
              rotate_left
              ·
               rintro w' ⟨s0, s1, s2, s3, s4, s5, s6, s7, s8, s9, s10, s11, s12, s13, s14, s15, s16, s17, s18, s19, s20, s21, s22⟩
               go_simp
               with_reducible rfl
              rotate_left; (focus simp only [Act.put, List.setIfInBounds_toArray, List.set_cons_zero, List.set_cons_succ, i64_w, i32_w]; rfl)
              refine pI_ 36 47 HT_ spec_RowOk.m29 rfl rfl ?_
              refine pI_ 37 48 HT_ spec_RowOk.m30 rfl rfl ?_
              refine take_ (i := 38) (N := some 49) (v := ?_) (a' := ?_) spec_RowOk.m31 rfl rfl (take_ofW HT_.out HW_.out (by kernel_rfl)) (fun _ _ _ h => h) (Or.inl ⟨by rfl, ?_⟩) hHeld ?_ ?_
              rotate_left
              ·
               rintro w' ⟨s0, s1, s2, s3, s4, s5, s6, s7, s8, s9, s10, s11, s12, s13, s14, s15, s16, s17, s18, s19, s20, s21, s22⟩
               go_simp
               with_reducible rfl
              rotate_left; (focus simp only [Act.put, List.setIfInBounds_toArray, List.set_cons_zero, List.set_cons_succ, i64_w, i32_w]; rfl)
              refine pI_ 39 50 HT_ spec_RowOk.m32 rfl rfl ?_
              refine pI_ 40 51 HT_ spec_RowOk.m33 rfl rfl ?_
              refine pI_ 41 52 HT_ spec_RowOk.m34 rfl rfl ?_
              refine done_ (done_of HT_.out (by kernel_rfl)) ?_
              try go_wp2
              go_meet
              case rel => exact ⟨_, (decide (((rd_Item l0_2 (ji15)).f0) ≥ ((rd_Item l0_2 x3_1).f0))), (by first | rfl | (simp; done) | (simp only [← hji15] <;> (first | rfl | simp)) | (simp [*]; done)), H', ⟨by have := HK1.out; have := HJ3.out; first | omega | exact Nat.le_refl _⟩, ⟨bq_ BK957.out⟩, ⟨hb_ HB.out⟩⟩
             ·
              rw [if_neg c17] at H
              exact absurd H (by simp)
            ·
             rw [if_neg c16] at H
             exact absurd H (by simp)
           ·
            rw [if_neg c14] at H
            have c14b0 : decide (0 < x3_1) = false := decide_eq_false c14
            clear c14
            have H' := Aside0.mk H
            clear H
            try go_wp2
            have n0_ := Aside0.mk (blk_drew BK957.out)
            have n1_ := Aside0.mk (below_drew1 HB.out)
            clear BK957; clear HB
            have BK957 := n0_
            have HB := n1_
            clear n0_ n1_
            have p958 : 0 ≤ (x3_1 : Int) := of_decide_eq_true (by first | (with_reducible assumption) | assumption)
            have q958 : x3_1 < (l0_2.length : Int) := of_decide_eq_true (by first | (with_reducible assumption) | assumption)
            obtain ⟨ad958, e958, hx958_0, hx958_1, hx958_2, hx958_3, hx958_4⟩ := at_Item HR0_2.out x3_1 p958 q958
            have hw958_4 := hx958_4
            have hw958_3 := hx958_3
            have hw958_2 := hx958_2
            have hw958_1 := hx958_1
            have hw958_0 := hx958_0
            cases e958
            replace hx958_0 := (HB.out.cell (World.block_lt_of_cell? w _ hx958_0)).trans hx958_0
            replace hx958_1 := (HB.out.cell (World.block_lt_of_cell? w _ hx958_1)).trans hx958_1
            replace hx958_2 := (HB.out.cell (World.block_lt_of_cell? w _ hx958_2)).trans hx958_2
            replace hx958_3 := (HB.out.cell (World.block_lt_of_cell? w _ hx958_3)).trans hx958_3
            replace hx958_4 := (HB.out.cell (World.block_lt_of_cell? w _ hx958_4)).trans hx958_4
            replace p958 := eq_true p958
            replace q958 := eq_true q958
            have p960 : 0 ≤ (x3_1 : Int) := of_decide_eq_true (by first | (with_reducible assumption) | assumption)
            have q960 : x3_1 < (l0_2.length : Int) := of_decide_eq_true (by first | (with_reducible assumption) | assumption)
            obtain ⟨ad960, e960, hx960_0, hx960_1, hx960_2, hx960_3, hx960_4⟩ := at_Item HR0_2.out x3_1 p960 q960
            have hw960_4 := hx960_4
            have hw960_3 := hx960_3
            have hw960_2 := hx960_2
            have hw960_1 := hx960_1
            have hw960_0 := hx960_0
            obtain rfl : ad958 = ad960 := (by injection e960)
            replace hx960_0 := (HB.out.cell (World.block_lt_of_cell? w _ hx960_0)).trans hx960_0
            replace hx960_1 := (HB.out.cell (World.block_lt_of_cell? w _ hx960_1)).trans hx960_1
            replace hx960_2 := (HB.out.cell (World.block_lt_of_cell? w _ hx960_2)).trans hx960_2
            replace hx960_3 := (HB.out.cell (World.block_lt_of_cell? w _ hx960_3)).trans hx960_3
            replace hx960_4 := (HB.out.cell (World.block_lt_of_cell? w _ hx960_4)).trans hx960_4
            replace p960 := eq_true p960
            replace q960 := eq_true q960
            refine start_ (n := 42) (S := fun w' => w'.cell? ⟨gb957, 0, none⟩ = some (.int .i64 a0_0) ∧ w'.cell? ⟨gb957, 1, none⟩ = some (.int .i64 a0_1) ∧ w'.cell? ⟨gb957, 2, none⟩ = some (.slice (some ad958) l0_2.length c0_2) ∧ w'.cell? (ad958.add ((x3_1).toNat * 5)) = some (.int .i64 ((rd_Item l0_2 x3_1).f0)) ∧ w'.cell? ⟨(ad958.add ((x3_1).toNat * 5)).block, (ad958.add ((x3_1).toNat * 5)).off + 1, none⟩ = some (.string ((rd_Item l0_2 x3_1).f1)) ∧ w'.cell? ⟨(ad958.add ((x3_1).toNat * 5)).block, (ad958.add ((x3_1).toNat * 5)).off + 2, none⟩ = some (.string ((rd_Item l0_2 x3_1).f2)) ∧ w'.cell? ⟨(ad958.add ((x3_1).toNat * 5)).block, (ad958.add ((x3_1).toNat * 5)).off + 3, none⟩ = some (.int .i64 ((rd_Item l0_2 x3_1).f3)) ∧ w'.cell? ⟨(ad958.add ((x3_1).toNat * 5)).block, (ad958.add ((x3_1).toNat * 5)).off + 4, none⟩ = some (.int .i64 ((rd_Item l0_2 x3_1).f4)) ∧ w'.cell? (ad958.add ((x3_1).toNat * 5)) = some (.int .i64 ((rd_Item l0_2 x3_1).f0)) ∧ w'.cell? ⟨(ad958.add ((x3_1).toNat * 5)).block, (ad958.add ((x3_1).toNat * 5)).off + 1, none⟩ = some (.string ((rd_Item l0_2 x3_1).f1)) ∧ w'.cell? ⟨(ad958.add ((x3_1).toNat * 5)).block, (ad958.add ((x3_1).toNat * 5)).off + 2, none⟩ = some (.string ((rd_Item l0_2 x3_1).f2)) ∧ w'.cell? ⟨(ad958.add ((x3_1).toNat * 5)).block, (ad958.add ((x3_1).toNat * 5)).off + 3, none⟩ = some (.int .i64 ((rd_Item l0_2 x3_1).f3)) ∧ w'.cell? ⟨(ad958.add ((x3_1).toNat * 5)).block, (ad958.add ((x3_1).toNat * 5)).off + 4, none⟩ = some (.int .i64 ((rd_Item l0_2 x3_1).f4))) (ds := []) spec_RowOk.m0 (by kernel_rfl) rfl rfl ⟨(blk_cell BK957.out 0).trans rfl, (blk_cell BK957.out 1).trans rfl, (blk_cell BK957.out 2).trans rfl, ((HB.out.cell (World.block_lt_of_cell? w _ hw958_0)).trans hw958_0), ((HB.out.cell (World.block_lt_of_cell? w _ hw958_1)).trans hw958_1), ((HB.out.cell (World.block_lt_of_cell? w _ hw958_2)).trans hw958_2), ((HB.out.cell (World.block_lt_of_cell? w _ hw958_3)).trans hw958_3), ((HB.out.cell (World.block_lt_of_cell? w _ hw958_4)).trans hw958_4), ((HB.out.cell (World.block_lt_of_cell? w _ hw960_0)).trans hw960_0), ((HB.out.cell (World.block_lt_of_cell? w _ hw960_1)).trans hw960_1), ((HB.out.cell (World.block_lt_of_cell? w _ hw960_2)).trans hw960_2), ((HB.out.cell (World.block_lt_of_cell? w _ hw960_3)).trans hw960_3), ((HB.out.cell (World.block_lt_of_cell? w _ hw960_4)).trans hw960_4)⟩ (fun hHeld => ?_); refine with_tabW spec_RowOk.tab4 spec_RowOk.bits4 (fun HT_ HW_ => ?_)
            generalize wc.drew = w20 at BK957 HB hx958_0 hx958_1 hx958_2 hx958_3 hx958_4 hx960_0 hx960_1 hx960_2 hx960_3 hx960_4 hHeld ⊢
            refine pI_ 0 11 HT_ spec_RowOk.m1 rfl rfl ?_
            refine pI_ 2 13 HT_ spec_RowOk.m2 rfl rfl ?_
            refine take_ (i := 1) (N := some 12) (v := ?_) (a' := ?_) spec_RowOk.m3 rfl rfl (take_ofW HT_.out HW_.out (by kernel_rfl)) (fun _ _ _ h => h) (Or.inl ⟨by rfl, ?_⟩) hHeld ?_ ?_
            rotate_left
            ·
             rintro w' ⟨s0, s1, s2, s3, s4, s5, s6, s7, s8, s9, s10, s11, s12⟩
             go_simp
             with_reducible rfl
            rotate_left; (focus simp only [Act.put, List.setIfInBounds_toArray, List.set_cons_zero, List.set_cons_succ, i64_w, i32_w]; rfl)
            refine pI_ 3 14 HT_ spec_RowOk.m4 rfl rfl ?_
            refine take_ (i := 4) (N := some 15) (v := ?_) (a' := ?_) spec_RowOk.m5 rfl rfl (take_ofW HT_.out HW_.out (by kernel_rfl)) (fun _ _ _ h => h) (Or.inl ⟨by rfl, ?_⟩) hHeld ?_ ?_
            rotate_left
            ·
             rintro w' ⟨s0, s1, s2, s3, s4, s5, s6, s7, s8, s9, s10, s11, s12⟩
             go_simp
             with_reducible rfl
            rotate_left; (focus simp only [Act.put, List.setIfInBounds_toArray, List.set_cons_zero, List.set_cons_succ, i64_w, i32_w]; rfl)
            refine one_ (i := 5) (N := some 16) spec_RowOk.m6 rfl rfl (one_of HT_.out (by kernel_rfl)) (by decide) (fun K hK => ?_)
            refine goes_ Try.func95 (by kernel_rfl) rfl #[.agg #[.int .i64 ((rd_Item l0_2 x3_1).f0), .string ((rd_Item l0_2 x3_1).f1), .string ((rd_Item l0_2 x3_1).f2), .int .i64 ((rd_Item l0_2 x3_1).f3), .int .i64 ((rd_Item l0_2 x3_1).f4)]] (by rfl) rfl rfl sm_ ?_
            with_reducible refine (spec_l3Item.calls kj3 ((rd_Item l0_2 x3_1).f0) ((rd_Item l0_2 x3_1).f1) ((rd_Item l0_2 x3_1).f2) ((rd_Item l0_2 x3_1).f3) ((rd_Item l0_2 x3_1).f4) true _ A10.out).mono ?_
            rintro e w21 ⟨rfl, hb⟩
            refine ⟨_, rfl, ?_⟩
            have n0_ := Aside0.mk (bb_ BK957.out hb)
            have n1_ := Aside0.mk (below_step (hb_ HB.out) hb)
            clear BK957; clear HB
            have BK957 := n0_
            have HB := n1_
            clear n0_ n1_
            (try clear hb)
            (try clear hb2)
            (try clear hk)
            (try clear hi)
            refine hK.out _ _ ⟨(blk_cell BK957.out 0).trans rfl, (blk_cell BK957.out 1).trans rfl, (blk_cell BK957.out 2).trans rfl, ((HB.out.cell (World.block_lt_of_cell? w _ hw958_0)).trans hw958_0), ((HB.out.cell (World.block_lt_of_cell? w _ hw958_1)).trans hw958_1), ((HB.out.cell (World.block_lt_of_cell? w _ hw958_2)).trans hw958_2), ((HB.out.cell (World.block_lt_of_cell? w _ hw958_3)).trans hw958_3), ((HB.out.cell (World.block_lt_of_cell? w _ hw958_4)).trans hw958_4), ((HB.out.cell (World.block_lt_of_cell? w _ hw960_0)).trans hw960_0), ((HB.out.cell (World.block_lt_of_cell? w _ hw960_1)).trans hw960_1), ((HB.out.cell (World.block_lt_of_cell? w _ hw960_2)).trans hw960_2), ((HB.out.cell (World.block_lt_of_cell? w _ hw960_3)).trans hw960_3), ((HB.out.cell (World.block_lt_of_cell? w _ hw960_4)).trans hw960_4)⟩ (fun hHeld => ?_)
            clear hK K
            refine norm_ (a' := ?_) ?_ ?_
            rotate_left
            ·
             show Act.put _ (some 16) _ = _
             simp only [Act.put, List.setIfInBounds_toArray, List.set_cons_zero, List.set_cons_succ, i64_w, i32_w]
             rfl
            refine pI_ 6 17 HT_ spec_RowOk.m7 rfl rfl ?_
            refine pI_ 7 18 HT_ spec_RowOk.m8 rfl rfl ?_
            refine pI_ 8 19 HT_ spec_RowOk.m9 rfl rfl ?_
            refine pI_ 10 21 HT_ spec_RowOk.m10 rfl rfl ?_
            refine pI_ 14 25 HT_ spec_RowOk.m11 rfl rfl ?_
            refine pI_ 16 27 HT_ spec_RowOk.m12 rfl rfl ?_
            refine take_ (i := 9) (N := some 20) (v := ?_) (a' := ?_) spec_RowOk.m13 rfl rfl (take_ofW HT_.out HW_.out (by kernel_rfl)) (fun _ _ _ h => h) (Or.inl ⟨by rfl, ?_⟩) hHeld ?_ ?_
            rotate_left
            ·
             rintro w' ⟨s0, s1, s2, s3, s4, s5, s6, s7, s8, s9, s10, s11, s12⟩
             go_simp
             with_reducible rfl
            rotate_left; (focus simp only [Act.put, List.setIfInBounds_toArray, List.set_cons_zero, List.set_cons_succ, i64_w, i32_w]; rfl)
            refine pI_ 11 22 HT_ spec_RowOk.m14 rfl rfl ?_
            refine pI_ 12 23 HT_ spec_RowOk.m15 rfl rfl ?_
            refine take_ (i := 13) (N := some 24) (v := ?_) (a' := ?_) spec_RowOk.m16 rfl rfl (take_ofW HT_.out HW_.out (by kernel_rfl)) (fun _ _ _ h => h) (Or.inl ⟨by rfl, ?_⟩) hHeld ?_ ?_
            rotate_left
            ·
             rintro w' ⟨s0, s1, s2, s3, s4, s5, s6, s7, s8, s9, s10, s11, s12⟩
             go_simp
             with_reducible rfl
            rotate_left; (focus simp only [Act.put, List.setIfInBounds_toArray, List.set_cons_zero, List.set_cons_succ, i64_w, i32_w]; rfl)
            refine take_ (i := 15) (N := some 26) (v := ?_) (a' := ?_) spec_RowOk.m17 rfl rfl (take_ofW HT_.out HW_.out (by kernel_rfl)) (fun _ _ _ h => h) (Or.inl ⟨by rfl, ?_⟩) hHeld ?_ ?_
            rotate_left
            ·
             rintro w' ⟨s0, s1, s2, s3, s4, s5, s6, s7, s8, s9, s10, s11, s12⟩
             go_simp
             with_reducible rfl
            rotate_left; (focus simp only [Act.put, List.setIfInBounds_toArray, List.set_cons_zero, List.set_cons_succ, i64_w, i32_w]; rfl)
            refine take_ (i := 17) (N := some 28) (v := ?_) (a' := ?_) spec_RowOk.m18 rfl rfl (take_ofW HT_.out HW_.out (by kernel_rfl)) (fun _ _ _ h => h) (Or.inl ⟨by rfl, ?_⟩) hHeld ?_ ?_
            rotate_left
            ·
             rintro w' ⟨s0, s1, s2, s3, s4, s5, s6, s7, s8, s9, s10, s11, s12⟩
             go_simp
             with_reducible rfl
            rotate_left; (focus simp only [Act.put, List.setIfInBounds_toArray, List.set_cons_zero, List.set_cons_succ, i64_w, i32_w]; rfl)
            refine pI_ 18 29 HT_ spec_RowOk.m19 rfl rfl ?_
            refine one_ (i := 19) (N := some 30) spec_RowOk.m20 rfl rfl (one_of HT_.out (by kernel_rfl)) (by decide) (fun K hK => ?_)
            refine goes_ Try.func77 (by kernel_rfl) rfl #[.int .i64 ((rd_Item l0_2 x3_1).f0), .int .i64 a0_0, .int .i64 (wrap64 (a0_1 - 1))] (by rfl) rfl rfl sm_ ?_
            with_reducible refine (spec_l1In.calls ((rd_Item l0_2 x3_1).f0) a0_0 (wrap64 (a0_1 - 1)) true _ A12.out).mono ?_
            rintro e w' ⟨rfl, ⟨nd, rfl⟩⟩
            refine ⟨_, rfl, ?_⟩
            refine hK.out _ _ ⟨(blk_cell BK957.out 0).trans rfl, (blk_cell BK957.out 1).trans rfl, (blk_cell BK957.out 2).trans rfl, ((HB.out.cell (World.block_lt_of_cell? w _ hw958_0)).trans hw958_0), ((HB.out.cell (World.block_lt_of_cell? w _ hw958_1)).trans hw958_1), ((HB.out.cell (World.block_lt_of_cell? w _ hw958_2)).trans hw958_2), ((HB.out.cell (World.block_lt_of_cell? w _ hw958_3)).trans hw958_3), ((HB.out.cell (World.block_lt_of_cell? w _ hw958_4)).trans hw958_4), ((HB.out.cell (World.block_lt_of_cell? w _ hw960_0)).trans hw960_0), ((HB.out.cell (World.block_lt_of_cell? w _ hw960_1)).trans hw960_1), ((HB.out.cell (World.block_lt_of_cell? w _ hw960_2)).trans hw960_2), ((HB.out.cell (World.block_lt_of_cell? w _ hw960_3)).trans hw960_3), ((HB.out.cell (World.block_lt_of_cell? w _ hw960_4)).trans hw960_4)⟩ (fun hHeld => ?_)
            clear hK K
            refine norm_ (a' := ?_) ?_ ?_
            rotate_left
            ·
             show Act.put _ (some 30) _ = _
             simp only [Act.put, List.setIfInBounds_toArray, List.set_cons_zero, List.set_cons_succ, i64_w, i32_w]
             rfl
            refine pI_ 20 31 HT_ spec_RowOk.m21 rfl rfl ?_
            refine pI_ 21 32 HT_ spec_RowOk.m22 rfl rfl ?_
            refine pI_ 22 33 HT_ spec_RowOk.m23 rfl rfl ?_
            refine pI_ 23 34 HT_ spec_RowOk.m24 rfl rfl ?_
            refine pI_ 24 35 HT_ spec_RowOk.m25 rfl rfl ?_
            refine pI_ 25 36 HT_ spec_RowOk.m26 rfl rfl ?_
            refine pU_ 26 37 HT_ spec_RowOk.m27 rfl rfl ?_
            refine pU_ 27 38 HT_ spec_RowOk.m35 rfl rfl ?_
            refine pU_ 28 39 HT_ spec_RowOk.m36 rfl rfl ?_
            refine pU_ 29 40 HT_ spec_RowOk.m37 rfl rfl ?_
            refine pU_ 30 41 HT_ spec_RowOk.m38 rfl rfl ?_
            refine pU_ 31 42 HT_ spec_RowOk.m39 rfl rfl ?_
            refine pU_ 32 43 HT_ spec_RowOk.m40 rfl rfl ?_
            refine pU_ 33 44 HT_ spec_RowOk.m41 rfl rfl ?_
            refine pU_ 34 45 HT_ spec_RowOk.m42 rfl rfl ?_
            refine pU_ 35 46 HT_ spec_RowOk.m28 rfl rfl ?_
            refine pU_ 36 47 HT_ spec_RowOk.m29 rfl rfl ?_
            refine pU_ 37 48 HT_ spec_RowOk.m30 rfl rfl ?_
            refine pU_ 38 49 HT_ spec_RowOk.m31 rfl rfl ?_
            refine pU_ 39 50 HT_ spec_RowOk.m32 rfl rfl ?_
            refine pI_ 40 51 HT_ spec_RowOk.m33 rfl rfl ?_
            refine pI_ 41 52 HT_ spec_RowOk.m34 rfl rfl ?_
            refine done_ (done_of HT_.out (by kernel_rfl)) ?_
            try go_wp2
            go_meet
            case rel => exact ⟨_, (false), (by first | rfl | (simp; done) | (simp [*]; done)), H', ⟨by have := HK1.out; have := HJ3.out; first | omega | exact Nat.le_refl _⟩, ⟨bq_ BK957.out⟩, ⟨hb_ HB.out⟩⟩
          ·
           replace c13 := Bool.eq_false_iff.mpr c13
           subst c13
           have H1 : (spec_RowOk.j2 kj3 x3_1 true a0_0 a0_1 l0_2) = some r := by rw [if_neg (show ¬ (false = true) by decide)] at H; exact H
           clear H
           have H := H1
           clear H1
           have H' := Aside0.mk H
           clear H
           try go_wp2
           have n0_ := Aside0.mk (blk_drew BK957.out)
           have n1_ := Aside0.mk (below_drew1 HB.out)
           clear BK957; clear HB
           have BK957 := n0_
           have HB := n1_
           clear n0_ n1_
           have p958 : 0 ≤ (x3_1 : Int) := of_decide_eq_true (by first | (with_reducible assumption) | assumption)
           have q958 : x3_1 < (l0_2.length : Int) := of_decide_eq_true (by first | (with_reducible assumption) | assumption)
           obtain ⟨ad958, e958, hx958_0, hx958_1, hx958_2, hx958_3, hx958_4⟩ := at_Item HR0_2.out x3_1 p958 q958
           have hw958_4 := hx958_4
           have hw958_3 := hx958_3
           have hw958_2 := hx958_2
           have hw958_1 := hx958_1
           have hw958_0 := hx958_0
           cases e958
           replace hx958_0 := (HB.out.cell (World.block_lt_of_cell? w _ hx958_0)).trans hx958_0
           replace hx958_1 := (HB.out.cell (World.block_lt_of_cell? w _ hx958_1)).trans hx958_1
           replace hx958_2 := (HB.out.cell (World.block_lt_of_cell? w _ hx958_2)).trans hx958_2
           replace hx958_3 := (HB.out.cell (World.block_lt_of_cell? w _ hx958_3)).trans hx958_3
           replace hx958_4 := (HB.out.cell (World.block_lt_of_cell? w _ hx958_4)).trans hx958_4
           replace p958 := eq_true p958
           replace q958 := eq_true q958
           have p960 : 0 ≤ (x3_1 : Int) := of_decide_eq_true (by first | (with_reducible assumption) | assumption)
           have q960 : x3_1 < (l0_2.length : Int) := of_decide_eq_true (by first | (with_reducible assumption) | assumption)
           obtain ⟨ad960, e960, hx960_0, hx960_1, hx960_2, hx960_3, hx960_4⟩ := at_Item HR0_2.out x3_1 p960 q960
           have hw960_4 := hx960_4
           have hw960_3 := hx960_3
           have hw960_2 := hx960_2
           have hw960_1 := hx960_1
           have hw960_0 := hx960_0
           obtain rfl : ad958 = ad960 := (by injection e960)
           replace hx960_0 := (HB.out.cell (World.block_lt_of_cell? w _ hx960_0)).trans hx960_0
           replace hx960_1 := (HB.out.cell (World.block_lt_of_cell? w _ hx960_1)).trans hx960_1
           replace hx960_2 := (HB.out.cell (World.block_lt_of_cell? w _ hx960_2)).trans hx960_2
           replace hx960_3 := (HB.out.cell (World.block_lt_of_cell? w _ hx960_3)).trans hx960_3
           replace hx960_4 := (HB.out.cell (World.block_lt_of_cell? w _ hx960_4)).trans hx960_4
           replace p960 := eq_true p960
           replace q960 := eq_true q960
           refine start_ (n := 42) (S := fun w' => w'.cell? ⟨gb957, 0, none⟩ = some (.int .i64 a0_0) ∧ w'.cell? ⟨gb957, 1, none⟩ = some (.int .i64 a0_1) ∧ w'.cell? ⟨gb957, 2, none⟩ = some (.slice (some ad958) l0_2.length c0_2) ∧ w'.cell? (ad958.add ((x3_1).toNat * 5)) = some (.int .i64 ((rd_Item l0_2 x3_1).f0)) ∧ w'.cell? ⟨(ad958.add ((x3_1).toNat * 5)).block, (ad958.add ((x3_1).toNat * 5)).off + 1, none⟩ = some (.string ((rd_Item l0_2 x3_1).f1)) ∧ w'.cell? ⟨(ad958.add ((x3_1).toNat * 5)).block, (ad958.add ((x3_1).toNat * 5)).off + 2, none⟩ = some (.string ((rd_Item l0_2 x3_1).f2)) ∧ w'.cell? ⟨(ad958.add ((x3_1).toNat * 5)).block, (ad958.add ((x3_1).toNat * 5)).off + 3, none⟩ = some (.int .i64 ((rd_Item l0_2 x3_1).f3)) ∧ w'.cell? ⟨(ad958.add ((x3_1).toNat * 5)).block, (ad958.add ((x3_1).toNat * 5)).off + 4, none⟩ = some (.int .i64 ((rd_Item l0_2 x3_1).f4)) ∧ w'.cell? (ad958.add ((x3_1).toNat * 5)) = some (.int .i64 ((rd_Item l0_2 x3_1).f0)) ∧ w'.cell? ⟨(ad958.add ((x3_1).toNat * 5)).block, (ad958.add ((x3_1).toNat * 5)).off + 1, none⟩ = some (.string ((rd_Item l0_2 x3_1).f1)) ∧ w'.cell? ⟨(ad958.add ((x3_1).toNat * 5)).block, (ad958.add ((x3_1).toNat * 5)).off + 2, none⟩ = some (.string ((rd_Item l0_2 x3_1).f2)) ∧ w'.cell? ⟨(ad958.add ((x3_1).toNat * 5)).block, (ad958.add ((x3_1).toNat * 5)).off + 3, none⟩ = some (.int .i64 ((rd_Item l0_2 x3_1).f3)) ∧ w'.cell? ⟨(ad958.add ((x3_1).toNat * 5)).block, (ad958.add ((x3_1).toNat * 5)).off + 4, none⟩ = some (.int .i64 ((rd_Item l0_2 x3_1).f4))) (ds := []) spec_RowOk.m0 (by kernel_rfl) rfl rfl ⟨(blk_cell BK957.out 0).trans rfl, (blk_cell BK957.out 1).trans rfl, (blk_cell BK957.out 2).trans rfl, ((HB.out.cell (World.block_lt_of_cell? w _ hw958_0)).trans hw958_0), ((HB.out.cell (World.block_lt_of_cell? w _ hw958_1)).trans hw958_1), ((HB.out.cell (World.block_lt_of_cell? w _ hw958_2)).trans hw958_2), ((HB.out.cell (World.block_lt_of_cell? w _ hw958_3)).trans hw958_3), ((HB.out.cell (World.block_lt_of_cell? w _ hw958_4)).trans hw958_4), ((HB.out.cell (World.block_lt_of_cell? w _ hw960_0)).trans hw960_0), ((HB.out.cell (World.block_lt_of_cell? w _ hw960_1)).trans hw960_1), ((HB.out.cell (World.block_lt_of_cell? w _ hw960_2)).trans hw960_2), ((HB.out.cell (World.block_lt_of_cell? w _ hw960_3)).trans hw960_3), ((HB.out.cell (World.block_lt_of_cell? w _ hw960_4)).trans hw960_4)⟩ (fun hHeld => ?_); refine with_tabW spec_RowOk.tab4 spec_RowOk.bits4 (fun HT_ HW_ => ?_)
           generalize wc.drew = w22 at BK957 HB hx958_0 hx958_1 hx958_2 hx958_3 hx958_4 hx960_0 hx960_1 hx960_2 hx960_3 hx960_4 hHeld ⊢
           refine pI_ 0 11 HT_ spec_RowOk.m1 rfl rfl ?_
           refine pI_ 2 13 HT_ spec_RowOk.m2 rfl rfl ?_
           refine take_ (i := 1) (N := some 12) (v := ?_) (a' := ?_) spec_RowOk.m3 rfl rfl (take_ofW HT_.out HW_.out (by kernel_rfl)) (fun _ _ _ h => h) (Or.inl ⟨by rfl, ?_⟩) hHeld ?_ ?_
           rotate_left
           ·
            rintro w' ⟨s0, s1, s2, s3, s4, s5, s6, s7, s8, s9, s10, s11, s12⟩
            go_simp
            with_reducible rfl
           rotate_left; (focus simp only [Act.put, List.setIfInBounds_toArray, List.set_cons_zero, List.set_cons_succ, i64_w, i32_w]; rfl)
           refine pI_ 3 14 HT_ spec_RowOk.m4 rfl rfl ?_
           refine take_ (i := 4) (N := some 15) (v := ?_) (a' := ?_) spec_RowOk.m5 rfl rfl (take_ofW HT_.out HW_.out (by kernel_rfl)) (fun _ _ _ h => h) (Or.inl ⟨by rfl, ?_⟩) hHeld ?_ ?_
           rotate_left
           ·
            rintro w' ⟨s0, s1, s2, s3, s4, s5, s6, s7, s8, s9, s10, s11, s12⟩
            go_simp
            with_reducible rfl
           rotate_left; (focus simp only [Act.put, List.setIfInBounds_toArray, List.set_cons_zero, List.set_cons_succ, i64_w, i32_w]; rfl)
           refine one_ (i := 5) (N := some 16) spec_RowOk.m6 rfl rfl (one_of HT_.out (by kernel_rfl)) (by decide) (fun K hK => ?_)
           refine goes_ Try.func95 (by kernel_rfl) rfl #[.agg #[.int .i64 ((rd_Item l0_2 x3_1).f0), .string ((rd_Item l0_2 x3_1).f1), .string ((rd_Item l0_2 x3_1).f2), .int .i64 ((rd_Item l0_2 x3_1).f3), .int .i64 ((rd_Item l0_2 x3_1).f4)]] (by rfl) rfl rfl sm_ ?_
           with_reducible refine (spec_l3Item.calls kj3 ((rd_Item l0_2 x3_1).f0) ((rd_Item l0_2 x3_1).f1) ((rd_Item l0_2 x3_1).f2) ((rd_Item l0_2 x3_1).f3) ((rd_Item l0_2 x3_1).f4) true _ A10.out).mono ?_
           rintro e w23 ⟨rfl, hb⟩
           refine ⟨_, rfl, ?_⟩
           have n0_ := Aside0.mk (bb_ BK957.out hb)
           have n1_ := Aside0.mk (below_step (hb_ HB.out) hb)
           clear BK957; clear HB
           have BK957 := n0_
           have HB := n1_
           clear n0_ n1_
           (try clear hb)
           (try clear hb2)
           (try clear hk)
           (try clear hi)
           refine hK.out _ _ ⟨(blk_cell BK957.out 0).trans rfl, (blk_cell BK957.out 1).trans rfl, (blk_cell BK957.out 2).trans rfl, ((HB.out.cell (World.block_lt_of_cell? w _ hw958_0)).trans hw958_0), ((HB.out.cell (World.block_lt_of_cell? w _ hw958_1)).trans hw958_1), ((HB.out.cell (World.block_lt_of_cell? w _ hw958_2)).trans hw958_2), ((HB.out.cell (World.block_lt_of_cell? w _ hw958_3)).trans hw958_3), ((HB.out.cell (World.block_lt_of_cell? w _ hw958_4)).trans hw958_4), ((HB.out.cell (World.block_lt_of_cell? w _ hw960_0)).trans hw960_0), ((HB.out.cell (World.block_lt_of_cell? w _ hw960_1)).trans hw960_1), ((HB.out.cell (World.block_lt_of_cell? w _ hw960_2)).trans hw960_2), ((HB.out.cell (World.block_lt_of_cell? w _ hw960_3)).trans hw960_3), ((HB.out.cell (World.block_lt_of_cell? w _ hw960_4)).trans hw960_4)⟩ (fun hHeld => ?_)
           clear hK K
           refine norm_ (a' := ?_) ?_ ?_
           rotate_left
           ·
            show Act.put _ (some 16) _ = _
            simp only [Act.put, List.setIfInBounds_toArray, List.set_cons_zero, List.set_cons_succ, i64_w, i32_w]
            rfl
           refine pI_ 6 17 HT_ spec_RowOk.m7 rfl rfl ?_
           refine pI_ 7 18 HT_ spec_RowOk.m8 rfl rfl ?_
           refine pI_ 8 19 HT_ spec_RowOk.m9 rfl rfl ?_
           refine pI_ 10 21 HT_ spec_RowOk.m10 rfl rfl ?_
           refine pI_ 14 25 HT_ spec_RowOk.m11 rfl rfl ?_
           refine pI_ 16 27 HT_ spec_RowOk.m12 rfl rfl ?_
           refine take_ (i := 9) (N := some 20) (v := ?_) (a' := ?_) spec_RowOk.m13 rfl rfl (take_ofW HT_.out HW_.out (by kernel_rfl)) (fun _ _ _ h => h) (Or.inl ⟨by rfl, ?_⟩) hHeld ?_ ?_
           rotate_left
           ·
            rintro w' ⟨s0, s1, s2, s3, s4, s5, s6, s7, s8, s9, s10, s11, s12⟩
            go_simp
            with_reducible rfl
           rotate_left; (focus simp only [Act.put, List.setIfInBounds_toArray, List.set_cons_zero, List.set_cons_succ, i64_w, i32_w]; rfl)
           refine pI_ 11 22 HT_ spec_RowOk.m14 rfl rfl ?_
           refine pI_ 12 23 HT_ spec_RowOk.m15 rfl rfl ?_
           refine take_ (i := 13) (N := some 24) (v := ?_) (a' := ?_) spec_RowOk.m16 rfl rfl (take_ofW HT_.out HW_.out (by kernel_rfl)) (fun _ _ _ h => h) (Or.inl ⟨by rfl, ?_⟩) hHeld ?_ ?_
           rotate_left
           ·
            rintro w' ⟨s0, s1, s2, s3, s4, s5, s6, s7, s8, s9, s10, s11, s12⟩
            go_simp
            with_reducible rfl
           rotate_left; (focus simp only [Act.put, List.setIfInBounds_toArray, List.set_cons_zero, List.set_cons_succ, i64_w, i32_w]; rfl)
           refine take_ (i := 15) (N := some 26) (v := ?_) (a' := ?_) spec_RowOk.m17 rfl rfl (take_ofW HT_.out HW_.out (by kernel_rfl)) (fun _ _ _ h => h) (Or.inl ⟨by rfl, ?_⟩) hHeld ?_ ?_
           rotate_left
           ·
            rintro w' ⟨s0, s1, s2, s3, s4, s5, s6, s7, s8, s9, s10, s11, s12⟩
            go_simp
            with_reducible rfl
           rotate_left; (focus simp only [Act.put, List.setIfInBounds_toArray, List.set_cons_zero, List.set_cons_succ, i64_w, i32_w]; rfl)
           refine take_ (i := 17) (N := some 28) (v := ?_) (a' := ?_) spec_RowOk.m18 rfl rfl (take_ofW HT_.out HW_.out (by kernel_rfl)) (fun _ _ _ h => h) (Or.inl ⟨by rfl, ?_⟩) hHeld ?_ ?_
           rotate_left
           ·
            rintro w' ⟨s0, s1, s2, s3, s4, s5, s6, s7, s8, s9, s10, s11, s12⟩
            go_simp
            with_reducible rfl
           rotate_left; (focus simp only [Act.put, List.setIfInBounds_toArray, List.set_cons_zero, List.set_cons_succ, i64_w, i32_w]; rfl)
           refine pI_ 18 29 HT_ spec_RowOk.m19 rfl rfl ?_
           refine one_ (i := 19) (N := some 30) spec_RowOk.m20 rfl rfl (one_of HT_.out (by kernel_rfl)) (by decide) (fun K hK => ?_)
           refine goes_ Try.func77 (by kernel_rfl) rfl #[.int .i64 ((rd_Item l0_2 x3_1).f0), .int .i64 a0_0, .int .i64 (wrap64 (a0_1 - 1))] (by rfl) rfl rfl sm_ ?_
           with_reducible refine (spec_l1In.calls ((rd_Item l0_2 x3_1).f0) a0_0 (wrap64 (a0_1 - 1)) false _ A12.out).mono ?_
           rintro e w' ⟨rfl, ⟨nd, rfl⟩⟩
           refine ⟨_, rfl, ?_⟩
           refine hK.out _ _ ⟨(blk_cell BK957.out 0).trans rfl, (blk_cell BK957.out 1).trans rfl, (blk_cell BK957.out 2).trans rfl, ((HB.out.cell (World.block_lt_of_cell? w _ hw958_0)).trans hw958_0), ((HB.out.cell (World.block_lt_of_cell? w _ hw958_1)).trans hw958_1), ((HB.out.cell (World.block_lt_of_cell? w _ hw958_2)).trans hw958_2), ((HB.out.cell (World.block_lt_of_cell? w _ hw958_3)).trans hw958_3), ((HB.out.cell (World.block_lt_of_cell? w _ hw958_4)).trans hw958_4), ((HB.out.cell (World.block_lt_of_cell? w _ hw960_0)).trans hw960_0), ((HB.out.cell (World.block_lt_of_cell? w _ hw960_1)).trans hw960_1), ((HB.out.cell (World.block_lt_of_cell? w _ hw960_2)).trans hw960_2), ((HB.out.cell (World.block_lt_of_cell? w _ hw960_3)).trans hw960_3), ((HB.out.cell (World.block_lt_of_cell? w _ hw960_4)).trans hw960_4)⟩ (fun hHeld => ?_)
           clear hK K
           refine norm_ (a' := ?_) ?_ ?_
           rotate_left
           ·
            show Act.put _ (some 30) _ = _
            simp only [Act.put, List.setIfInBounds_toArray, List.set_cons_zero, List.set_cons_succ, i64_w, i32_w]
            rfl
           refine pI_ 20 31 HT_ spec_RowOk.m21 rfl rfl ?_
           refine pI_ 21 32 HT_ spec_RowOk.m22 rfl rfl ?_
           refine pI_ 22 33 HT_ spec_RowOk.m23 rfl rfl ?_
           refine pU_ 23 34 HT_ spec_RowOk.m24 rfl rfl ?_
           refine pU_ 24 35 HT_ spec_RowOk.m25 rfl rfl ?_
           refine pU_ 25 36 HT_ spec_RowOk.m26 rfl rfl ?_
           refine pU_ 26 37 HT_ spec_RowOk.m27 rfl rfl ?_
           refine pU_ 27 38 HT_ spec_RowOk.m35 rfl rfl ?_
           refine pU_ 28 39 HT_ spec_RowOk.m36 rfl rfl ?_
           refine pU_ 29 40 HT_ spec_RowOk.m37 rfl rfl ?_
           refine pU_ 30 41 HT_ spec_RowOk.m38 rfl rfl ?_
           refine pU_ 31 42 HT_ spec_RowOk.m39 rfl rfl ?_
           refine pU_ 32 43 HT_ spec_RowOk.m40 rfl rfl ?_
           refine pU_ 33 44 HT_ spec_RowOk.m41 rfl rfl ?_
           refine pU_ 34 45 HT_ spec_RowOk.m42 rfl rfl ?_
           refine pU_ 35 46 HT_ spec_RowOk.m28 rfl rfl ?_
           refine pU_ 36 47 HT_ spec_RowOk.m29 rfl rfl ?_
           refine pU_ 37 48 HT_ spec_RowOk.m30 rfl rfl ?_
           refine pU_ 38 49 HT_ spec_RowOk.m31 rfl rfl ?_
           refine pU_ 39 50 HT_ spec_RowOk.m32 rfl rfl ?_
           refine pU_ 40 51 HT_ spec_RowOk.m33 rfl rfl ?_
           refine pI_ 41 52 HT_ spec_RowOk.m34 rfl rfl ?_
           refine done_ (done_of HT_.out (by kernel_rfl)) ?_
           try go_wp2
           go_meet
           case rel => exact ⟨_, (true), (by first | rfl | (simp; done) | (simp [*]; done)), H', ⟨by have := HK1.out; have := HJ3.out; first | omega | exact Nat.le_refl _⟩, ⟨bq_ BK957.out⟩, ⟨hb_ HB.out⟩⟩
         ·
          replace c11 := Bool.eq_false_iff.mpr c11
          subst c11
          have H1 : (spec_RowOk.j2 kj3 x3_1 true a0_0 a0_1 l0_2) = some r := by rw [if_neg (show ¬ (false = true) by decide)] at H; exact H
          clear H
          have H := H1
          clear H1
          have H' := Aside0.mk H
          clear H
          try go_wp2
          have n0_ := Aside0.mk (blk_drew BK957.out)
          have n1_ := Aside0.mk (below_drew1 HB.out)
          clear BK957; clear HB
          have BK957 := n0_
          have HB := n1_
          clear n0_ n1_
          have p958 : 0 ≤ (x3_1 : Int) := of_decide_eq_true (by first | (with_reducible assumption) | assumption)
          have q958 : x3_1 < (l0_2.length : Int) := of_decide_eq_true (by first | (with_reducible assumption) | assumption)
          obtain ⟨ad958, e958, hx958_0, hx958_1, hx958_2, hx958_3, hx958_4⟩ := at_Item HR0_2.out x3_1 p958 q958
          have hw958_4 := hx958_4
          have hw958_3 := hx958_3
          have hw958_2 := hx958_2
          have hw958_1 := hx958_1
          have hw958_0 := hx958_0
          cases e958
          replace hx958_0 := (HB.out.cell (World.block_lt_of_cell? w _ hx958_0)).trans hx958_0
          replace hx958_1 := (HB.out.cell (World.block_lt_of_cell? w _ hx958_1)).trans hx958_1
          replace hx958_2 := (HB.out.cell (World.block_lt_of_cell? w _ hx958_2)).trans hx958_2
          replace hx958_3 := (HB.out.cell (World.block_lt_of_cell? w _ hx958_3)).trans hx958_3
          replace hx958_4 := (HB.out.cell (World.block_lt_of_cell? w _ hx958_4)).trans hx958_4
          replace p958 := eq_true p958
          replace q958 := eq_true q958
          refine start_ (n := 42) (S := fun w' => w'.cell? ⟨gb957, 0, none⟩ = some (.int .i64 a0_0) ∧ w'.cell? ⟨gb957, 1, none⟩ = some (.int .i64 a0_1) ∧ w'.cell? ⟨gb957, 2, none⟩ = some (.slice (some ad958) l0_2.length c0_2) ∧ w'.cell? (ad958.add ((x3_1).toNat * 5)) = some (.int .i64 ((rd_Item l0_2 x3_1).f0)) ∧ w'.cell? ⟨(ad958.add ((x3_1).toNat * 5)).block, (ad958.add ((x3_1).toNat * 5)).off + 1, none⟩ = some (.string ((rd_Item l0_2 x3_1).f1)) ∧ w'.cell? ⟨(ad958.add ((x3_1).toNat * 5)).block, (ad958.add ((x3_1).toNat * 5)).off + 2, none⟩ = some (.string ((rd_Item l0_2 x3_1).f2)) ∧ w'.cell? ⟨(ad958.add ((x3_1).toNat * 5)).block, (ad958.add ((x3_1).toNat * 5)).off + 3, none⟩ = some (.int .i64 ((rd_Item l0_2 x3_1).f3)) ∧ w'.cell? ⟨(ad958.add ((x3_1).toNat * 5)).block, (ad958.add ((x3_1).toNat * 5)).off + 4, none⟩ = some (.int .i64 ((rd_Item l0_2 x3_1).f4))) (ds := []) spec_RowOk.m0 (by kernel_rfl) rfl rfl ⟨(blk_cell BK957.out 0).trans rfl, (blk_cell BK957.out 1).trans rfl, (blk_cell BK957.out 2).trans rfl, ((HB.out.cell (World.block_lt_of_cell? w _ hw958_0)).trans hw958_0), ((HB.out.cell (World.block_lt_of_cell? w _ hw958_1)).trans hw958_1), ((HB.out.cell (World.block_lt_of_cell? w _ hw958_2)).trans hw958_2), ((HB.out.cell (World.block_lt_of_cell? w _ hw958_3)).trans hw958_3), ((HB.out.cell (World.block_lt_of_cell? w _ hw958_4)).trans hw958_4)⟩ (fun hHeld => ?_); refine with_tabW spec_RowOk.tab4 spec_RowOk.bits4 (fun HT_ HW_ => ?_)
          generalize wc.drew = w24 at BK957 HB hx958_0 hx958_1 hx958_2 hx958_3 hx958_4 hHeld ⊢
          refine pI_ 0 11 HT_ spec_RowOk.m1 rfl rfl ?_
          refine pI_ 2 13 HT_ spec_RowOk.m2 rfl rfl ?_
          refine take_ (i := 1) (N := some 12) (v := ?_) (a' := ?_) spec_RowOk.m3 rfl rfl (take_ofW HT_.out HW_.out (by kernel_rfl)) (fun _ _ _ h => h) (Or.inl ⟨by rfl, ?_⟩) hHeld ?_ ?_
          rotate_left
          ·
           rintro w' ⟨s0, s1, s2, s3, s4, s5, s6, s7⟩
           go_simp
           with_reducible rfl
          rotate_left; (focus simp only [Act.put, List.setIfInBounds_toArray, List.set_cons_zero, List.set_cons_succ, i64_w, i32_w]; rfl)
          refine pI_ 3 14 HT_ spec_RowOk.m4 rfl rfl ?_
          refine take_ (i := 4) (N := some 15) (v := ?_) (a' := ?_) spec_RowOk.m5 rfl rfl (take_ofW HT_.out HW_.out (by kernel_rfl)) (fun _ _ _ h => h) (Or.inl ⟨by rfl, ?_⟩) hHeld ?_ ?_
          rotate_left
          ·
           rintro w' ⟨s0, s1, s2, s3, s4, s5, s6, s7⟩
           go_simp
           with_reducible rfl
          rotate_left; (focus simp only [Act.put, List.setIfInBounds_toArray, List.set_cons_zero, List.set_cons_succ, i64_w, i32_w]; rfl)
          refine one_ (i := 5) (N := some 16) spec_RowOk.m6 rfl rfl (one_of HT_.out (by kernel_rfl)) (by decide) (fun K hK => ?_)
          refine goes_ Try.func95 (by kernel_rfl) rfl #[.agg #[.int .i64 ((rd_Item l0_2 x3_1).f0), .string ((rd_Item l0_2 x3_1).f1), .string ((rd_Item l0_2 x3_1).f2), .int .i64 ((rd_Item l0_2 x3_1).f3), .int .i64 ((rd_Item l0_2 x3_1).f4)]] (by rfl) rfl rfl sm_ ?_
          with_reducible refine (spec_l3Item.calls kj3 ((rd_Item l0_2 x3_1).f0) ((rd_Item l0_2 x3_1).f1) ((rd_Item l0_2 x3_1).f2) ((rd_Item l0_2 x3_1).f3) ((rd_Item l0_2 x3_1).f4) false _ A10.out).mono ?_
          rintro e w25 ⟨rfl, hb⟩
          refine ⟨_, rfl, ?_⟩
          have n0_ := Aside0.mk (bb_ BK957.out hb)
          have n1_ := Aside0.mk (below_step (hb_ HB.out) hb)
          clear BK957; clear HB
          have BK957 := n0_
          have HB := n1_
          clear n0_ n1_
          (try clear hb)
          (try clear hb2)
          (try clear hk)
          (try clear hi)
          refine hK.out _ _ ⟨(blk_cell BK957.out 0).trans rfl, (blk_cell BK957.out 1).trans rfl, (blk_cell BK957.out 2).trans rfl, ((HB.out.cell (World.block_lt_of_cell? w _ hw958_0)).trans hw958_0), ((HB.out.cell (World.block_lt_of_cell? w _ hw958_1)).trans hw958_1), ((HB.out.cell (World.block_lt_of_cell? w _ hw958_2)).trans hw958_2), ((HB.out.cell (World.block_lt_of_cell? w _ hw958_3)).trans hw958_3), ((HB.out.cell (World.block_lt_of_cell? w _ hw958_4)).trans hw958_4)⟩ (fun hHeld => ?_)
          clear hK K
          refine norm_ (a' := ?_) ?_ ?_
          rotate_left
          ·
           show Act.put _ (some 16) _ = _
           simp only [Act.put, List.setIfInBounds_toArray, List.set_cons_zero, List.set_cons_succ, i64_w, i32_w]
           rfl
          refine pI_ 6 17 HT_ spec_RowOk.m7 rfl rfl ?_
          refine pI_ 7 18 HT_ spec_RowOk.m8 rfl rfl ?_
          refine pU_ 8 19 HT_ spec_RowOk.m9 rfl rfl ?_
          refine pU_ 9 20 HT_ #[true, true, true, true, true, true, true, true, true, true, false, false, false, false, false, false, false, false, false, false, false, false, false, false, false, false, false, false, false, false, false, false, false, false, false, false, false, false, false, false, false, false] rfl rfl ?_
          refine pU_ 10 21 HT_ #[true, true, true, true, true, true, true, true, true, true, true, false, false, false, false, false, false, false, false, false, false, false, false, false, false, false, false, false, false, false, false, false, false, false, false, false, false, false, false, false, false, false] rfl rfl ?_
          refine pU_ 11 22 HT_ #[true, true, true, true, true, true, true, true, true, true, true, true, false, false, false, false, false, false, false, false, false, false, false, false, false, false, false, false, false, false, false, false, false, false, false, false, false, false, false, false, false, false] rfl rfl ?_
          refine pU_ 12 23 HT_ #[true, true, true, true, true, true, true, true, true, true, true, true, true, false, false, false, false, false, false, false, false, false, false, false, false, false, false, false, false, false, false, false, false, false, false, false, false, false, false, false, false, false] rfl rfl ?_
          refine pU_ 13 24 HT_ #[true, true, true, true, true, true, true, true, true, true, true, true, true, true, false, false, false, false, false, false, false, false, false, false, false, false, false, false, false, false, false, false, false, false, false, false, false, false, false, false, false, false] rfl rfl ?_
          refine pU_ 14 25 HT_ #[true, true, true, true, true, true, true, true, true, true, true, true, true, true, true, false, false, false, false, false, false, false, false, false, false, false, false, false, false, false, false, false, false, false, false, false, false, false, false, false, false, false] rfl rfl ?_
          refine pU_ 15 26 HT_ #[true, true, true, true, true, true, true, true, true, true, true, true, true, true, true, true, false, false, false, false, false, false, false, false, false, false, false, false, false, false, false, false, false, false, false, false, false, false, false, false, false, false] rfl rfl ?_
          refine pU_ 16 27 HT_ spec_RowOk.m17 rfl rfl ?_
          refine pU_ 17 28 HT_ spec_RowOk.m18 rfl rfl ?_
          refine pU_ 18 29 HT_ spec_RowOk.m19 rfl rfl ?_
          refine pU_ 19 30 HT_ spec_RowOk.m20 rfl rfl ?_
          refine pU_ 20 31 HT_ spec_RowOk.m21 rfl rfl ?_
          refine pI_ 21 32 HT_ spec_RowOk.m22 rfl rfl ?_
          refine pI_ 22 33 HT_ spec_RowOk.m23 rfl rfl ?_
          refine pU_ 23 34 HT_ spec_RowOk.m24 rfl rfl ?_
          refine pU_ 24 35 HT_ spec_RowOk.m25 rfl rfl ?_
          refine pU_ 25 36 HT_ spec_RowOk.m26 rfl rfl ?_
          refine pU_ 26 37 HT_ spec_RowOk.m27 rfl rfl ?_
          refine pU_ 27 38 HT_ spec_RowOk.m35 rfl rfl ?_
          refine pU_ 28 39 HT_ spec_RowOk.m36 rfl rfl ?_
          refine pU_ 29 40 HT_ spec_RowOk.m37 rfl rfl ?_
          refine pU_ 30 41 HT_ spec_RowOk.m38 rfl rfl ?_
          refine pU_ 31 42 HT_ spec_RowOk.m39 rfl rfl ?_
          refine pU_ 32 43 HT_ spec_RowOk.m40 rfl rfl ?_
          refine pU_ 33 44 HT_ spec_RowOk.m41 rfl rfl ?_
          refine pU_ 34 45 HT_ spec_RowOk.m42 rfl rfl ?_
          refine pU_ 35 46 HT_ spec_RowOk.m28 rfl rfl ?_
          refine pU_ 36 47 HT_ spec_RowOk.m29 rfl rfl ?_
          refine pU_ 37 48 HT_ spec_RowOk.m30 rfl rfl ?_
          refine pU_ 38 49 HT_ spec_RowOk.m31 rfl rfl ?_
          refine pU_ 39 50 HT_ spec_RowOk.m32 rfl rfl ?_
          refine pU_ 40 51 HT_ spec_RowOk.m33 rfl rfl ?_
          refine pI_ 41 52 HT_ spec_RowOk.m34 rfl rfl ?_
          refine done_ (done_of HT_.out (by kernel_rfl)) ?_
          try go_wp2
          go_meet
          case rel => exact ⟨_, (true), (by first | rfl | (simp; done) | (simp [*]; done)), H', ⟨by have := HK1.out; have := HJ3.out; first | omega | exact Nat.le_refl _⟩, ⟨bq_ BK957.out⟩, ⟨hb_ HB.out⟩⟩
        ·
         rw [if_neg c9] at H
         exact absurd H (by simp)
       ·
        rw [if_neg c8] at H
        exact absurd H (by simp)
      case rest =>
       clear HC7
       (try clear c1); (try clear p2); (try clear p6); (try clear c7); (try clear c8); (try clear c9); (try clear p9); (try clear q9); (try clear hx9); (try clear c11); (try clear hx958_0); (try clear hx958_1); (try clear hx958_2); (try clear hx958_3); (try clear hx958_4); (try clear hx960_0); (try clear hx960_1); (try clear hx960_2); (try clear hx960_3); (try clear hx960_4); (try clear p958); (try clear p960); (try clear q958); (try clear q960)
       obtain ⟨kq, x52_6, rfl, HA, HJ6, BK957, HB⟩ := hcut
       cases kq with
       | zero => exact absurd HA.out (by simp [spec_RowOk.j2])
       | succ kj6 =>
        have H := HA.out
        clear HA
        simp only [spec_RowOk.j2] at H
        by_cases c26 : x52_6 = true
        ·
         subst c26
         have H1 : (some false) = some r := by rw [if_pos rfl] at H; exact H
         clear H
         have H := H1
         clear H1
         obtain rfl := Option.some.inj H
         go_wp2
         go_ret
         exact ⟨by first | rfl | (simp [errW_none, errW_some] <;> rfl) | (simp [*, errW_none, errW_some] <;> rfl), hb_ HB.out⟩
        ·
         replace c26 := Bool.eq_false_iff.mpr c26
         subst c26
         have H1 : (spec_RowOk.l0 kj6 (wrap64 (x3_1 + 1)) a0_0 a0_1 l0_2) = some r := by rw [if_neg (show ¬ (false = true) by decide)] at H; exact H
         clear H
         have H := H1
         clear H1
         have H' := Aside0.mk H
         clear H
         go_wp2
         go_roundg kj6
         case measure => have := HK1.out; have := HJ3.out; have := HJ6.out; omega
         case rel => exact ⟨(wrap64 (x3_1 + 1)), (by first | rfl | (simp; done) | (simp [*]; done)), H', ⟨by have := HK1.out; have := HJ3.out; have := HJ6.out; omega⟩, ⟨bq_ BK957.out⟩, ⟨hb_ HB.out⟩⟩
 case rest =>
  clear HC2
  (try clear c1); (try clear c2); (try clear p2); (try clear p6); (try clear c7); (try clear c8); (try clear c9); (try clear p9); (try clear q9); (try clear hx9); (try clear c11); (try clear c26); (try clear hx958_0); (try clear hx958_1); (try clear hx958_2); (try clear hx958_3); (try clear hx958_4); (try clear hx960_0); (try clear hx960_1); (try clear hx960_2); (try clear hx960_3); (try clear hx960_4); (try clear p2); (try clear p6); (try clear p9); (try clear p958); (try clear p960); (try clear q9); (try clear q958); (try clear q960)
  obtain ⟨kq, HA, HJ1, BK957, HB⟩ := hcut
  cases kq with
  | zero => exact absurd HA.out (by simp [spec_RowOk.j3])
  | succ kj1 =>
   have H := HA.out
   clear HA
   simp only [spec_RowOk.j3] at H
   replace H := Option.bind_eq_some_iff.mp H
   obtain ⟨t964, A270, H⟩ := H
   replace H : (if t964 = true then (if a0_1 ≤ 100000 then (some (decide ((l0_2.length : Int) ≤ 80))) else (some false)) else (some false)) = some r := H
   have A27 := Aside0.mk A270
   clear A270
   by_cases c28 : t964 = true
   ·
    subst c28
    have H1 : (if a0_1 ≤ 100000 then (some (decide ((l0_2.length : Int) ≤ 80))) else (some false)) = some r := by rw [if_pos rfl] at H; exact H
    clear H
    have H := H1
    clear H1
    by_cases c29 : a0_1 ≤ 100000
    ·
     rw [if_pos c29] at H
     have c29b0 : decide (a0_1 ≤ 100000) = true := decide_eq_true c29
     clear c29
     obtain rfl := Option.some.inj H
     have hcz30_0 : wc.cell? ⟨gb957, 0, none⟩ = some (.int .i64 a0_0) := (blk_cell BK957.out 0).trans rfl
     have hcz30_1 : wc.cell? ⟨gb957, 1, none⟩ = some (.int .i64 a0_1) := (blk_cell BK957.out 1).trans rfl
     have hcz30_2 : wc.cell? ⟨gb957, 2, none⟩ = some (.slice A0_2 l0_2.length c0_2) := (blk_cell BK957.out 2).trans rfl
     have hfz30_0 := blk_frozen BK957.out 0
     have hfz30_1 := blk_frozen BK957.out 1
     have hfz30_2 := blk_frozen BK957.out 2
     go_wp2_with (first | ((with_reducible refine gate_callee (f := 77) rfl ?_); refine goesL_ (some 57) rfl rfl Try.func77 (by kernel_rfl) rfl #[.int .i64 a0_0, .int .i64 0, .int .i64 a0_1] rfl sm_ ?_; (with_reducible refine (spec_l1In.calls a0_0 0 a0_1 true _ A27.out).mono ?_); rintro e w' ⟨rfl, ⟨nd, rfl⟩⟩; refine ⟨_, rfl, ?_⟩))
     go_ret
     exact ⟨by first | rfl | (simp [errW_none, errW_some] <;> rfl) | (simp [*, errW_none, errW_some] <;> rfl), hb_ HB.out⟩
    ·
     rw [if_neg c29] at H
     have c29b0 : decide (a0_1 ≤ 100000) = false := decide_eq_false c29
     clear c29
     obtain rfl := Option.some.inj H
     have hcz31_0 : wc.cell? ⟨gb957, 0, none⟩ = some (.int .i64 a0_0) := (blk_cell BK957.out 0).trans rfl
     have hcz31_1 : wc.cell? ⟨gb957, 1, none⟩ = some (.int .i64 a0_1) := (blk_cell BK957.out 1).trans rfl
     have hcz31_2 : wc.cell? ⟨gb957, 2, none⟩ = some (.slice A0_2 l0_2.length c0_2) := (blk_cell BK957.out 2).trans rfl
     have hfz31_0 := blk_frozen BK957.out 0
     have hfz31_1 := blk_frozen BK957.out 1
     have hfz31_2 := blk_frozen BK957.out 2
     go_wp2_with (first | ((with_reducible refine gate_callee (f := 77) rfl ?_); refine goesL_ (some 57) rfl rfl Try.func77 (by kernel_rfl) rfl #[.int .i64 a0_0, .int .i64 0, .int .i64 a0_1] rfl sm_ ?_; (with_reducible refine (spec_l1In.calls a0_0 0 a0_1 true _ A27.out).mono ?_); rintro e w' ⟨rfl, ⟨nd, rfl⟩⟩; refine ⟨_, rfl, ?_⟩))
     go_ret
     exact ⟨by first | rfl | (simp [errW_none, errW_some] <;> rfl) | (simp [*, errW_none, errW_some] <;> rfl), hb_ HB.out⟩
   ·
    replace c28 := Bool.eq_false_iff.mpr c28
    subst c28
    have H1 : (some false) = some r := by rw [if_neg (show ¬ (false = true) by decide)] at H; exact H
    clear H
    have H := H1
    clear H1
    obtain rfl := Option.some.inj H
    have hcz32_0 : wc.cell? ⟨gb957, 0, none⟩ = some (.int .i64 a0_0) := (blk_cell BK957.out 0).trans rfl
    have hcz32_1 : wc.cell? ⟨gb957, 1, none⟩ = some (.int .i64 a0_1) := (blk_cell BK957.out 1).trans rfl
    have hcz32_2 : wc.cell? ⟨gb957, 2, none⟩ = some (.slice A0_2 l0_2.length c0_2) := (blk_cell BK957.out 2).trans rfl
    have hfz32_0 := blk_frozen BK957.out 0
    have hfz32_1 := blk_frozen BK957.out 1
    have hfz32_2 := blk_frozen BK957.out 2
    go_wp2_with (first | ((with_reducible refine gate_callee (f := 77) rfl ?_); refine goesL_ (some 57) rfl rfl Try.func77 (by kernel_rfl) rfl #[.int .i64 a0_0, .int .i64 0, .int .i64 a0_1] rfl sm_ ?_; (with_reducible refine (spec_l1In.calls a0_0 0 a0_1 false _ A27.out).mono ?_); rintro e w' ⟨rfl, ⟨nd, rfl⟩⟩; refine ⟨_, rfl, ?_⟩))
    go_ret
    exact ⟨by first | rfl | (simp [errW_none, errW_some] <;> rfl) | (simp [*, errW_none, errW_some] <;> rfl), hb_ HB.out⟩

end Go.Proofs.Ytgkeapbeogmfjaa.Q
