/- Made by a program of ours out of the print of the loaded functions: for each of some functions a plain function, and the walk that shows that a call comes to what it says. No condition but those of each theorem. -/
import Derived.Test.YtgkeapbeogmfjaaQ0
import Derived.Test.YtgkeapbeogmfjaaQA
import Derived.Test.YtgkeapbeogmfjaaQB
import Derived.Test.YtgkeapbeogmfjaaQ14
import Derived.Test.YtgkeapbeogmfjaaQ15
import Derived.Test.YtgkeapbeogmfjaaQ16
import Derived.Test.YtgkeapbeogmfjaaQ19
import Derived.Test.YtgkeapbeogmfjaaQ21
import Derived.Test.YtgkeapbeogmfjaaQ22
namespace Go.Proofs.Ytgkeapbeogmfjaa.Q
open Go.RowKit Go.Proofs.YtgkeapbeogmfjaaW.PrintWords Go.Proofs.YtgkeapbeogmfjaaW.PrintLast Go.Proofs.YtgkeapbeogmfjaaW.PrintMore
attribute [local go_sem] max2_int min2_int max_two min_two max_three min_three max_four min_four   -- for this text's walks alone
set_option linter.unusedVariables false
set_option linter.unusedSimpArgs false

/-! ### laws_FnExactGroupMark: function 9 -/
mutual
def laws_FnExactGroupMark.j0 : Nat → Int → Int → Int → Int → Bool → Bool → Bool → Int → List Int → List Int → List Int → Int → List Int → List Int → List Int → Int → List Int → List Int → List Int → Int → List Int → List Int → List Int → Option (Bool)
 | 0, _, _, _, _, _, _, _, _, _, _, _, _, _, _, _, _, _, _, _, _, _, _, _ => none
 | k + 1, x1, x2, x3, x4, x13, x16, x56, x485000, x485001, x485002, x485003, x508000, x508001, x508002, x508003, x519000, x519001, x519002, x519003, x531000, x531001, x531002, x531003 => if x56 = true then (some false) else ((laws_toGroup.f k x485000 x485001 x485002 x485003).bind fun bt532 => ((laws_eqGroup.f k x519000 x519001 x519002 x519003 bt532.1 bt532.2.1 bt532.2.2.1 bt532.2.2.2).bind fun t542 => (if t542 = true then ((laws_markGroup.f k x519000 x519001 x519002 x519003 1).bind fun bt543 => (if bt543.1 < 0 then (laws_FnExactGroupMark.j1 k x1 x2 x3 x4 x13 true x485000 x485001 x485002 x485003 x508000 x508001 x508002 x508003 x531000 x531001 x531002 x531003) else ((laws_eqGroup.f k x531000 x531001 x531002 x531003 x508000 x508001 x508002 x508003).bind fun t547 => (if t547 = true then (laws_FnExactGroupMark.j1 k x1 x2 x3 x4 x13 (x16 != x13) x485000 x485001 x485002 x485003 x508000 x508001 x508002 x508003 x531000 x531001 x531002 x531003) else (laws_FnExactGroupMark.j1 k x1 x2 x3 x4 x13 true x485000 x485001 x485002 x485003 x508000 x508001 x508002 x508003 x531000 x531001 x531002 x531003))))) else (some false))))
def laws_FnExactGroupMark.j1 : Nat → Int → Int → Int → Int → Bool → Bool → Int → List Int → List Int → List Int → Int → List Int → List Int → List Int → Int → List Int → List Int → List Int → Option (Bool)
 | 0, _, _, _, _, _, _, _, _, _, _, _, _, _, _, _, _, _, _ => none
 | k + 1, x1, x2, x3, x4, x13, x77, x485000, x485001, x485002, x485003, x508000, x508001, x508002, x508003, x531000, x531001, x531002, x531003 => if x77 = true then (some false) else ((laws_markGroup.f k x531000 x531001 x531002 x531003 1).bind fun bt548 => ((laws_heldGroup.f k x531000 bt548.2.1 bt548.2.2.1 bt548.2.2.2 1).bind fun t552 => (if t552 < 0 then (some false) else (if t552 = bt548.1 then ((laws_toGroup.f k x485000 x485001 x485002 x485003).bind fun bt553 => ((impl_GroupMark.f k bt553.1 bt553.2.1 bt553.2.2.1 bt553.2.2.2 x1 x2 x3 x4).bind fun bt563 => ((laws_eqGroup.f k bt563.1 bt563.2.1 bt563.2.2.1 bt563.2.2.2.1 x508000 x508001 x508002 x508003).bind fun t575 => (if t575 = true then (laws_FnExactGroupMark.j2 k bt548.1 (bt563.2.2.2.2 != x13) x531000 bt548.2.1 bt548.2.2.1 bt548.2.2.2) else (laws_FnExactGroupMark.j2 k bt548.1 true x531000 bt548.2.1 bt548.2.2.1 bt548.2.2.2))))) else (some false)))))
def laws_FnExactGroupMark.j2 : Nat → Int → Bool → Int → List Int → List Int → List Int → Option (Bool)
 | 0, _, _, _, _, _, _ => none
 | k + 1, x18, x107, x531000, x531001, x531002, x531003 => if x107 = true then (some false) else ((laws_heldGroup.f k x531000 x531001 x531002 x531003 1).bind fun t576 => (if t576 < 0 then (some false) else (if t576 = x18 then (some true) else (some false))))
end
def laws_FnExactGroupMark.f (k : Nat) (a0_0 : Int) (l0_1 : List Int) (l0_2 : List Int) (l0_3 : List Int) (a1 : Int) (a2 : Int) (a3 : Int) (a4 : Int) : Option (Bool) := (laws_szGroup.f a0_0 l0_1 l0_2 l0_3 1048576).bind fun t485 => (if t485 < 0 then (some true) else ((laws_toGroup.f k a0_0 l0_1 l0_2 l0_3).bind fun bt486 => ((spec_GroupMark.f k bt486.1 bt486.2.1 bt486.2.2.1 bt486.2.2.2 a1 a2 a3 a4).bind fun bt496 => ((laws_toGroup.f k a0_0 l0_1 l0_2 l0_3).bind fun bt508 => ((impl_GroupMark.f k bt508.1 bt508.2.1 bt508.2.2.1 bt508.2.2.2 a1 a2 a3 a4).bind fun bt519 => ((laws_eqGroup.f k bt519.1 bt519.2.1 bt519.2.2.1 bt519.2.2.2.1 bt496.1 bt496.2.1 bt496.2.2.1 bt496.2.2.2.1).bind fun t531 => (if t531 = true then (laws_FnExactGroupMark.j0 k a1 a2 a3 a4 bt496.2.2.2.2 bt519.2.2.2.2 (bt519.2.2.2.2 != bt496.2.2.2.2) a0_0 l0_1 l0_2 l0_3 bt496.1 bt496.2.1 bt496.2.2.1 bt496.2.2.2.1 bt508.1 bt508.2.1 bt508.2.2.1 bt508.2.2.2 bt519.1 bt519.2.1 bt519.2.2.1 bt519.2.2.2.1) else (laws_FnExactGroupMark.j0 k a1 a2 a3 a4 bt496.2.2.2.2 bt519.2.2.2.2 true a0_0 l0_1 l0_2 l0_3 bt496.1 bt496.2.1 bt496.2.2.1 bt496.2.2.2.1 bt508.1 bt508.2.1 bt508.2.2.1 bt508.2.2.2 bt519.1 bt519.2.1 bt519.2.2.1 bt519.2.2.2.1))))))))
theorem laws_FnExactGroupMark.mono_l : ∀ k, (∀ y0 y1 y2 y3 y4 y5 y6 y7 y8 y9 y10 y11 y12 y13 y14 y15 y16 y17 y18 y19 y20 y21 y22, LeO (laws_FnExactGroupMark.j0 k y0 y1 y2 y3 y4 y5 y6 y7 y8 y9 y10 y11 y12 y13 y14 y15 y16 y17 y18 y19 y20 y21 y22) (laws_FnExactGroupMark.j0 (k + 1) y0 y1 y2 y3 y4 y5 y6 y7 y8 y9 y10 y11 y12 y13 y14 y15 y16 y17 y18 y19 y20 y21 y22)) ∧ (∀ y0 y1 y2 y3 y4 y5 y6 y7 y8 y9 y10 y11 y12 y13 y14 y15 y16 y17, LeO (laws_FnExactGroupMark.j1 k y0 y1 y2 y3 y4 y5 y6 y7 y8 y9 y10 y11 y12 y13 y14 y15 y16 y17) (laws_FnExactGroupMark.j1 (k + 1) y0 y1 y2 y3 y4 y5 y6 y7 y8 y9 y10 y11 y12 y13 y14 y15 y16 y17)) ∧ (∀ y0 y1 y2 y3 y4 y5, LeO (laws_FnExactGroupMark.j2 k y0 y1 y2 y3 y4 y5) (laws_FnExactGroupMark.j2 (k + 1) y0 y1 y2 y3 y4 y5))
 | 0 => ⟨fun _ _ _ _ _ _ _ _ _ _ _ _ _ _ _ _ _ _ _ _ _ _ _ r h => by simp [laws_FnExactGroupMark.j0] at h, fun _ _ _ _ _ _ _ _ _ _ _ _ _ _ _ _ _ _ r h => by simp [laws_FnExactGroupMark.j1] at h, fun _ _ _ _ _ _ r h => by simp [laws_FnExactGroupMark.j2] at h⟩
 | k + 1 => by
  obtain ⟨ih0, ih1, ih2⟩ := laws_FnExactGroupMark.mono_l k
  refine ⟨?_, ?_, ?_⟩
  ·
   intro y0 y1 y2 y3 y4 y5 y6 y7 y8 y9 y10 y11 y12 y13 y14 y15 y16 y17 y18 y19 y20 y21 y22
   unfold laws_FnExactGroupMark.j0
   repeat' first
   | (with_reducible exact ih0 _ _ _ _ _ _ _ _ _ _ _ _ _ _ _ _ _ _ _ _ _ _ _)
   | (with_reducible exact ih1 _ _ _ _ _ _ _ _ _ _ _ _ _ _ _ _ _ _)
   | (with_reducible exact ih2 _ _ _ _ _ _)
   | (with_reducible exact impl_GroupMark.mono _ _ _ _ _ _ _ _ _)
   | (with_reducible exact laws_eqGroup.mono _ _ _ _ _ _ _ _ _)
   | (with_reducible exact laws_heldGroup.mono _ _ _ _ _ _)
   | (with_reducible exact laws_markGroup.mono _ _ _ _ _ _)
   | (with_reducible exact laws_toGroup.mono _ _ _ _ _)
   | (with_reducible exact spec_GroupMark.mono _ _ _ _ _ _ _ _ _)
   | (with_reducible exact LeO.refl _)
   | (with_reducible exact LeO.none _)
   | (with_reducible refine LeO.ite ?_ ?_)
   | (with_reducible refine LeO.bind ?_ (fun _ => ?_))
   | exact ih0 _ _ _ _ _ _ _ _ _ _ _ _ _ _ _ _ _ _ _ _ _ _ _
   | exact ih1 _ _ _ _ _ _ _ _ _ _ _ _ _ _ _ _ _ _
   | exact ih2 _ _ _ _ _ _
   | exact impl_GroupMark.mono _ _ _ _ _ _ _ _ _
   | exact laws_eqGroup.mono _ _ _ _ _ _ _ _ _
   | exact laws_heldGroup.mono _ _ _ _ _ _
   | exact laws_markGroup.mono _ _ _ _ _ _
   | exact laws_toGroup.mono _ _ _ _ _
   | exact spec_GroupMark.mono _ _ _ _ _ _ _ _ _
   | exact LeO.none _
   | refine LeO.ite ?_ ?_
   | refine LeO.bind ?_ (fun _ => ?_)
  ·
   intro y0 y1 y2 y3 y4 y5 y6 y7 y8 y9 y10 y11 y12 y13 y14 y15 y16 y17
   unfold laws_FnExactGroupMark.j1
   repeat' first
   | (with_reducible exact ih0 _ _ _ _ _ _ _ _ _ _ _ _ _ _ _ _ _ _ _ _ _ _ _)
   | (with_reducible exact ih1 _ _ _ _ _ _ _ _ _ _ _ _ _ _ _ _ _ _)
   | (with_reducible exact ih2 _ _ _ _ _ _)
   | (with_reducible exact impl_GroupMark.mono _ _ _ _ _ _ _ _ _)
   | (with_reducible exact laws_eqGroup.mono _ _ _ _ _ _ _ _ _)
   | (with_reducible exact laws_heldGroup.mono _ _ _ _ _ _)
   | (with_reducible exact laws_markGroup.mono _ _ _ _ _ _)
   | (with_reducible exact laws_toGroup.mono _ _ _ _ _)
   | (with_reducible exact spec_GroupMark.mono _ _ _ _ _ _ _ _ _)
   | (with_reducible exact LeO.refl _)
   | (with_reducible exact LeO.none _)
   | (with_reducible refine LeO.ite ?_ ?_)
   | (with_reducible refine LeO.bind ?_ (fun _ => ?_))
   | exact ih0 _ _ _ _ _ _ _ _ _ _ _ _ _ _ _ _ _ _ _ _ _ _ _
   | exact ih1 _ _ _ _ _ _ _ _ _ _ _ _ _ _ _ _ _ _
   | exact ih2 _ _ _ _ _ _
   | exact impl_GroupMark.mono _ _ _ _ _ _ _ _ _
   | exact laws_eqGroup.mono _ _ _ _ _ _ _ _ _
   | exact laws_heldGroup.mono _ _ _ _ _ _
   | exact laws_markGroup.mono _ _ _ _ _ _
   | exact laws_toGroup.mono _ _ _ _ _
   | exact spec_GroupMark.mono _ _ _ _ _ _ _ _ _
   | exact LeO.none _
   | refine LeO.ite ?_ ?_
   | refine LeO.bind ?_ (fun _ => ?_)
  ·
   intro y0 y1 y2 y3 y4 y5
   unfold laws_FnExactGroupMark.j2
   repeat' first
   | (with_reducible exact ih0 _ _ _ _ _ _ _ _ _ _ _ _ _ _ _ _ _ _ _ _ _ _ _)
   | (with_reducible exact ih1 _ _ _ _ _ _ _ _ _ _ _ _ _ _ _ _ _ _)
   | (with_reducible exact ih2 _ _ _ _ _ _)
   | (with_reducible exact impl_GroupMark.mono _ _ _ _ _ _ _ _ _)
   | (with_reducible exact laws_eqGroup.mono _ _ _ _ _ _ _ _ _)
   | (with_reducible exact laws_heldGroup.mono _ _ _ _ _ _)
   | (with_reducible exact laws_markGroup.mono _ _ _ _ _ _)
   | (with_reducible exact laws_toGroup.mono _ _ _ _ _)
   | (with_reducible exact spec_GroupMark.mono _ _ _ _ _ _ _ _ _)
   | (with_reducible exact LeO.refl _)
   | (with_reducible exact LeO.none _)
   | (with_reducible refine LeO.ite ?_ ?_)
   | (with_reducible refine LeO.bind ?_ (fun _ => ?_))
   | exact ih0 _ _ _ _ _ _ _ _ _ _ _ _ _ _ _ _ _ _ _ _ _ _ _
   | exact ih1 _ _ _ _ _ _ _ _ _ _ _ _ _ _ _ _ _ _
   | exact ih2 _ _ _ _ _ _
   | exact impl_GroupMark.mono _ _ _ _ _ _ _ _ _
   | exact laws_eqGroup.mono _ _ _ _ _ _ _ _ _
   | exact laws_heldGroup.mono _ _ _ _ _ _
   | exact laws_markGroup.mono _ _ _ _ _ _
   | exact laws_toGroup.mono _ _ _ _ _
   | exact spec_GroupMark.mono _ _ _ _ _ _ _ _ _
   | exact LeO.none _
   | refine LeO.ite ?_ ?_
   | refine LeO.bind ?_ (fun _ => ?_)
theorem laws_FnExactGroupMark.mono : ∀ a0 a1 a2 a3 a4 a5 a6 a7 k, LeO (laws_FnExactGroupMark.f k a0 a1 a2 a3 a4 a5 a6 a7) (laws_FnExactGroupMark.f (k + 1) a0 a1 a2 a3 a4 a5 a6 a7) := by
 intro a0 a1 a2 a3 a4 a5 a6 a7 k
 obtain ⟨ih0, ih1, ih2⟩ := laws_FnExactGroupMark.mono_l k
 unfold laws_FnExactGroupMark.f
 repeat' first
  | (with_reducible exact ih0 _ _ _ _ _ _ _ _ _ _ _ _ _ _ _ _ _ _ _ _ _ _ _)
  | (with_reducible exact ih1 _ _ _ _ _ _ _ _ _ _ _ _ _ _ _ _ _ _)
  | (with_reducible exact ih2 _ _ _ _ _ _)
  | (with_reducible exact impl_GroupMark.mono _ _ _ _ _ _ _ _ _)
  | (with_reducible exact laws_eqGroup.mono _ _ _ _ _ _ _ _ _)
  | (with_reducible exact laws_heldGroup.mono _ _ _ _ _ _)
  | (with_reducible exact laws_markGroup.mono _ _ _ _ _ _)
  | (with_reducible exact laws_toGroup.mono _ _ _ _ _)
  | (with_reducible exact spec_GroupMark.mono _ _ _ _ _ _ _ _ _)
  | (with_reducible exact LeO.refl _)
  | (with_reducible exact LeO.none _)
  | (with_reducible refine LeO.ite ?_ ?_)
  | (with_reducible refine LeO.bind ?_ (fun _ => ?_))
  | exact ih0 _ _ _ _ _ _ _ _ _ _ _ _ _ _ _ _ _ _ _ _ _ _ _
  | exact ih1 _ _ _ _ _ _ _ _ _ _ _ _ _ _ _ _ _ _
  | exact ih2 _ _ _ _ _ _
  | exact impl_GroupMark.mono _ _ _ _ _ _ _ _ _
  | exact laws_eqGroup.mono _ _ _ _ _ _ _ _ _
  | exact laws_heldGroup.mono _ _ _ _ _ _
  | exact laws_markGroup.mono _ _ _ _ _ _
  | exact laws_toGroup.mono _ _ _ _ _
  | exact spec_GroupMark.mono _ _ _ _ _ _ _ _ _
  | exact LeO.none _
  | refine LeO.ite ?_ ?_
  | refine LeO.bind ?_ (fun _ => ?_)
end Go.Proofs.Ytgkeapbeogmfjaa.Q
