/- Made by a program of ours out of the print of the loaded functions: for each of some functions a plain function, and the walk that shows that a call comes to what it says. No condition but those of each theorem. -/
import Derived.Test.YthmjhhkheohgfaaZXRowTrim0
import Derived.Test.YthmjhhkheohgfaaZXRowTrima
import Derived.Test.YthmjhhkheohgfaaZXRowTrimc
import Derived.Test.YthmjhhkheohgfaaZXRowTrimd
namespace Go.Proofs.Ythmjhhkheohgfaa.Q
open Go.RowKit Go.Proofs.YthmjhhkheohgfaaW.PrintWords Go.Proofs.YthmjhhkheohgfaaW.PrintLast Go.Proofs.YthmjhhkheohgfaaW.PrintMore
attribute [local go_sem] max2_int min2_int max_two min_two max_three min_three max_four min_four   -- for this text's walks alone
set_option linter.unusedVariables false
set_option linter.unusedSimpArgs false

/-! ### laws_FnExactRowTrim: function 6 -/
mutual
def laws_FnExactRowTrim.j0 : Nat → Int → Int → Int → Int → List (S_LItem) → Option (Bool)
 | 0, _, _, _, _, _ => none
 | k + 1, x1, x2, x647000, x647001, x647002 => (laws_toRow.f k x647000 x647001 x647002).bind fun bt648 => ((spec_RowTrim.f k bt648.1 bt648.2.1 bt648.2.2 x1 x2).bind fun bt653 => ((laws_toRow.f k x647000 x647001 x647002).bind fun bt659 => ((impl_RowTrim.f k bt659.1 bt659.2.1 bt659.2.2 x1 x2).bind fun bt665 => ((laws_eqRow.f k bt665.1 bt665.2.1 bt665.2.2 bt653.1 bt653.2.1 bt653.2.2).bind fun t671 => (if t671 = true then (laws_FnExactRowTrim.j1 k x1 x2 x647000 x647001 x647002 bt653.1 bt653.2.1 bt653.2.2 bt659.1 bt659.2.1 bt659.2.2 bt665.1 bt665.2.1 bt665.2.2) else (some false))))))
def laws_FnExactRowTrim.j1 : Nat → Int → Int → Int → Int → List (S_LItem) → Int → Int → List (S_Item) → Int → Int → List (S_Item) → Int → Int → List (S_Item) → Option (Bool)
 | 0, _, _, _, _, _, _, _, _, _, _, _, _, _, _ => none
 | k + 1, x1, x2, x647000, x647001, x647002, x659000, x659001, x659002, x665000, x665001, x665002, x671000, x671001, x671002 => (laws_toRow.f k x647000 x647001 x647002).bind fun bt672 => ((laws_eqRow.f k x665000 x665001 x665002 bt672.1 bt672.2.1 bt672.2.2).bind fun t677 => (if t677 = true then (laws_FnExactRowTrim.j2 k x1 x2 x647000 x647001 x647002 x659000 x659001 x659002 x665000 x665001 x665002 x671000 x671001 x671002) else (some false)))
def laws_FnExactRowTrim.j2 : Nat → Int → Int → Int → Int → List (S_LItem) → Int → Int → List (S_Item) → Int → Int → List (S_Item) → Int → Int → List (S_Item) → Option (Bool)
 | 0, _, _, _, _, _, _, _, _, _, _, _, _, _, _ => none
 | k + 1, x1, x2, x647000, x647001, x647002, x659000, x659001, x659002, x665000, x665001, x665002, x671000, x671001, x671002 => (laws_markRow.f k x665000 x665001 x665002 1).bind fun bt678 => (if bt678.1 < 0 then (laws_FnExactRowTrim.j3 k x1 x2 true x647000 x647001 x647002 x659000 x659001 x659002 x671000 x671001 x671002) else ((laws_eqRow.f k x671000 x671001 x671002 x659000 x659001 x659002).bind fun t680 => (laws_FnExactRowTrim.j3 k x1 x2 (!t680) x647000 x647001 x647002 x659000 x659001 x659002 x671000 x671001 x671002)))
def laws_FnExactRowTrim.j3 : Nat → Int → Int → Bool → Int → Int → List (S_LItem) → Int → Int → List (S_Item) → Int → Int → List (S_Item) → Option (Bool)
 | 0, _, _, _, _, _, _, _, _, _, _, _, _ => none
 | k + 1, x1, x2, x50, x647000, x647001, x647002, x659000, x659001, x659002, x671000, x671001, x671002 => if x50 = true then (some false) else (laws_FnExactRowTrim.j4 k x1 x2 x647000 x647001 x647002 x659000 x659001 x659002 x671000 x671001 x671002)
def laws_FnExactRowTrim.j4 : Nat → Int → Int → Int → Int → List (S_LItem) → Int → Int → List (S_Item) → Int → Int → List (S_Item) → Option (Bool)
 | 0, _, _, _, _, _, _, _, _, _, _, _ => none
 | k + 1, x1, x2, x647000, x647001, x647002, x659000, x659001, x659002, x671000, x671001, x671002 => (laws_markRow.f k x671000 x671001 x671002 1).bind fun bt681 => ((laws_heldRow.f k x671000 x671001 bt681.2 1).bind fun t683 => (if t683 < 0 then (some false) else (laws_FnExactRowTrim.j5 k x1 x2 bt681.1 t683 x647000 x647001 x647002 x659000 x659001 x659002 x671000 x671001 bt681.2)))
def laws_FnExactRowTrim.j5 : Nat → Int → Int → Int → Int → Int → Int → List (S_LItem) → Int → Int → List (S_Item) → Int → Int → List (S_Item) → Option (Bool)
 | 0, _, _, _, _, _, _, _, _, _, _, _, _, _ => none
 | k + 1, x1, x2, x12, x13, x647000, x647001, x647002, x659000, x659001, x659002, x671000, x671001, x671002 => if x13 = x12 then (laws_FnExactRowTrim.j6 k x1 x2 x12 x647000 x647001 x647002 x659000 x659001 x659002 x671000 x671001 x671002) else (some false)
def laws_FnExactRowTrim.j6 : Nat → Int → Int → Int → Int → Int → List (S_LItem) → Int → Int → List (S_Item) → Int → Int → List (S_Item) → Option (Bool)
 | 0, _, _, _, _, _, _, _, _, _, _, _, _ => none
 | k + 1, x1, x2, x12, x647000, x647001, x647002, x659000, x659001, x659002, x671000, x671001, x671002 => (laws_toRow.f k x647000 x647001 x647002).bind fun bt684 => ((impl_RowTrim.f k bt684.1 bt684.2.1 bt684.2.2 x1 x2).bind fun bt689 => ((laws_eqRow.f k bt689.1 bt689.2.1 bt689.2.2 x659000 x659001 x659002).bind fun t695 => (if t695 = true then (laws_FnExactRowTrim.j7 k x12 x671000 x671001 x671002) else (some false))))
def laws_FnExactRowTrim.j7 : Nat → Int → Int → Int → List (S_Item) → Option (Bool)
 | 0, _, _, _, _ => none
 | k + 1, x12, x671000, x671001, x671002 => (laws_heldRow.f k x671000 x671001 x671002 1).bind fun t696 => (if t696 < 0 then (some false) else (if t696 = x12 then (some true) else (some false)))
end
def laws_FnExactRowTrim.f (k : Nat) (a0_0 : Int) (a0_1 : Int) (l0_2 : List (S_LItem)) (a1 : Int) (a2 : Int) : Option (Bool) := (laws_szRow.f k a0_0 a0_1 l0_2 1048576).bind fun t647 => (if t647 < 0 then (some true) else (laws_FnExactRowTrim.j0 k a1 a2 a0_0 a0_1 l0_2))
theorem laws_FnExactRowTrim.mono_l : ∀ k, (∀ y0 y1 y2 y3 y4, LeO (laws_FnExactRowTrim.j0 k y0 y1 y2 y3 y4) (laws_FnExactRowTrim.j0 (k + 1) y0 y1 y2 y3 y4)) ∧ (∀ y0 y1 y2 y3 y4 y5 y6 y7 y8 y9 y10 y11 y12 y13, LeO (laws_FnExactRowTrim.j1 k y0 y1 y2 y3 y4 y5 y6 y7 y8 y9 y10 y11 y12 y13) (laws_FnExactRowTrim.j1 (k + 1) y0 y1 y2 y3 y4 y5 y6 y7 y8 y9 y10 y11 y12 y13)) ∧ (∀ y0 y1 y2 y3 y4 y5 y6 y7 y8 y9 y10 y11 y12 y13, LeO (laws_FnExactRowTrim.j2 k y0 y1 y2 y3 y4 y5 y6 y7 y8 y9 y10 y11 y12 y13) (laws_FnExactRowTrim.j2 (k + 1) y0 y1 y2 y3 y4 y5 y6 y7 y8 y9 y10 y11 y12 y13)) ∧ (∀ y0 y1 y2 y3 y4 y5 y6 y7 y8 y9 y10 y11, LeO (laws_FnExactRowTrim.j3 k y0 y1 y2 y3 y4 y5 y6 y7 y8 y9 y10 y11) (laws_FnExactRowTrim.j3 (k + 1) y0 y1 y2 y3 y4 y5 y6 y7 y8 y9 y10 y11)) ∧ (∀ y0 y1 y2 y3 y4 y5 y6 y7 y8 y9 y10, LeO (laws_FnExactRowTrim.j4 k y0 y1 y2 y3 y4 y5 y6 y7 y8 y9 y10) (laws_FnExactRowTrim.j4 (k + 1) y0 y1 y2 y3 y4 y5 y6 y7 y8 y9 y10)) ∧ (∀ y0 y1 y2 y3 y4 y5 y6 y7 y8 y9 y10 y11 y12, LeO (laws_FnExactRowTrim.j5 k y0 y1 y2 y3 y4 y5 y6 y7 y8 y9 y10 y11 y12) (laws_FnExactRowTrim.j5 (k + 1) y0 y1 y2 y3 y4 y5 y6 y7 y8 y9 y10 y11 y12)) ∧ (∀ y0 y1 y2 y3 y4 y5 y6 y7 y8 y9 y10 y11, LeO (laws_FnExactRowTrim.j6 k y0 y1 y2 y3 y4 y5 y6 y7 y8 y9 y10 y11) (laws_FnExactRowTrim.j6 (k + 1) y0 y1 y2 y3 y4 y5 y6 y7 y8 y9 y10 y11)) ∧ (∀ y0 y1 y2 y3, LeO (laws_FnExactRowTrim.j7 k y0 y1 y2 y3) (laws_FnExactRowTrim.j7 (k + 1) y0 y1 y2 y3))
 | 0 => ⟨fun _ _ _ _ _ r h => by simp [laws_FnExactRowTrim.j0] at h, fun _ _ _ _ _ _ _ _ _ _ _ _ _ _ r h => by simp [laws_FnExactRowTrim.j1] at h, fun _ _ _ _ _ _ _ _ _ _ _ _ _ _ r h => by simp [laws_FnExactRowTrim.j2] at h, fun _ _ _ _ _ _ _ _ _ _ _ _ r h => by simp [laws_FnExactRowTrim.j3] at h, fun _ _ _ _ _ _ _ _ _ _ _ r h => by simp [laws_FnExactRowTrim.j4] at h, fun _ _ _ _ _ _ _ _ _ _ _ _ _ r h => by simp [laws_FnExactRowTrim.j5] at h, fun _ _ _ _ _ _ _ _ _ _ _ _ r h => by simp [laws_FnExactRowTrim.j6] at h, fun _ _ _ _ r h => by simp [laws_FnExactRowTrim.j7] at h⟩
 | k + 1 => by
  obtain ⟨ih0, ih1, ih2, ih3, ih4, ih5, ih6, ih7⟩ := laws_FnExactRowTrim.mono_l k
  refine ⟨?_, ?_, ?_, ?_, ?_, ?_, ?_, ?_⟩
  ·
   intro y0 y1 y2 y3 y4
   unfold laws_FnExactRowTrim.j0
   repeat' first
   | (with_reducible exact ih0 _ _ _ _ _)
   | (with_reducible exact ih1 _ _ _ _ _ _ _ _ _ _ _ _ _ _)
   | (with_reducible exact ih2 _ _ _ _ _ _ _ _ _ _ _ _ _ _)
   | (with_reducible exact ih3 _ _ _ _ _ _ _ _ _ _ _ _)
   | (with_reducible exact ih4 _ _ _ _ _ _ _ _ _ _ _)
   | (with_reducible exact ih5 _ _ _ _ _ _ _ _ _ _ _ _ _)
   | (with_reducible exact ih6 _ _ _ _ _ _ _ _ _ _ _ _)
   | (with_reducible exact ih7 _ _ _ _)
   | (with_reducible exact impl_RowTrim.mono _ _ _ _ _ _)
   | (with_reducible exact laws_eqRow.mono _ _ _ _ _ _ _)
   | (with_reducible exact laws_heldRow.mono _ _ _ _ _)
   | (with_reducible exact laws_markRow.mono _ _ _ _ _)
   | (with_reducible exact laws_szRow.mono _ _ _ _ _)
   | (with_reducible exact laws_toRow.mono _ _ _ _)
   | (with_reducible exact spec_RowTrim.mono _ _ _ _ _ _)
   | (with_reducible exact LeO.refl _)
   | (with_reducible exact LeO.none _)
   | (with_reducible refine LeO.ite ?_ ?_)
   | (with_reducible refine LeO.bind ?_ (fun _ => ?_))
   | exact ih0 _ _ _ _ _
   | exact ih1 _ _ _ _ _ _ _ _ _ _ _ _ _ _
   | exact ih2 _ _ _ _ _ _ _ _ _ _ _ _ _ _
   | exact ih3 _ _ _ _ _ _ _ _ _ _ _ _
   | exact ih4 _ _ _ _ _ _ _ _ _ _ _
   | exact ih5 _ _ _ _ _ _ _ _ _ _ _ _ _
   | exact ih6 _ _ _ _ _ _ _ _ _ _ _ _
   | exact ih7 _ _ _ _
   | exact impl_RowTrim.mono _ _ _ _ _ _
   | exact laws_eqRow.mono _ _ _ _ _ _ _
   | exact laws_heldRow.mono _ _ _ _ _
   | exact laws_markRow.mono _ _ _ _ _
   | exact laws_szRow.mono _ _ _ _ _
   | exact laws_toRow.mono _ _ _ _
   | exact spec_RowTrim.mono _ _ _ _ _ _
   | exact LeO.none _
   | refine LeO.ite ?_ ?_
   | refine LeO.bind ?_ (fun _ => ?_)
  ·
   intro y0 y1 y2 y3 y4 y5 y6 y7 y8 y9 y10 y11 y12 y13
   unfold laws_FnExactRowTrim.j1
   repeat' first
   | (with_reducible exact ih0 _ _ _ _ _)
   | (with_reducible exact ih1 _ _ _ _ _ _ _ _ _ _ _ _ _ _)
   | (with_reducible exact ih2 _ _ _ _ _ _ _ _ _ _ _ _ _ _)
   | (with_reducible exact ih3 _ _ _ _ _ _ _ _ _ _ _ _)
   | (with_reducible exact ih4 _ _ _ _ _ _ _ _ _ _ _)
   | (with_reducible exact ih5 _ _ _ _ _ _ _ _ _ _ _ _ _)
   | (with_reducible exact ih6 _ _ _ _ _ _ _ _ _ _ _ _)
   | (with_reducible exact ih7 _ _ _ _)
   | (with_reducible exact impl_RowTrim.mono _ _ _ _ _ _)
   | (with_reducible exact laws_eqRow.mono _ _ _ _ _ _ _)
   | (with_reducible exact laws_heldRow.mono _ _ _ _ _)
   | (with_reducible exact laws_markRow.mono _ _ _ _ _)
   | (with_reducible exact laws_szRow.mono _ _ _ _ _)
   | (with_reducible exact laws_toRow.mono _ _ _ _)
   | (with_reducible exact spec_RowTrim.mono _ _ _ _ _ _)
   | (with_reducible exact LeO.refl _)
   | (with_reducible exact LeO.none _)
   | (with_reducible refine LeO.ite ?_ ?_)
   | (with_reducible refine LeO.bind ?_ (fun _ => ?_))
   | exact ih0 _ _ _ _ _
   | exact ih1 _ _ _ _ _ _ _ _ _ _ _ _ _ _
   | exact ih2 _ _ _ _ _ _ _ _ _ _ _ _ _ _
   | exact ih3 _ _ _ _ _ _ _ _ _ _ _ _
   | exact ih4 _ _ _ _ _ _ _ _ _ _ _
   | exact ih5 _ _ _ _ _ _ _ _ _ _ _ _ _
   | exact ih6 _ _ _ _ _ _ _ _ _ _ _ _
   | exact ih7 _ _ _ _
   | exact impl_RowTrim.mono _ _ _ _ _ _
   | exact laws_eqRow.mono _ _ _ _ _ _ _
   | exact laws_heldRow.mono _ _ _ _ _
   | exact laws_markRow.mono _ _ _ _ _
   | exact laws_szRow.mono _ _ _ _ _
   | exact laws_toRow.mono _ _ _ _
   | exact spec_RowTrim.mono _ _ _ _ _ _
   | exact LeO.none _
   | refine LeO.ite ?_ ?_
   | refine LeO.bind ?_ (fun _ => ?_)
  ·
   intro y0 y1 y2 y3 y4 y5 y6 y7 y8 y9 y10 y11 y12 y13
   unfold laws_FnExactRowTrim.j2
   repeat' first
   | (with_reducible exact ih0 _ _ _ _ _)
   | (with_reducible exact ih1 _ _ _ _ _ _ _ _ _ _ _ _ _ _)
   | (with_reducible exact ih2 _ _ _ _ _ _ _ _ _ _ _ _ _ _)
   | (with_reducible exact ih3 _ _ _ _ _ _ _ _ _ _ _ _)
   | (with_reducible exact ih4 _ _ _ _ _ _ _ _ _ _ _)
   | (with_reducible exact ih5 _ _ _ _ _ _ _ _ _ _ _ _ _)
   | (with_reducible exact ih6 _ _ _ _ _ _ _ _ _ _ _ _)
   | (with_reducible exact ih7 _ _ _ _)
   | (with_reducible exact impl_RowTrim.mono _ _ _ _ _ _)
   | (with_reducible exact laws_eqRow.mono _ _ _ _ _ _ _)
   | (with_reducible exact laws_heldRow.mono _ _ _ _ _)
   | (with_reducible exact laws_markRow.mono _ _ _ _ _)
   | (with_reducible exact laws_szRow.mono _ _ _ _ _)
   | (with_reducible exact laws_toRow.mono _ _ _ _)
   | (with_reducible exact spec_RowTrim.mono _ _ _ _ _ _)
   | (with_reducible exact LeO.refl _)
   | (with_reducible exact LeO.none _)
   | (with_reducible refine LeO.ite ?_ ?_)
   | (with_reducible refine LeO.bind ?_ (fun _ => ?_))
   | exact ih0 _ _ _ _ _
   | exact ih1 _ _ _ _ _ _ _ _ _ _ _ _ _ _
   | exact ih2 _ _ _ _ _ _ _ _ _ _ _ _ _ _
   | exact ih3 _ _ _ _ _ _ _ _ _ _ _ _
   | exact ih4 _ _ _ _ _ _ _ _ _ _ _
   | exact ih5 _ _ _ _ _ _ _ _ _ _ _ _ _
   | exact ih6 _ _ _ _ _ _ _ _ _ _ _ _
   | exact ih7 _ _ _ _
   | exact impl_RowTrim.mono _ _ _ _ _ _
   | exact laws_eqRow.mono _ _ _ _ _ _ _
   | exact laws_heldRow.mono _ _ _ _ _
   | exact laws_markRow.mono _ _ _ _ _
   | exact laws_szRow.mono _ _ _ _ _
   | exact laws_toRow.mono _ _ _ _
   | exact spec_RowTrim.mono _ _ _ _ _ _
   | exact LeO.none _
   | refine LeO.ite ?_ ?_
   | refine LeO.bind ?_ (fun _ => ?_)
  ·
   intro y0 y1 y2 y3 y4 y5 y6 y7 y8 y9 y10 y11
   unfold laws_FnExactRowTrim.j3
   repeat' first
   | (with_reducible exact ih0 _ _ _ _ _)
   | (with_reducible exact ih1 _ _ _ _ _ _ _ _ _ _ _ _ _ _)
   | (with_reducible exact ih2 _ _ _ _ _ _ _ _ _ _ _ _ _ _)
   | (with_reducible exact ih3 _ _ _ _ _ _ _ _ _ _ _ _)
   | (with_reducible exact ih4 _ _ _ _ _ _ _ _ _ _ _)
   | (with_reducible exact ih5 _ _ _ _ _ _ _ _ _ _ _ _ _)
   | (with_reducible exact ih6 _ _ _ _ _ _ _ _ _ _ _ _)
   | (with_reducible exact ih7 _ _ _ _)
   | (with_reducible exact impl_RowTrim.mono _ _ _ _ _ _)
   | (with_reducible exact laws_eqRow.mono _ _ _ _ _ _ _)
   | (with_reducible exact laws_heldRow.mono _ _ _ _ _)
   | (with_reducible exact laws_markRow.mono _ _ _ _ _)
   | (with_reducible exact laws_szRow.mono _ _ _ _ _)
   | (with_reducible exact laws_toRow.mono _ _ _ _)
   | (with_reducible exact spec_RowTrim.mono _ _ _ _ _ _)
   | (with_reducible exact LeO.refl _)
   | (with_reducible exact LeO.none _)
   | (with_reducible refine LeO.ite ?_ ?_)
   | (with_reducible refine LeO.bind ?_ (fun _ => ?_))
   | exact ih0 _ _ _ _ _
   | exact ih1 _ _ _ _ _ _ _ _ _ _ _ _ _ _
   | exact ih2 _ _ _ _ _ _ _ _ _ _ _ _ _ _
   | exact ih3 _ _ _ _ _ _ _ _ _ _ _ _
   | exact ih4 _ _ _ _ _ _ _ _ _ _ _
   | exact ih5 _ _ _ _ _ _ _ _ _ _ _ _ _
   | exact ih6 _ _ _ _ _ _ _ _ _ _ _ _
   | exact ih7 _ _ _ _
   | exact impl_RowTrim.mono _ _ _ _ _ _
   | exact laws_eqRow.mono _ _ _ _ _ _ _
   | exact laws_heldRow.mono _ _ _ _ _
   | exact laws_markRow.mono _ _ _ _ _
   | exact laws_szRow.mono _ _ _ _ _
   | exact laws_toRow.mono _ _ _ _
   | exact spec_RowTrim.mono _ _ _ _ _ _
   | exact LeO.none _
   | refine LeO.ite ?_ ?_
   | refine LeO.bind ?_ (fun _ => ?_)
  ·
   intro y0 y1 y2 y3 y4 y5 y6 y7 y8 y9 y10
   unfold laws_FnExactRowTrim.j4
   repeat' first
   | (with_reducible exact ih0 _ _ _ _ _)
   | (with_reducible exact ih1 _ _ _ _ _ _ _ _ _ _ _ _ _ _)
   | (with_reducible exact ih2 _ _ _ _ _ _ _ _ _ _ _ _ _ _)
   | (with_reducible exact ih3 _ _ _ _ _ _ _ _ _ _ _ _)
   | (with_reducible exact ih4 _ _ _ _ _ _ _ _ _ _ _)
   | (with_reducible exact ih5 _ _ _ _ _ _ _ _ _ _ _ _ _)
   | (with_reducible exact ih6 _ _ _ _ _ _ _ _ _ _ _ _)
   | (with_reducible exact ih7 _ _ _ _)
   | (with_reducible exact impl_RowTrim.mono _ _ _ _ _ _)
   | (with_reducible exact laws_eqRow.mono _ _ _ _ _ _ _)
   | (with_reducible exact laws_heldRow.mono _ _ _ _ _)
   | (with_reducible exact laws_markRow.mono _ _ _ _ _)
   | (with_reducible exact laws_szRow.mono _ _ _ _ _)
   | (with_reducible exact laws_toRow.mono _ _ _ _)
   | (with_reducible exact spec_RowTrim.mono _ _ _ _ _ _)
   | (with_reducible exact LeO.refl _)
   | (with_reducible exact LeO.none _)
   | (with_reducible refine LeO.ite ?_ ?_)
   | (with_reducible refine LeO.bind ?_ (fun _ => ?_))
   | exact ih0 _ _ _ _ _
   | exact ih1 _ _ _ _ _ _ _ _ _ _ _ _ _ _
   | exact ih2 _ _ _ _ _ _ _ _ _ _ _ _ _ _
   | exact ih3 _ _ _ _ _ _ _ _ _ _ _ _
   | exact ih4 _ _ _ _ _ _ _ _ _ _ _
   | exact ih5 _ _ _ _ _ _ _ _ _ _ _ _ _
   | exact ih6 _ _ _ _ _ _ _ _ _ _ _ _
   | exact ih7 _ _ _ _
   | exact impl_RowTrim.mono _ _ _ _ _ _
   | exact laws_eqRow.mono _ _ _ _ _ _ _
   | exact laws_heldRow.mono _ _ _ _ _
   | exact laws_markRow.mono _ _ _ _ _
   | exact laws_szRow.mono _ _ _ _ _
   | exact laws_toRow.mono _ _ _ _
   | exact spec_RowTrim.mono _ _ _ _ _ _
   | exact LeO.none _
   | refine LeO.ite ?_ ?_
   | refine LeO.bind ?_ (fun _ => ?_)
  ·
   intro y0 y1 y2 y3 y4 y5 y6 y7 y8 y9 y10 y11 y12
   unfold laws_FnExactRowTrim.j5
   repeat' first
   | (with_reducible exact ih0 _ _ _ _ _)
   | (with_reducible exact ih1 _ _ _ _ _ _ _ _ _ _ _ _ _ _)
   | (with_reducible exact ih2 _ _ _ _ _ _ _ _ _ _ _ _ _ _)
   | (with_reducible exact ih3 _ _ _ _ _ _ _ _ _ _ _ _)
   | (with_reducible exact ih4 _ _ _ _ _ _ _ _ _ _ _)
   | (with_reducible exact ih5 _ _ _ _ _ _ _ _ _ _ _ _ _)
   | (with_reducible exact ih6 _ _ _ _ _ _ _ _ _ _ _ _)
   | (with_reducible exact ih7 _ _ _ _)
   | (with_reducible exact impl_RowTrim.mono _ _ _ _ _ _)
   | (with_reducible exact laws_eqRow.mono _ _ _ _ _ _ _)
   | (with_reducible exact laws_heldRow.mono _ _ _ _ _)
   | (with_reducible exact laws_markRow.mono _ _ _ _ _)
   | (with_reducible exact laws_szRow.mono _ _ _ _ _)
   | (with_reducible exact laws_toRow.mono _ _ _ _)
   | (with_reducible exact spec_RowTrim.mono _ _ _ _ _ _)
   | (with_reducible exact LeO.refl _)
   | (with_reducible exact LeO.none _)
   | (with_reducible refine LeO.ite ?_ ?_)
   | (with_reducible refine LeO.bind ?_ (fun _ => ?_))
   | exact ih0 _ _ _ _ _
   | exact ih1 _ _ _ _ _ _ _ _ _ _ _ _ _ _
   | exact ih2 _ _ _ _ _ _ _ _ _ _ _ _ _ _
   | exact ih3 _ _ _ _ _ _ _ _ _ _ _ _
   | exact ih4 _ _ _ _ _ _ _ _ _ _ _
   | exact ih5 _ _ _ _ _ _ _ _ _ _ _ _ _
   | exact ih6 _ _ _ _ _ _ _ _ _ _ _ _
   | exact ih7 _ _ _ _
   | exact impl_RowTrim.mono _ _ _ _ _ _
   | exact laws_eqRow.mono _ _ _ _ _ _ _
   | exact laws_heldRow.mono _ _ _ _ _
   | exact laws_markRow.mono _ _ _ _ _
   | exact laws_szRow.mono _ _ _ _ _
   | exact laws_toRow.mono _ _ _ _
   | exact spec_RowTrim.mono _ _ _ _ _ _
   | exact LeO.none _
   | refine LeO.ite ?_ ?_
   | refine LeO.bind ?_ (fun _ => ?_)
  ·
   intro y0 y1 y2 y3 y4 y5 y6 y7 y8 y9 y10 y11
   unfold laws_FnExactRowTrim.j6
   repeat' first
   | (with_reducible exact ih0 _ _ _ _ _)
   | (with_reducible exact ih1 _ _ _ _ _ _ _ _ _ _ _ _ _ _)
   | (with_reducible exact ih2 _ _ _ _ _ _ _ _ _ _ _ _ _ _)
   | (with_reducible exact ih3 _ _ _ _ _ _ _ _ _ _ _ _)
   | (with_reducible exact ih4 _ _ _ _ _ _ _ _ _ _ _)
   | (with_reducible exact ih5 _ _ _ _ _ _ _ _ _ _ _ _ _)
   | (with_reducible exact ih6 _ _ _ _ _ _ _ _ _ _ _ _)
   | (with_reducible exact ih7 _ _ _ _)
   | (with_reducible exact impl_RowTrim.mono _ _ _ _ _ _)
   | (with_reducible exact laws_eqRow.mono _ _ _ _ _ _ _)
   | (with_reducible exact laws_heldRow.mono _ _ _ _ _)
   | (with_reducible exact laws_markRow.mono _ _ _ _ _)
   | (with_reducible exact laws_szRow.mono _ _ _ _ _)
   | (with_reducible exact laws_toRow.mono _ _ _ _)
   | (with_reducible exact spec_RowTrim.mono _ _ _ _ _ _)
   | (with_reducible exact LeO.refl _)
   | (with_reducible exact LeO.none _)
   | (with_reducible refine LeO.ite ?_ ?_)
   | (with_reducible refine LeO.bind ?_ (fun _ => ?_))
   | exact ih0 _ _ _ _ _
   | exact ih1 _ _ _ _ _ _ _ _ _ _ _ _ _ _
   | exact ih2 _ _ _ _ _ _ _ _ _ _ _ _ _ _
   | exact ih3 _ _ _ _ _ _ _ _ _ _ _ _
   | exact ih4 _ _ _ _ _ _ _ _ _ _ _
   | exact ih5 _ _ _ _ _ _ _ _ _ _ _ _ _
   | exact ih6 _ _ _ _ _ _ _ _ _ _ _ _
   | exact ih7 _ _ _ _
   | exact impl_RowTrim.mono _ _ _ _ _ _
   | exact laws_eqRow.mono _ _ _ _ _ _ _
   | exact laws_heldRow.mono _ _ _ _ _
   | exact laws_markRow.mono _ _ _ _ _
   | exact laws_szRow.mono _ _ _ _ _
   | exact laws_toRow.mono _ _ _ _
   | exact spec_RowTrim.mono _ _ _ _ _ _
   | exact LeO.none _
   | refine LeO.ite ?_ ?_
   | refine LeO.bind ?_ (fun _ => ?_)
  ·
   intro y0 y1 y2 y3
   unfold laws_FnExactRowTrim.j7
   repeat' first
   | (with_reducible exact ih0 _ _ _ _ _)
   | (with_reducible exact ih1 _ _ _ _ _ _ _ _ _ _ _ _ _ _)
   | (with_reducible exact ih2 _ _ _ _ _ _ _ _ _ _ _ _ _ _)
   | (with_reducible exact ih3 _ _ _ _ _ _ _ _ _ _ _ _)
   | (with_reducible exact ih4 _ _ _ _ _ _ _ _ _ _ _)
   | (with_reducible exact ih5 _ _ _ _ _ _ _ _ _ _ _ _ _)
   | (with_reducible exact ih6 _ _ _ _ _ _ _ _ _ _ _ _)
   | (with_reducible exact ih7 _ _ _ _)
   | (with_reducible exact impl_RowTrim.mono _ _ _ _ _ _)
   | (with_reducible exact laws_eqRow.mono _ _ _ _ _ _ _)
   | (with_reducible exact laws_heldRow.mono _ _ _ _ _)
   | (with_reducible exact laws_markRow.mono _ _ _ _ _)
   | (with_reducible exact laws_szRow.mono _ _ _ _ _)
   | (with_reducible exact laws_toRow.mono _ _ _ _)
   | (with_reducible exact spec_RowTrim.mono _ _ _ _ _ _)
   | (with_reducible exact LeO.refl _)
   | (with_reducible exact LeO.none _)
   | (with_reducible refine LeO.ite ?_ ?_)
   | (with_reducible refine LeO.bind ?_ (fun _ => ?_))
   | exact ih0 _ _ _ _ _
   | exact ih1 _ _ _ _ _ _ _ _ _ _ _ _ _ _
   | exact ih2 _ _ _ _ _ _ _ _ _ _ _ _ _ _
   | exact ih3 _ _ _ _ _ _ _ _ _ _ _ _
   | exact ih4 _ _ _ _ _ _ _ _ _ _ _
   | exact ih5 _ _ _ _ _ _ _ _ _ _ _ _ _
   | exact ih6 _ _ _ _ _ _ _ _ _ _ _ _
   | exact ih7 _ _ _ _
   | exact impl_RowTrim.mono _ _ _ _ _ _
   | exact laws_eqRow.mono _ _ _ _ _ _ _
   | exact laws_heldRow.mono _ _ _ _ _
   | exact laws_markRow.mono _ _ _ _ _
   | exact laws_szRow.mono _ _ _ _ _
   | exact laws_toRow.mono _ _ _ _
   | exact spec_RowTrim.mono _ _ _ _ _ _
   | exact LeO.none _
   | refine LeO.ite ?_ ?_
   | refine LeO.bind ?_ (fun _ => ?_)
theorem laws_FnExactRowTrim.mono : ∀ a0 a1 a2 a3 a4 k, LeO (laws_FnExactRowTrim.f k a0 a1 a2 a3 a4) (laws_FnExactRowTrim.f (k + 1) a0 a1 a2 a3 a4) := by
 intro a0 a1 a2 a3 a4 k
 obtain ⟨ih0, ih1, ih2, ih3, ih4, ih5, ih6, ih7⟩ := laws_FnExactRowTrim.mono_l k
 unfold laws_FnExactRowTrim.f
 repeat' first
  | (with_reducible exact ih0 _ _ _ _ _)
  | (with_reducible exact ih1 _ _ _ _ _ _ _ _ _ _ _ _ _ _)
  | (with_reducible exact ih2 _ _ _ _ _ _ _ _ _ _ _ _ _ _)
  | (with_reducible exact ih3 _ _ _ _ _ _ _ _ _ _ _ _)
  | (with_reducible exact ih4 _ _ _ _ _ _ _ _ _ _ _)
  | (with_reducible exact ih5 _ _ _ _ _ _ _ _ _ _ _ _ _)
  | (with_reducible exact ih6 _ _ _ _ _ _ _ _ _ _ _ _)
  | (with_reducible exact ih7 _ _ _ _)
  | (with_reducible exact impl_RowTrim.mono _ _ _ _ _ _)
  | (with_reducible exact laws_eqRow.mono _ _ _ _ _ _ _)
  | (with_reducible exact laws_heldRow.mono _ _ _ _ _)
  | (with_reducible exact laws_markRow.mono _ _ _ _ _)
  | (with_reducible exact laws_szRow.mono _ _ _ _ _)
  | (with_reducible exact laws_toRow.mono _ _ _ _)
  | (with_reducible exact spec_RowTrim.mono _ _ _ _ _ _)
  | (with_reducible exact LeO.refl _)
  | (with_reducible exact LeO.none _)
  | (with_reducible refine LeO.ite ?_ ?_)
  | (with_reducible refine LeO.bind ?_ (fun _ => ?_))
  | exact ih0 _ _ _ _ _
  | exact ih1 _ _ _ _ _ _ _ _ _ _ _ _ _ _
  | exact ih2 _ _ _ _ _ _ _ _ _ _ _ _ _ _
  | exact ih3 _ _ _ _ _ _ _ _ _ _ _ _
  | exact ih4 _ _ _ _ _ _ _ _ _ _ _
  | exact ih5 _ _ _ _ _ _ _ _ _ _ _ _ _
  | exact ih6 _ _ _ _ _ _ _ _ _ _ _ _
  | exact ih7 _ _ _ _
  | exact impl_RowTrim.mono _ _ _ _ _ _
  | exact laws_eqRow.mono _ _ _ _ _ _ _
  | exact laws_heldRow.mono _ _ _ _ _
  | exact laws_markRow.mono _ _ _ _ _
  | exact laws_szRow.mono _ _ _ _ _
  | exact laws_toRow.mono _ _ _ _
  | exact spec_RowTrim.mono _ _ _ _ _ _
  | exact LeO.none _
  | refine LeO.ite ?_ ?_
  | refine LeO.bind ?_ (fun _ => ?_)
set_option maxHeartbeats 8000000 in
set_option maxRecDepth 100000 in
theorem laws_FnExactRowTrim.calls (k : Nat) (a0_0 : Int) (a0_1 : Int) (A0_2 : Option Addr) (c0_2 : Nat) (l0_2 : List (S_LItem)) (a1 : Int) (a2 : Int) (r : Bool) (w : World) (hr0_2 : Kd.C k_LItem w A0_2 l0_2.length l0_2) (hc0_2 : l0_2.length ≤ c0_2) (h : laws_FnExactRowTrim.f k a0_0 a0_1 l0_2 a1 a2 = some r) :
 Calls Try.prog 6 #[.agg #[.int .i64 a0_0, .int .i64 a0_1, .slice A0_2 l0_2.length c0_2], .int .i64 a1, .int .i64 a2] w fun e w' => e = .returned (.bool r) ∧ Below w.heap.size w w' := by
 have hu56 := Try.underlying56
 have hu26 := Try.underlying26
 have HR0_2 := Aside0.mk hr0_2
 have HC0_2 := Aside0.mk hc0_2
 clear hr0_2 hc0_2
 have HB := Aside0.mk (Below.refl w.heap.size w)
 have H : ((laws_szRow.f k a0_0 a0_1 l0_2 1048576).bind fun t647 => (if t647 < 0 then (some true) else (laws_FnExactRowTrim.j0 k a1 a2 a0_0 a0_1 l0_2))) = some r := h
 clear h
 replace H := Option.bind_eq_some_iff.mp H
 obtain ⟨t647, A40, H⟩ := H
 replace H : (if t647 < 0 then (some true) else (laws_FnExactRowTrim.j0 k a1 a2 a0_0 a0_1 l0_2)) = some r := H
 have A4 := Aside0.mk A40
 clear A40
 have HC5 := Aside0.mk H
 clear H
 go_enter Try.func6, Try.ntmps6
 go_upto_if 19 with (first | ((with_reducible refine gate_dst (N := 3) rfl ?_); refine box_event ?hg (N := 3) ?hd (cs := #[.int .i64 a0_0, .int .i64 a0_1, .slice A0_2 l0_2.length c0_2]) (t := 56) ?hr ?_; (case hd => rfl); (case hg => rfl); (case hr => first | (go_simp; done) | (go_simp; rfl)); intro gb646 hg w6 hbox hb; have n0_ := Aside0.mk (below_step (hb_ HB.out) hb); have n1_ := Aside0.mk (hbox); have n2_ := Aside0.mk ((by rw [hg]; exact (below_size (hb_ HB.out)) : w.heap.size ≤ gb646)); have n3_ := Aside0.mk ((by rw [hg]; exact (below_size (hb_ HB.out)) : w.heap.size ≤ gb646)); clear HB; have HB := n0_; have BK646 := n1_; have GW646 := n2_; have GE646 := n3_; clear n0_ n1_ n2_ n3_; clear hb hbox hg; have hcz7_0 : w6.cell? ⟨gb646, 0, none⟩ = some (.int .i64 a0_0) := (blk_cell BK646.out 0).trans rfl; have hcz7_1 : w6.cell? ⟨gb646, 1, none⟩ = some (.int .i64 a0_1) := (blk_cell BK646.out 1).trans rfl; have hcz7_2 : w6.cell? ⟨gb646, 2, none⟩ = some (.slice A0_2 l0_2.length c0_2) := (blk_cell BK646.out 2).trans rfl; have hfz7_0 := blk_frozen BK646.out 0; have hfz7_1 := blk_frozen BK646.out 1; have hfz7_2 := blk_frozen BK646.out 2) | ((with_reducible refine gate_callee (f := 29) rfl ?_); refine goesL_ (some 17) rfl rfl Try.func29 (by kernel_rfl) rfl #[.agg #[.int .i64 a0_0, .int .i64 a0_1, .slice A0_2 l0_2.length c0_2], .int .i64 1048576] rfl sm_ ?_; (with_reducible refine (laws_szRow.calls k a0_0 a0_1 _ _ l0_2 1048576 t647 _ ?side1 ?side2 A4.out).mono ?_); (case side1 => repeat (first | exact (Kd.C_below HR0_2.out HB.out) | (with_reducible refine Kd.C_alloc ?_ _) | (with_reducible refine Kd.C_drewN ?_ _) | (with_reducible refine Kd.C_drew ?_))); (case side2 => exact HC0_2.out); rintro e w8 ⟨rfl, hb⟩; refine ⟨_, rfl, ?_⟩; have n0_ := Aside0.mk (bb_ BK646.out hb); have n1_ := Aside0.mk (below_step (hb_ HB.out) hb); clear BK646; clear HB; have BK646 := n0_; have HB := n1_; clear n0_ n1_; (try clear hb); (try clear hb2); (try clear hk); (try clear hi)))
 (try simp only [Act.put, List.setIfInBounds_toArray, List.set_cons_zero, List.set_cons_succ])
 go_cut [] (fun wc => ∃ (kq : Nat), Aside0 (laws_FnExactRowTrim.j0 kq a1 a2 a0_0 a0_1 l0_2 = some r) ∧ Aside0 (kq ≤ k) ∧ Aside0 (wc.heap[gb646]? = some (.cells #[.int .i64 a0_0, .int .i64 a0_1, (.slice A0_2 l0_2.length c0_2)] 56 (0, 0))) ∧ Aside0 (Below w.heap.size w wc))
 case first =>
  have H := HC5.out
  clear HC5
  by_cases c9 : t647 < 0
  ·
   rw [if_pos c9] at H
   have c9b0 : decide (t647 < 0) = true := decide_eq_true c9
   clear c9
   (first | rw [c9b0] | (simp only [i64_w, i32_w]; rw [c9b0]) | rw [c9b4] | rw [c9b3] | skip)
   obtain rfl := Option.some.inj H
   go_wp2
   go_ret
   exact ⟨er_, hb_ HB.out⟩
  ·
   rw [if_neg c9] at H
   have c9b0 : decide (t647 < 0) = false := decide_eq_false c9
   clear c9
   (first | rw [c9b0] | (simp only [i64_w, i32_w]; rw [c9b0]) | rw [c9b4] | rw [c9b3] | skip)
   have H' := Aside0.mk H
   clear H
   go_wp2
   go_meet
   case rel => exact ⟨_, H', ⟨by first | omega | exact Nat.le_refl _⟩, ⟨bq_ BK646.out⟩, ⟨hb_ HB.out⟩⟩
 case rest =>
  clear HC5
  (try clear c2); (try clear p2); (try clear c6); (try clear c9); (try clear c9b0); (try clear hcz7_0); (try clear hcz7_1); (try clear hcz7_2); (try clear hfz7_0); (try clear hfz7_1); (try clear hfz7_2)
  obtain ⟨kq, HA, HJ4, BK646, HB⟩ := hcut
  cases kq with
  | zero => exact absurd HA.out (by simp [laws_FnExactRowTrim.j0])
  | succ kj4 =>
   have H := HA.out
   clear HA
   simp only [laws_FnExactRowTrim.j0] at H
   replace H := Option.bind_eq_some_iff.mp H
   obtain ⟨⟨t648, t649, t650⟩, A100, H⟩ := H
   replace H : ((spec_RowTrim.f kj4 t648 t649 t650 a1 a2).bind fun bt653 => ((laws_toRow.f kj4 a0_0 a0_1 l0_2).bind fun bt659 => ((impl_RowTrim.f kj4 bt659.1 bt659.2.1 bt659.2.2 a1 a2).bind fun bt665 => ((laws_eqRow.f kj4 bt665.1 bt665.2.1 bt665.2.2 bt653.1 bt653.2.1 bt653.2.2).bind fun t671 => (if t671 = true then (laws_FnExactRowTrim.j1 kj4 a1 a2 a0_0 a0_1 l0_2 bt653.1 bt653.2.1 bt653.2.2 bt659.1 bt659.2.1 bt659.2.2 bt665.1 bt665.2.1 bt665.2.2) else (some false)))))) = some r := H
   have A10 := Aside0.mk A100
   clear A100
   replace H := Option.bind_eq_some_iff.mp H
   obtain ⟨⟨t653, t654, t655⟩, A110, H⟩ := H
   replace H : ((laws_toRow.f kj4 a0_0 a0_1 l0_2).bind fun bt659 => ((impl_RowTrim.f kj4 bt659.1 bt659.2.1 bt659.2.2 a1 a2).bind fun bt665 => ((laws_eqRow.f kj4 bt665.1 bt665.2.1 bt665.2.2 t653 t654 t655).bind fun t671 => (if t671 = true then (laws_FnExactRowTrim.j1 kj4 a1 a2 a0_0 a0_1 l0_2 t653 t654 t655 bt659.1 bt659.2.1 bt659.2.2 bt665.1 bt665.2.1 bt665.2.2) else (some false))))) = some r := H
   have A11 := Aside0.mk A110
   clear A110
   replace H := Option.bind_eq_some_iff.mp H
   obtain ⟨⟨t659, t660, t661⟩, A120, H⟩ := H
   replace H : ((impl_RowTrim.f kj4 t659 t660 t661 a1 a2).bind fun bt665 => ((laws_eqRow.f kj4 bt665.1 bt665.2.1 bt665.2.2 t653 t654 t655).bind fun t671 => (if t671 = true then (laws_FnExactRowTrim.j1 kj4 a1 a2 a0_0 a0_1 l0_2 t653 t654 t655 t659 t660 t661 bt665.1 bt665.2.1 bt665.2.2) else (some false)))) = some r := H
   have A12 := Aside0.mk A120
   clear A120
   replace H := Option.bind_eq_some_iff.mp H
   obtain ⟨⟨t665, t666, t667⟩, A130, H⟩ := H
   replace H : ((laws_eqRow.f kj4 t665 t666 t667 t653 t654 t655).bind fun t671 => (if t671 = true then (laws_FnExactRowTrim.j1 kj4 a1 a2 a0_0 a0_1 l0_2 t653 t654 t655 t659 t660 t661 t665 t666 t667) else (some false))) = some r := H
   have A13 := Aside0.mk A130
   clear A130
   replace H := Option.bind_eq_some_iff.mp H
   obtain ⟨t671, A140, H⟩ := H
   replace H : (if t671 = true then (laws_FnExactRowTrim.j1 kj4 a1 a2 a0_0 a0_1 l0_2 t653 t654 t655 t659 t660 t661 t665 t666 t667) else (some false)) = some r := H
   have A14 := Aside0.mk A140
   clear A140
   have HC15 := Aside0.mk H
   clear H
   have hcz16_0 : wc.cell? ⟨gb646, 0, none⟩ = some (.int .i64 a0_0) := (blk_cell BK646.out 0).trans rfl
   have hcz16_1 : wc.cell? ⟨gb646, 1, none⟩ = some (.int .i64 a0_1) := (blk_cell BK646.out 1).trans rfl
   have hcz16_2 : wc.cell? ⟨gb646, 2, none⟩ = some (.slice A0_2 l0_2.length c0_2) := (blk_cell BK646.out 2).trans rfl
   have hfz16_0 := blk_frozen BK646.out 0
   have hfz16_1 := blk_frozen BK646.out 1
   have hfz16_2 := blk_frozen BK646.out 2
   go_upto_if 34 with (first | ((with_reducible refine gate_callee (f := 30) rfl ?_); refine goesL_ (some 21) rfl rfl Try.func30 (by kernel_rfl) rfl #[.agg #[.int .i64 a0_0, .int .i64 a0_1, .slice A0_2 l0_2.length c0_2]] rfl sm_ ?_; (with_reducible refine (laws_toRow.calls kj4 a0_0 a0_1 _ _ l0_2 t648 t649 t650 _ ?side1 ?side2 A10.out).mono ?_); (case side1 => repeat (first | exact (Kd.C_below HR0_2.out HB.out) | (with_reducible refine Kd.C_alloc ?_ _) | (with_reducible refine Kd.C_drewN ?_ _) | (with_reducible refine Kd.C_drew ?_))); (case side2 => exact HC0_2.out); rintro e w17 ⟨v651, rfl, ho0, hb⟩; refine ⟨_, rfl, ?_⟩; have n0_ := Aside0.mk (Kd.R_lower ho0 (below_size (hb_ HB.out))); have n1_ := Aside0.mk (bb_ BK646.out hb); have n2_ := Aside0.mk (below_step (hb_ HB.out) hb); clear BK646; clear HB; have HO652 := n0_; have BK646 := n1_; have HB := n2_; clear n0_ n1_ n2_; (try clear hb); (try clear hb2); (try clear hk); (try clear hi); (try clear ho0); obtain ⟨Ao18, co18, eo18⟩ := Kd.R_slice HO652.out; subst eo18) | ((with_reducible refine gate_callee (f := 13) rfl ?_); refine goesL_ (some 24) rfl rfl Try.func13 (by kernel_rfl) rfl #[.agg #[.int .i64 t648, .int .i64 t649, .slice Ao18 t650.length co18], .int .i64 a1, .int .i64 a2] rfl sm_ ?_; (with_reducible refine (spec_RowTrim.calls kj4 t648 t649 _ _ t650 a1 a2 t653 t654 t655 _ ?side1 ?side2 A11.out).mono ?_); (case side1 => repeat (first | exact (Kd.R_reads' HO652.out).2.2 | (with_reducible refine Kd.C_alloc ?_ _) | (with_reducible refine Kd.C_drewN ?_ _) | (with_reducible refine Kd.C_drew ?_))); (case side2 => exact (Kd.R_reads' HO652.out).2.1); rintro e w19 ⟨v656, rfl, ho0, hb⟩; refine ⟨_, rfl, ?_⟩; have n0_ := Aside0.mk (Kd.R_elder' (rq_ HO652.out) (Kd.R_base ho0) hb); have n1_ := Aside0.mk (Kd.R_lower (Kd.R_new' ho0 (Kd.R_lt (rq_ HO652.out))) (below_size (hb_ HB.out))); have n2_ := Aside0.mk (bb_ BK646.out hb); have n3_ := Aside0.mk (below_step (hb_ HB.out) hb); clear HO652; clear BK646; clear HB; have HO652 := n0_; have HO657 := n1_; have BK646 := n2_; have HB := n3_; clear n0_ n1_ n2_ n3_; (try clear hb); (try clear hb2); (try clear hk); (try clear hi); (try clear ho0)) | ((with_reducible refine gate_dst (N := 8) rfl ?_); refine box_event ?hg (N := 8) ?hd (cs := #[.int .i64 0, .int .i64 0, .slice none 0 0]) (t := 26) ?hr ?_; (case hd => rfl); (case hg => rfl); (case hr => first | (go_simp; done) | (go_simp; rfl)); intro gb658 hg w20 hbox hb; have n0_ := Aside0.mk (Kd.R_below (rq_ HO652.out) hb); have n1_ := Aside0.mk (Kd.R_below (rq_ HO657.out) hb); have n2_ := Aside0.mk (bb_ BK646.out hb); have n3_ := Aside0.mk (below_step (hb_ HB.out) hb); have n4_ := Aside0.mk (hbox); have n5_ := Aside0.mk ((by rw [hg]; exact (below_size (hb_ HB.out)) : w.heap.size ≤ gb658)); have n6_ := Aside0.mk ((by rw [hg]; exact (below_size (hb_ HB.out)) : w.heap.size ≤ gb658)); have n7_ := Aside0.mk ((nl_ BK646.out hg : gb646 ≠ gb658)); have n8_ := Aside0.mk ((ng_ BK646.out hg : gb658 ≠ gb646)); clear HO652; clear HO657; clear BK646; clear HB; have HO652 := n0_; have HO657 := n1_; have BK646 := n2_; have HB := n3_; have BK658 := n4_; have GW658 := n5_; have GE658 := n6_; have NB646_658 := n7_; have NB658_646 := n8_; clear n0_ n1_ n2_ n3_ n4_ n5_ n6_ n7_ n8_; clear hb hbox hg; have hnb21 := NB658_646.out; have hnc21 := NB646_658.out; have hcz22_0 : w20.cell? ⟨gb658, 0, none⟩ = some (.int .i64 0) := (blk_cell BK658.out 0).trans rfl; have hcz22_1 : w20.cell? ⟨gb658, 1, none⟩ = some (.int .i64 0) := (blk_cell BK658.out 1).trans rfl; have hcz22_2 : w20.cell? ⟨gb658, 2, none⟩ = some (.slice none 0 0) := (blk_cell BK658.out 2).trans rfl; have hfz22_0 := blk_frozen BK658.out 0; have hfz22_1 := blk_frozen BK658.out 1; have hfz22_2 := blk_frozen BK658.out 2; obtain ⟨Ao23, co23, eo23⟩ := Kd.R_slice HO657.out; subst eo23; have hcz24_0 : w20.cell? ⟨gb646, 0, none⟩ = some (.int .i64 a0_0) := (blk_cell BK646.out 0).trans rfl; have hcz24_1 : w20.cell? ⟨gb646, 1, none⟩ = some (.int .i64 a0_1) := (blk_cell BK646.out 1).trans rfl; have hcz24_2 : w20.cell? ⟨gb646, 2, none⟩ = some (.slice A0_2 l0_2.length c0_2) := (blk_cell BK646.out 2).trans rfl; have hfz24_0 := blk_frozen BK646.out 0; have hfz24_1 := blk_frozen BK646.out 1; have hfz24_2 := blk_frozen BK646.out 2) | ((with_reducible refine gate_callee (f := 30) rfl ?_); refine goesL_ (some 26) rfl rfl Try.func30 (by kernel_rfl) rfl #[.agg #[.int .i64 a0_0, .int .i64 a0_1, .slice A0_2 l0_2.length c0_2]] rfl sm_ ?_; (with_reducible refine (laws_toRow.calls kj4 a0_0 a0_1 _ _ l0_2 t659 t660 t661 _ ?side1 ?side2 A12.out).mono ?_); (case side1 => exact Kd.C_below HR0_2.out (hb_ HB.out)); (case side2 => exact HC0_2.out); rintro e w25 ⟨v662, rfl, ho0, hb⟩; refine ⟨_, rfl, ?_⟩; have n0_ := Aside0.mk (Kd.R_elder' (rk_ HO652.out BK658.out) (Kd.R_base ho0) hb); have n1_ := Aside0.mk (Kd.R_elder' (rk_ HO657.out BK658.out) (Kd.R_base ho0) hb); have n2_ := Aside0.mk (Kd.R_lower (Kd.R_new' (Kd.R_new' ho0 (Kd.R_lt (rk_ HO652.out BK658.out))) (Kd.R_lt (rk_ HO657.out BK658.out))) (below_size (hb_ HB.out))); have n3_ := Aside0.mk (blk_below (g := gb646) (o := .cells #[.int .i64 a0_0, .int .i64 a0_1, .slice A0_2 l0_2.length c0_2] 56 (0, 0)) (bf_ NB646_658.out BK646.out) hb); have n4_ := Aside0.mk (blk_below (g := gb658) (o := .cells #[.int .i64 t653, .int .i64 t654, .slice Ao23 t655.length co23] 26 (0, 0)) (bp_ BK658.out) hb); have n5_ := Aside0.mk (below_step (hb_ HB.out) hb); clear HO652; clear HO657; clear BK646; clear BK658; clear HB; have HO652 := n0_; have HO657 := n1_; have HO663 := n2_; have BK646 := n3_; have BK658 := n4_; have HB := n5_; clear n0_ n1_ n2_ n3_ n4_ n5_; (try clear hb); (try clear hb2); (try clear hk); (try clear hi); (try clear ho0)) | ((with_reducible refine gate_dst (N := 9) rfl ?_); refine box_event ?hg (N := 9) ?hd (cs := #[.int .i64 0, .int .i64 0, .slice none 0 0]) (t := 26) ?hr ?_; (case hd => rfl); (case hg => rfl); (case hr => first | (go_simp; done) | (go_simp; rfl)); intro gb664 hg w26 hbox hb; have n0_ := Aside0.mk (Kd.R_below (rq_ HO652.out) hb); have n1_ := Aside0.mk (Kd.R_below (rq_ HO657.out) hb); have n2_ := Aside0.mk (Kd.R_below (rq_ HO663.out) hb); have n3_ := Aside0.mk (bb_ BK646.out hb); have n4_ := Aside0.mk (bb_ BK658.out hb); have n5_ := Aside0.mk (below_step (hb_ HB.out) hb); have n6_ := Aside0.mk (hbox); have n7_ := Aside0.mk ((by rw [hg]; exact (below_size (hb_ HB.out)) : w.heap.size ≤ gb664)); have n8_ := Aside0.mk ((by rw [hg]; exact (below_size (hb_ HB.out)) : w.heap.size ≤ gb664)); have n9_ := Aside0.mk ((nl_ BK646.out hg : gb646 ≠ gb664)); have n10_ := Aside0.mk ((ng_ BK646.out hg : gb664 ≠ gb646)); have n11_ := Aside0.mk ((nl_ BK658.out hg : gb658 ≠ gb664)); have n12_ := Aside0.mk ((ng_ BK658.out hg : gb664 ≠ gb658)); clear HO652; clear HO657; clear HO663; clear BK646; clear BK658; clear HB; have HO652 := n0_; have HO657 := n1_; have HO663 := n2_; have BK646 := n3_; have BK658 := n4_; have HB := n5_; have BK664 := n6_; have GW664 := n7_; have GE664 := n8_; have NB646_664 := n9_; have NB664_646 := n10_; have NB658_664 := n11_; have NB664_658 := n12_; clear n0_ n1_ n2_ n3_ n4_ n5_ n6_ n7_ n8_ n9_ n10_ n11_ n12_; clear hb hbox hg; have hnb27 := NB664_646.out; have hnc27 := NB646_664.out; have hnb28 := NB664_658.out; have hnc28 := NB658_664.out; have hcz29_0 : w26.cell? ⟨gb664, 0, none⟩ = some (.int .i64 0) := (blk_cell BK664.out 0).trans rfl; have hcz29_1 : w26.cell? ⟨gb664, 1, none⟩ = some (.int .i64 0) := (blk_cell BK664.out 1).trans rfl; have hcz29_2 : w26.cell? ⟨gb664, 2, none⟩ = some (.slice none 0 0) := (blk_cell BK664.out 2).trans rfl; have hfz29_0 := blk_frozen BK664.out 0; have hfz29_1 := blk_frozen BK664.out 1; have hfz29_2 := blk_frozen BK664.out 2; obtain ⟨Ao30, co30, eo30⟩ := Kd.R_slice HO663.out; subst eo30) | ((with_reducible refine gate_callee (f := 11) rfl ?_); refine goesL_ (some 30) rfl rfl Try.func11 (by kernel_rfl) rfl #[.agg #[.int .i64 t659, .int .i64 t660, .slice Ao30 t661.length co30], .int .i64 a1, .int .i64 a2] rfl sm_ ?_; (with_reducible refine (impl_RowTrim.calls kj4 t659 t660 _ _ t661 a1 a2 t665 t666 t667 _ ?side1 ?side2 A13.out).mono ?_); (case side1 => refine (Kd.R_reads' (e := 33) (base := w.heap.size) (ok := fun k_ => ((True ∧ some k_ ≠ (.slice Ao18 t650.length co18 : Value).ownBlock) ∧ some k_ ≠ (.slice Ao23 t655.length co23 : Value).ownBlock)) (n := t661.length) (c := co30) ?_).2.2; exact (rk_ HO663.out BK664.out)); (case side2 => exact (Kd.R_reads' HO663.out).2.1); rintro e w31 ⟨v668, rfl, ho0, hb⟩; refine ⟨_, rfl, ?_⟩; have n0_ := Aside0.mk (Kd.R_elder' (rk_ HO652.out BK664.out) (Kd.R_base ho0) hb); have n1_ := Aside0.mk (Kd.R_elder' (rk_ HO657.out BK664.out) (Kd.R_base ho0) hb); have n2_ := Aside0.mk (Kd.R_elder' (rk_ HO663.out BK664.out) (Kd.R_base ho0) hb); have n3_ := Aside0.mk (Kd.R_lower (Kd.R_new' (Kd.R_new' (Kd.R_new' ho0 (Kd.R_lt (rk_ HO652.out BK664.out))) (Kd.R_lt (rk_ HO657.out BK664.out))) (Kd.R_lt (rk_ HO663.out BK664.out))) (below_size (hb_ HB.out))); have n4_ := Aside0.mk (blk_below (g := gb646) (o := .cells #[.int .i64 a0_0, .int .i64 a0_1, .slice A0_2 l0_2.length c0_2] 56 (0, 0)) (bf_ NB646_664.out BK646.out) hb); have n5_ := Aside0.mk (blk_below (g := gb658) (o := .cells #[.int .i64 t653, .int .i64 t654, .slice Ao23 t655.length co23] 26 (0, 0)) (bf_ NB658_664.out BK658.out) hb); have n6_ := Aside0.mk (blk_below (g := gb664) (o := .cells #[.int .i64 t659, .int .i64 t660, .slice Ao30 t661.length co30] 26 (0, 0)) (bp_ BK664.out) hb); have n7_ := Aside0.mk (below_step (hb_ HB.out) hb); clear HO652; clear HO657; clear HO663; clear BK646; clear BK658; clear BK664; clear HB; have HO652 := n0_; have HO657 := n1_; have HO663 := n2_; have HO669 := n3_; have BK646 := n4_; have BK658 := n5_; have BK664 := n6_; have HB := n7_; clear n0_ n1_ n2_ n3_ n4_ n5_ n6_ n7_; (try clear hb); (try clear hb2); (try clear hk); (try clear hi); (try clear ho0)) | ((with_reducible refine gate_dst (N := 10) rfl ?_); refine box_event ?hg (N := 10) ?hd (cs := #[.int .i64 0, .int .i64 0, .slice none 0 0]) (t := 26) ?hr ?_; (case hd => rfl); (case hg => rfl); (case hr => first | (go_simp; done) | (go_simp; rfl)); intro gb670 hg w32 hbox hb; have n0_ := Aside0.mk (Kd.R_below (rq_ HO652.out) hb); have n1_ := Aside0.mk (Kd.R_below (rq_ HO657.out) hb); have n2_ := Aside0.mk (Kd.R_below (rq_ HO663.out) hb); have n3_ := Aside0.mk (Kd.R_below (rq_ HO669.out) hb); have n4_ := Aside0.mk (bb_ BK646.out hb); have n5_ := Aside0.mk (bb_ BK658.out hb); have n6_ := Aside0.mk (bb_ BK664.out hb); have n7_ := Aside0.mk (below_step (hb_ HB.out) hb); have n8_ := Aside0.mk (hbox); have n9_ := Aside0.mk ((by rw [hg]; exact (below_size (hb_ HB.out)) : w.heap.size ≤ gb670)); have n10_ := Aside0.mk ((by rw [hg]; exact (below_size (hb_ HB.out)) : w.heap.size ≤ gb670)); have n11_ := Aside0.mk ((nl_ BK646.out hg : gb646 ≠ gb670)); have n12_ := Aside0.mk ((ng_ BK646.out hg : gb670 ≠ gb646)); have n13_ := Aside0.mk ((nl_ BK658.out hg : gb658 ≠ gb670)); have n14_ := Aside0.mk ((ng_ BK658.out hg : gb670 ≠ gb658)); have n15_ := Aside0.mk ((nl_ BK664.out hg : gb664 ≠ gb670)); have n16_ := Aside0.mk ((ng_ BK664.out hg : gb670 ≠ gb664)); clear HO652; clear HO657; clear HO663; clear HO669; clear BK646; clear BK658; clear BK664; clear HB; have HO652 := n0_; have HO657 := n1_; have HO663 := n2_; have HO669 := n3_; have BK646 := n4_; have BK658 := n5_; have BK664 := n6_; have HB := n7_; have BK670 := n8_; have GW670 := n9_; have GE670 := n10_; have NB646_670 := n11_; have NB670_646 := n12_; have NB658_670 := n13_; have NB670_658 := n14_; have NB664_670 := n15_; have NB670_664 := n16_; clear n0_ n1_ n2_ n3_ n4_ n5_ n6_ n7_ n8_ n9_ n10_ n11_ n12_ n13_ n14_ n15_ n16_; clear hb hbox hg; have hnb33 := NB670_646.out; have hnc33 := NB646_670.out; have hnb34 := NB670_658.out; have hnc34 := NB658_670.out; have hnb35 := NB670_664.out; have hnc35 := NB664_670.out; have hcz36_0 : w32.cell? ⟨gb670, 0, none⟩ = some (.int .i64 0) := (blk_cell BK670.out 0).trans rfl; have hcz36_1 : w32.cell? ⟨gb670, 1, none⟩ = some (.int .i64 0) := (blk_cell BK670.out 1).trans rfl; have hcz36_2 : w32.cell? ⟨gb670, 2, none⟩ = some (.slice none 0 0) := (blk_cell BK670.out 2).trans rfl; have hfz36_0 := blk_frozen BK670.out 0; have hfz36_1 := blk_frozen BK670.out 1; have hfz36_2 := blk_frozen BK670.out 2; obtain ⟨Ao37, co37, eo37⟩ := Kd.R_slice HO669.out; subst eo37; have hcz38_0 : w32.cell? ⟨gb658, 0, none⟩ = some (.int .i64 t653) := (blk_cell BK658.out 0).trans rfl; have hcz38_1 : w32.cell? ⟨gb658, 1, none⟩ = some (.int .i64 t654) := (blk_cell BK658.out 1).trans rfl; have hcz38_2 : w32.cell? ⟨gb658, 2, none⟩ = some (.slice Ao23 t655.length co23) := (blk_cell BK658.out 2).trans rfl; have hfz38_0 := blk_frozen BK658.out 0; have hfz38_1 := blk_frozen BK658.out 1; have hfz38_2 := blk_frozen BK658.out 2) | ((with_reducible refine gate_callee (f := 31) rfl ?_); refine goesL_ (some 33) rfl rfl Try.func31 (by kernel_rfl) rfl #[.agg #[.int .i64 t665, .int .i64 t666, .slice Ao37 t667.length co37], .agg #[.int .i64 t653, .int .i64 t654, .slice Ao23 t655.length co23]] rfl sm_ ?_; (with_reducible refine (laws_eqRow.calls kj4 t665 t666 _ _ t667 t653 t654 _ _ t655 t671 _ ?side1 ?side2 ?side3 ?side4 A14.out).mono ?_); (case side1 => refine (Kd.R_reads' (e := 33) (base := w.heap.size) (ok := fun k_ => (((True ∧ some k_ ≠ (.slice Ao18 t650.length co18 : Value).ownBlock) ∧ some k_ ≠ (.slice Ao23 t655.length co23 : Value).ownBlock) ∧ some k_ ≠ (.slice Ao30 t661.length co30 : Value).ownBlock)) (n := t667.length) (c := co37) ?_).2.2; exact (rk_ HO669.out BK670.out)); (case side2 => exact (Kd.R_reads' HO669.out).2.1); (case side3 => refine (Kd.R_reads' (e := 33) (base := w.heap.size) (ok := fun k_ => (((True ∧ some k_ ≠ (.slice Ao18 t650.length co18 : Value).ownBlock) ∧ some k_ ≠ (.slice Ao30 t661.length co30 : Value).ownBlock) ∧ some k_ ≠ (.slice Ao37 t667.length co37 : Value).ownBlock)) (n := t655.length) (c := co23) ?_).2.2; exact (rk_ HO657.out BK670.out)); (case side4 => exact (Kd.R_reads' HO657.out).2.1); rintro e w39 ⟨rfl, hb⟩; refine ⟨_, rfl, ?_⟩; have n0_ := Aside0.mk (Kd.R_below (rk_ HO652.out BK670.out) hb); have n1_ := Aside0.mk (Kd.R_below (rk_ HO657.out BK670.out) hb); have n2_ := Aside0.mk (Kd.R_below (rk_ HO663.out BK670.out) hb); have n3_ := Aside0.mk (Kd.R_below (rk_ HO669.out BK670.out) hb); have n4_ := Aside0.mk (blk_below (g := gb646) (o := .cells #[.int .i64 a0_0, .int .i64 a0_1, .slice A0_2 l0_2.length c0_2] 56 (0, 0)) (bf_ NB646_670.out BK646.out) hb); have n5_ := Aside0.mk (blk_below (g := gb658) (o := .cells #[.int .i64 t653, .int .i64 t654, .slice Ao23 t655.length co23] 26 (0, 0)) (bf_ NB658_670.out BK658.out) hb); have n6_ := Aside0.mk (blk_below (g := gb664) (o := .cells #[.int .i64 t659, .int .i64 t660, .slice Ao30 t661.length co30] 26 (0, 0)) (bf_ NB664_670.out BK664.out) hb); have n7_ := Aside0.mk (blk_below (g := gb670) (o := .cells #[.int .i64 t665, .int .i64 t666, .slice Ao37 t667.length co37] 26 (0, 0)) (bp_ BK670.out) hb); have n8_ := Aside0.mk (below_step (hb_ HB.out) hb); clear HO652; clear HO657; clear HO663; clear HO669; clear BK646; clear BK658; clear BK664; clear BK670; clear HB; have HO652 := n0_; have HO657 := n1_; have HO663 := n2_; have HO669 := n3_; have BK646 := n4_; have BK658 := n5_; have BK664 := n6_; have BK670 := n7_; have HB := n8_; clear n0_ n1_ n2_ n3_ n4_ n5_ n6_ n7_ n8_; (try clear hb); (try clear hb2); (try clear hk); (try clear hi)))
   (try simp only [Act.put, List.setIfInBounds_toArray, List.set_cons_zero, List.set_cons_succ])
   go_cut [] (fun wc => ∃ (kq : Nat), Aside0 (laws_FnExactRowTrim.j1 kq a1 a2 a0_0 a0_1 l0_2 t653 t654 t655 t659 t660 t661 t665 t666 t667 = some r) ∧ Aside0 (kq ≤ kj4) ∧ Aside0 (Kd.R k_Item 33 wc w.heap.size (fun k_ => some k_ ≠ ((.slice Ao30 t661.length co30) : Value).ownBlock ∧ some k_ ≠ ((.slice Ao37 t667.length co37) : Value).ownBlock) (.slice Ao23 t655.length co23) t655) ∧ Aside0 (Kd.R k_Item 33 wc w.heap.size (fun k_ => some k_ ≠ ((.slice Ao23 t655.length co23) : Value).ownBlock ∧ some k_ ≠ ((.slice Ao37 t667.length co37) : Value).ownBlock) (.slice Ao30 t661.length co30) t661) ∧ Aside0 (Kd.R k_Item 33 wc w.heap.size (fun k_ => some k_ ≠ ((.slice Ao23 t655.length co23) : Value).ownBlock ∧ some k_ ≠ ((.slice Ao30 t661.length co30) : Value).ownBlock) (.slice Ao37 t667.length co37) t667) ∧ Aside0 (wc.heap[gb646]? = some (.cells #[.int .i64 a0_0, .int .i64 a0_1, (.slice A0_2 l0_2.length c0_2)] 56 (0, 0))) ∧ Aside0 (wc.heap[gb658]? = some (.cells #[.int .i64 t653, .int .i64 t654, (.slice Ao23 t655.length co23)] 26 (0, 0))) ∧ Aside0 (wc.heap[gb664]? = some (.cells #[.int .i64 t659, .int .i64 t660, (.slice Ao30 t661.length co30)] 26 (0, 0))) ∧ Aside0 (wc.heap[gb670]? = some (.cells #[.int .i64 t665, .int .i64 t666, (.slice Ao37 t667.length co37)] 26 (0, 0))) ∧ Aside0 (Below w.heap.size w wc))
   case first =>
    have H := HC15.out
    clear HC15
    by_cases c40 : t671 = true
    ·
     subst c40
     have H1 : (laws_FnExactRowTrim.j1 kj4 a1 a2 a0_0 a0_1 l0_2 t653 t654 t655 t659 t660 t661 t665 t666 t667) = some r := by rw [if_pos rfl] at H; exact H
     clear H
     have H := H1
     clear H1
     have H' := Aside0.mk H
     clear H
     go_wp2
     go_meet
     case rel => exact ⟨_, H', ⟨by have := HJ4.out; first | omega | exact Nat.le_refl _⟩, ⟨rm_ HO657.out⟩, ⟨rm_ HO663.out⟩, ⟨rm_ HO669.out⟩, ⟨bq_ BK646.out⟩, ⟨bq_ BK658.out⟩, ⟨bq_ BK664.out⟩, ⟨bq_ BK670.out⟩, ⟨hb_ HB.out⟩⟩
    ·
     replace c40 := Bool.eq_false_iff.mpr c40
     subst c40
     have H1 : (some false) = some r := by rw [if_neg (show ¬ (false = true) by decide)] at H; exact H
     clear H
     have H := H1
     clear H1
     obtain rfl := Option.some.inj H
     go_wp2
     go_ret
     exact ⟨er_, hb_ HB.out⟩
   case rest =>
    clear HC15
    (try clear c1); (try clear c2); (try clear p2); (try clear c3); (try clear c4); (try clear c6); (try clear c9); (try clear c9b0); (try clear c11); (try clear c13); (try clear c21); (try clear c27); (try clear c28); (try clear c29); (try clear c30); (try clear c31); (try clear c33); (try clear c34); (try clear c35); (try clear c40); (try clear hcz16_0); (try clear hcz16_1); (try clear hcz16_2); (try clear hcz22_0); (try clear hcz22_1); (try clear hcz22_2); (try clear hcz24_0); (try clear hcz24_1); (try clear hcz24_2); (try clear hcz29_0); (try clear hcz29_1); (try clear hcz29_2); (try clear hcz36_0); (try clear hcz36_1); (try clear hcz36_2); (try clear hcz38_0); (try clear hcz38_1); (try clear hcz38_2); (try clear hcz7_0); (try clear hcz7_1); (try clear hcz7_2); (try clear hfz16_0); (try clear hfz16_1); (try clear hfz16_2); (try clear hfz22_0); (try clear hfz22_1); (try clear hfz22_2); (try clear hfz24_0); (try clear hfz24_1); (try clear hfz24_2); (try clear hfz29_0); (try clear hfz29_1); (try clear hfz29_2); (try clear hfz36_0); (try clear hfz36_1); (try clear hfz36_2); (try clear hfz38_0); (try clear hfz38_1); (try clear hfz38_2); (try clear hfz7_0); (try clear hfz7_1); (try clear hfz7_2); (try clear p2)
    obtain ⟨kq, HA, HJ14, HO_659002, HO_665002, HO_671002, BK646, BK658, BK664, BK670, HB⟩ := hcut
    cases kq with
    | zero => exact absurd HA.out (by simp [laws_FnExactRowTrim.j1])
    | succ kj14 =>
     have H := HA.out
     clear HA
     simp only [laws_FnExactRowTrim.j1] at H
     replace H := Option.bind_eq_some_iff.mp H
     obtain ⟨⟨t672, t673, t674⟩, A410, H⟩ := H
     replace H : ((laws_eqRow.f kj14 t659 t660 t661 t672 t673 t674).bind fun t677 => (if t677 = true then (laws_FnExactRowTrim.j2 kj14 a1 a2 a0_0 a0_1 l0_2 t653 t654 t655 t659 t660 t661 t665 t666 t667) else (some false))) = some r := H
     have A41 := Aside0.mk A410
     clear A410
     replace H := Option.bind_eq_some_iff.mp H
     obtain ⟨t677, A420, H⟩ := H
     replace H : (if t677 = true then (laws_FnExactRowTrim.j2 kj14 a1 a2 a0_0 a0_1 l0_2 t653 t654 t655 t659 t660 t661 t665 t666 t667) else (some false)) = some r := H
     have A42 := Aside0.mk A420
     clear A420
     have HC43 := Aside0.mk H
     clear H
     try go_wp2
     have n0_ := Aside0.mk (Kd.R_drew HO_659002.out)
     have n1_ := Aside0.mk (Kd.R_drew HO_665002.out)
     have n2_ := Aside0.mk (Kd.R_drew HO_671002.out)
     have n3_ := Aside0.mk (blk_drew BK646.out)
     have n4_ := Aside0.mk (blk_drew BK658.out)
     have n5_ := Aside0.mk (blk_drew BK664.out)
     have n6_ := Aside0.mk (blk_drew BK670.out)
     have n7_ := Aside0.mk (below_drew1 HB.out)
     clear HO_659002; clear HO_665002
     clear HO_671002; clear BK646
     clear BK658; clear BK664
     clear BK670; clear HB
     have HO_659002 := n0_
     have HO_665002 := n1_
     have HO_671002 := n2_
     have BK646 := n3_
     have BK658 := n4_
     have BK664 := n5_
     have BK670 := n6_
     have HB := n7_
     clear n0_ n1_ n2_ n3_ n4_ n5_ n6_ n7_
     refine start_ (n := 5) (S := fun w' => w'.cell? ⟨gb664, 0, none⟩ = some (.int .i64 t659) ∧ w'.cell? ⟨gb664, 1, none⟩ = some (.int .i64 t660) ∧ w'.cell? ⟨gb664, 2, none⟩ = some (.slice Ao30 t661.length co30) ∧ w'.cell? ⟨gb646, 0, none⟩ = some (.int .i64 a0_0) ∧ w'.cell? ⟨gb646, 1, none⟩ = some (.int .i64 a0_1) ∧ w'.cell? ⟨gb646, 2, none⟩ = some (.slice A0_2 l0_2.length c0_2)) (ds := []) #[false, false, false, false, false] (by kernel_rfl) rfl rfl ⟨(blk_cell BK664.out 0).trans rfl, (blk_cell BK664.out 1).trans rfl, (blk_cell BK664.out 2).trans rfl, (blk_cell BK646.out 0).trans rfl, (blk_cell BK646.out 1).trans rfl, (blk_cell BK646.out 2).trans rfl⟩ (fun hHeld => ?_)
     generalize wc.drew = w44 at HO_659002 HO_665002 HO_671002 BK646 BK658 BK664 BK670 HB hHeld ⊢
     refine take_ (i := 0) (N := some 35) (v := ?_) (a' := ?_) #[true, false, false, false, false] rfl rfl (by kernel_rfl) (fun _ _ _ h => h) (Or.inl ⟨by rfl, ?_⟩) hHeld ?_ ?_
     rotate_left
     ·
      rintro w' ⟨s0, s1, s2, s3, s4, s5⟩
      go_simp
      with_reducible rfl
     rotate_left; (focus simp only [Act.put, List.setIfInBounds_toArray, List.set_cons_zero, List.set_cons_succ, i64_w, i32_w]; rfl)
     refine take_ (i := 1) (N := some 36) (v := ?_) (a' := ?_) #[true, true, false, false, false] rfl rfl (by kernel_rfl) (fun _ _ _ h => h) (Or.inl ⟨by rfl, ?_⟩) hHeld ?_ ?_
     rotate_left
     ·
      rintro w' ⟨s0, s1, s2, s3, s4, s5⟩
      go_simp
      with_reducible rfl
     rotate_left; (focus simp only [Act.put, List.setIfInBounds_toArray, List.set_cons_zero, List.set_cons_succ, i64_w, i32_w]; rfl)
     refine one_ (i := 2) (N := some 37) #[true, true, true, false, false] rfl rfl (by kernel_rfl) (by decide) (fun K hK => ?_)
     refine goes_ Try.func30 (by kernel_rfl) rfl #[.agg #[.int .i64 a0_0, .int .i64 a0_1, .slice A0_2 l0_2.length c0_2]] (by rfl) rfl rfl sm_ ?_
     with_reducible refine (laws_toRow.calls kj14 a0_0 a0_1 _ _ l0_2 t672 t673 t674 _ ?side1 ?side2 A41.out).mono ?_
     (case side1 => repeat (first | exact (Kd.C_below HR0_2.out HB.out) | (with_reducible refine Kd.C_alloc ?_ _) | (with_reducible refine Kd.C_drewN ?_ _) | (with_reducible refine Kd.C_drew ?_)))
     (case side2 => exact HC0_2.out)
     rintro e w45 ⟨v675, rfl, ho0, hb⟩
     refine ⟨_, rfl, ?_⟩
     have n0_ := Aside0.mk (Kd.R_elder' (rq_ HO_659002.out) (Kd.R_base ho0) hb)
     have n1_ := Aside0.mk (Kd.R_elder' (rq_ HO_665002.out) (Kd.R_base ho0) hb)
     have n2_ := Aside0.mk (Kd.R_elder' (rq_ HO_671002.out) (Kd.R_base ho0) hb)
     have n3_ := Aside0.mk (Kd.R_lower (Kd.R_new' (Kd.R_new' (Kd.R_new' ho0 (Kd.R_lt (rq_ HO_659002.out))) (Kd.R_lt (rq_ HO_665002.out))) (Kd.R_lt (rq_ HO_671002.out))) (below_size (hb_ HB.out)))
     have n4_ := Aside0.mk (bb_ BK646.out hb)
     have n5_ := Aside0.mk (bb_ BK658.out hb)
     have n6_ := Aside0.mk (bb_ BK664.out hb)
     have n7_ := Aside0.mk (bb_ BK670.out hb)
     have n8_ := Aside0.mk (below_step (hb_ HB.out) hb)
     clear HO_659002; clear HO_665002
     clear HO_671002; clear BK646
     clear BK658; clear BK664
     clear BK670; clear HB
     have HO_659002 := n0_
     have HO_665002 := n1_
     have HO_671002 := n2_
     have HO676 := n3_
     have BK646 := n4_
     have BK658 := n5_
     have BK664 := n6_
     have BK670 := n7_
     have HB := n8_
     clear n0_ n1_ n2_ n3_ n4_ n5_ n6_ n7_ n8_
     (try clear hb)
     (try clear hb2)
     (try clear hk)
     (try clear hi)
     (try clear ho0)
     obtain ⟨Ao46, co46, eo46⟩ := Kd.R_slice HO676.out
     (first | subst eo46 | (injection eo46 with f1_ f2_ f3_; have f4_ := f1_.symm; have f5_ := f3_.symm; clear f1_ f2_ f3_; subst f4_; subst f5_))
     refine hK.out _ _ ⟨(blk_cell BK664.out 0).trans rfl, (blk_cell BK664.out 1).trans rfl, (blk_cell BK664.out 2).trans rfl, (blk_cell BK646.out 0).trans rfl, (blk_cell BK646.out 1).trans rfl, (blk_cell BK646.out 2).trans rfl⟩ (fun hHeld => ?_)
     clear hK K
     refine norm_ (a' := ?_) ?_ ?_
     rotate_left
     ·
      show Act.put _ (some 37) _ = _
      simp only [Act.put, List.setIfInBounds_toArray, List.set_cons_zero, List.set_cons_succ, i64_w, i32_w]
      rfl
     refine one_ (i := 3) (N := some 38) #[true, true, true, true, false] rfl rfl (by kernel_rfl) (by decide) (fun K hK => ?_)
     refine goes_ Try.func31 (by kernel_rfl) rfl #[.agg #[.int .i64 t659, .int .i64 t660, .slice Ao30 t661.length co30], .agg #[.int .i64 t672, .int .i64 t673, .slice Ao46 t674.length co46]] (by rfl) rfl rfl sm_ ?_
     with_reducible refine (laws_eqRow.calls kj14 t659 t660 _ _ t661 t672 t673 _ _ t674 t677 _ ?side1 ?side2 ?side3 ?side4 A42.out).mono ?_
     (case side1 => repeat (first | exact (Kd.R_reads' HO_665002.out).2.2 | (with_reducible refine Kd.C_alloc ?_ _) | (with_reducible refine Kd.C_drewN ?_ _) | (with_reducible refine Kd.C_drew ?_)))
     (case side2 => exact (Kd.R_reads' HO_665002.out).2.1)
     (case side3 => repeat (first | exact (Kd.R_reads' HO676.out).2.2 | (with_reducible refine Kd.C_alloc ?_ _) | (with_reducible refine Kd.C_drewN ?_ _) | (with_reducible refine Kd.C_drew ?_)))
     (case side4 => exact (Kd.R_reads' HO676.out).2.1)
     rintro e w47 ⟨rfl, hb⟩
     refine ⟨_, rfl, ?_⟩
     have n0_ := Aside0.mk (Kd.R_below (rq_ HO_659002.out) hb)
     have n1_ := Aside0.mk (Kd.R_below (rq_ HO_665002.out) hb)
     have n2_ := Aside0.mk (Kd.R_below (rq_ HO_671002.out) hb)
     have n3_ := Aside0.mk (Kd.R_below (rq_ HO676.out) hb)
     have n4_ := Aside0.mk (bb_ BK646.out hb)
     have n5_ := Aside0.mk (bb_ BK658.out hb)
     have n6_ := Aside0.mk (bb_ BK664.out hb)
     have n7_ := Aside0.mk (bb_ BK670.out hb)
     have n8_ := Aside0.mk (below_step (hb_ HB.out) hb)
     clear HO_659002; clear HO_665002
     clear HO_671002; clear HO676
     clear BK646; clear BK658
     clear BK664; clear BK670
     clear HB
     have HO_659002 := n0_
     have HO_665002 := n1_
     have HO_671002 := n2_
     have HO676 := n3_
     have BK646 := n4_
     have BK658 := n5_
     have BK664 := n6_
     have BK670 := n7_
     have HB := n8_
     clear n0_ n1_ n2_ n3_ n4_ n5_ n6_ n7_ n8_
     (try clear hb)
     (try clear hb2)
     (try clear hk)
     (try clear hi)
     refine hK.out _ _ ⟨(blk_cell BK664.out 0).trans rfl, (blk_cell BK664.out 1).trans rfl, (blk_cell BK664.out 2).trans rfl, (blk_cell BK646.out 0).trans rfl, (blk_cell BK646.out 1).trans rfl, (blk_cell BK646.out 2).trans rfl⟩ (fun hHeld => ?_)
     clear hK K
     refine norm_ (a' := ?_) ?_ ?_
     rotate_left
     ·
      show Act.put _ (some 38) _ = _
      simp only [Act.put, List.setIfInBounds_toArray, List.set_cons_zero, List.set_cons_succ, i64_w, i32_w]
      rfl
     refine pure_ (i := 4) (N := some 39) (v := ?_) (a' := ?_) #[true, true, true, true, true] rfl rfl (by kernel_rfl) (fun _ _ _ h => h) (Or.inl ⟨by rfl, ?_⟩) ?_ ?_; rotate_left; (focus intro w'; go_simp; with_reducible rfl); rotate_left; (focus simp only [Act.put, List.setIfInBounds_toArray, List.set_cons_zero, List.set_cons_succ, i64_w, i32_w]; rfl)
     refine done_ (by kernel_rfl) ?_
     go_upto_if 39 with (fail)
     go_cut [] (fun wc => ∃ (kq : Nat), Aside0 (laws_FnExactRowTrim.j2 kq a1 a2 a0_0 a0_1 l0_2 t653 t654 t655 t659 t660 t661 t665 t666 t667 = some r) ∧ Aside0 (kq ≤ kj14) ∧ Aside0 (Kd.R k_Item 33 wc w.heap.size (fun k_ => some k_ ≠ ((.slice Ao30 t661.length co30) : Value).ownBlock ∧ some k_ ≠ ((.slice Ao37 t667.length co37) : Value).ownBlock) (.slice Ao23 t655.length co23) t655) ∧ Aside0 (Kd.R k_Item 33 wc w.heap.size (fun k_ => some k_ ≠ ((.slice Ao23 t655.length co23) : Value).ownBlock ∧ some k_ ≠ ((.slice Ao37 t667.length co37) : Value).ownBlock) (.slice Ao30 t661.length co30) t661) ∧ Aside0 (Kd.R k_Item 33 wc w.heap.size (fun k_ => some k_ ≠ ((.slice Ao23 t655.length co23) : Value).ownBlock ∧ some k_ ≠ ((.slice Ao30 t661.length co30) : Value).ownBlock) (.slice Ao37 t667.length co37) t667) ∧ Aside0 (wc.heap[gb646]? = some (.cells #[.int .i64 a0_0, .int .i64 a0_1, (.slice A0_2 l0_2.length c0_2)] 56 (0, 0))) ∧ Aside0 (wc.heap[gb658]? = some (.cells #[.int .i64 t653, .int .i64 t654, (.slice Ao23 t655.length co23)] 26 (0, 0))) ∧ Aside0 (wc.heap[gb664]? = some (.cells #[.int .i64 t659, .int .i64 t660, (.slice Ao30 t661.length co30)] 26 (0, 0))) ∧ Aside0 (wc.heap[gb670]? = some (.cells #[.int .i64 t665, .int .i64 t666, (.slice Ao37 t667.length co37)] 26 (0, 0))) ∧ Aside0 (Below w.heap.size w wc))
     case first =>
      have H := HC43.out
      clear HC43
      by_cases c48 : t677 = true
      ·
       subst c48
       have H1 : (laws_FnExactRowTrim.j2 kj14 a1 a2 a0_0 a0_1 l0_2 t653 t654 t655 t659 t660 t661 t665 t666 t667) = some r := by rw [if_pos rfl] at H; exact H
       clear H
       have H := H1
       clear H1
       have H' := Aside0.mk H
       clear H
       go_wp2
       go_meet
       case rel => exact ⟨_, H', ⟨by have := HJ4.out; have := HJ14.out; first | omega | exact Nat.le_refl _⟩, ⟨rm_ HO_659002.out⟩, ⟨rm_ HO_665002.out⟩, ⟨rm_ HO_671002.out⟩, ⟨bq_ BK646.out⟩, ⟨bq_ BK658.out⟩, ⟨bq_ BK664.out⟩, ⟨bq_ BK670.out⟩, ⟨hb_ HB.out⟩⟩
      ·
       replace c48 := Bool.eq_false_iff.mpr c48
       subst c48
       have H1 : (some false) = some r := by rw [if_neg (show ¬ (false = true) by decide)] at H; exact H
       clear H
       have H := H1
       clear H1
       obtain rfl := Option.some.inj H
       go_wp2
       go_ret
       exact ⟨er_, hb_ HB.out⟩
     case rest =>
      clear HC43
      (try clear c1); (try clear c2); (try clear p2); (try clear c3); (try clear c4); (try clear c6); (try clear c9); (try clear c9b0); (try clear c11); (try clear c13); (try clear c21); (try clear c27); (try clear c28); (try clear c29); (try clear c30); (try clear c31); (try clear c33); (try clear c34); (try clear c35); (try clear c40); (try clear c48); (try clear hcz16_0); (try clear hcz16_1); (try clear hcz16_2); (try clear hcz22_0); (try clear hcz22_1); (try clear hcz22_2); (try clear hcz24_0); (try clear hcz24_1); (try clear hcz24_2); (try clear hcz29_0); (try clear hcz29_1); (try clear hcz29_2); (try clear hcz36_0); (try clear hcz36_1); (try clear hcz36_2); (try clear hcz38_0); (try clear hcz38_1); (try clear hcz38_2); (try clear hcz7_0); (try clear hcz7_1); (try clear hcz7_2); (try clear hfz16_0); (try clear hfz16_1); (try clear hfz16_2); (try clear hfz22_0); (try clear hfz22_1); (try clear hfz22_2); (try clear hfz24_0); (try clear hfz24_1); (try clear hfz24_2); (try clear hfz29_0); (try clear hfz29_1); (try clear hfz29_2); (try clear hfz36_0); (try clear hfz36_1); (try clear hfz36_2); (try clear hfz38_0); (try clear hfz38_1); (try clear hfz38_2); (try clear hfz7_0); (try clear hfz7_1); (try clear hfz7_2); (try clear p2)
      obtain ⟨kq, HA, HJ42, HO_659002, HO_665002, HO_671002, BK646, BK658, BK664, BK670, HB⟩ := hcut
      cases kq with
      | zero => exact absurd HA.out (by simp [laws_FnExactRowTrim.j2])
      | succ kj42 =>
       have H := HA.out
       clear HA
       simp only [laws_FnExactRowTrim.j2] at H
       replace H := Option.bind_eq_some_iff.mp H
       obtain ⟨⟨t678, t679⟩, A490, H⟩ := H
       replace H : (if t678 < 0 then (laws_FnExactRowTrim.j3 kj42 a1 a2 true a0_0 a0_1 l0_2 t653 t654 t655 t665 t666 t667) else ((laws_eqRow.f kj42 t665 t666 t667 t653 t654 t655).bind fun t680 => (laws_FnExactRowTrim.j3 kj42 a1 a2 (!t680) a0_0 a0_1 l0_2 t653 t654 t655 t665 t666 t667))) = some r := H
       have A49 := Aside0.mk A490
       clear A490
       have HC50 := Aside0.mk H
       clear H
       have hnb51 := NB664_646.out
       have hnc51 := NB646_664.out
       have hnb52 := NB664_658.out
       have hnc52 := NB658_664.out
       have hnb53 := NB664_670.out
       have hnc53 := NB670_664.out
       have hcz54_0 : wc.cell? ⟨gb664, 0, none⟩ = some (.int .i64 t659) := (blk_cell BK664.out 0).trans rfl
       have hcz54_1 : wc.cell? ⟨gb664, 1, none⟩ = some (.int .i64 t660) := (blk_cell BK664.out 1).trans rfl
       have hcz54_2 : wc.cell? ⟨gb664, 2, none⟩ = some (.slice Ao30 t661.length co30) := (blk_cell BK664.out 2).trans rfl
       have hfz54_0 := blk_frozen BK664.out 0
       have hfz54_1 := blk_frozen BK664.out 1
       have hfz54_2 := blk_frozen BK664.out 2
       go_upto_region 14 with (first | ((with_reducible refine gate_callee (f := 32) rfl ?_); refine goesL_ (some 42) rfl rfl Try.func32 (by kernel_rfl) rfl #[.agg #[.int .i64 t659, .int .i64 t660, .slice Ao30 t661.length co30], .int .i64 1] rfl sm_ ?_; (with_reducible refine (laws_markRow.calls kj42 t659 t660 (fun k_ => some k_ = (.slice Ao30 t661.length co30 : Value).ownBlock) (.slice Ao30 t661.length co30) t661 1 t678 t679 w _ ?side1 ?side2 A49.out).mono ?_); (case side1 => repeat (first | (with_reducible first | exact HB.out | apply below_alloc | apply pw_below_drewN | apply below_drew1 | refine below_set ?_ GE646.out | refine below_set ?_ GE658.out | refine below_set ?_ GE664.out | refine below_set ?_ GE670.out) | exact HB.out)); (case side2 => exact Kd.R_tight rfl HO_665002.out); rintro e w55 ⟨rfl, hy0, hb, hkp⟩; refine ⟨_, rfl, ?_⟩; have n0_ := Aside0.mk (Kd.R_mono (ok' := fun k_ => some k_ ≠ (.slice Ao30 t661.length co30 : Value).ownBlock ∧ some k_ ≠ (.slice Ao37 t667.length co37 : Value).ownBlock) (Kd.R_keptB (HO_659002.out) hkp (fun k_ hk_ hs_ => (hk_.1) hs_)) (fun k_ hk_ => ⟨hk_.1.1, hk_.1.2⟩)); have n1_ := Aside0.mk (Kd.R_reok rfl hy0 (fun k_ e_ => HO_665002.out.1 k_ e_)); have n2_ := Aside0.mk (Kd.R_mono (ok' := fun k_ => some k_ ≠ (.slice Ao23 t655.length co23 : Value).ownBlock ∧ some k_ ≠ (.slice Ao30 t661.length co30 : Value).ownBlock) (Kd.R_keptB (HO_671002.out) hkp (fun k_ hk_ hs_ => (hk_.2) hs_)) (fun k_ hk_ => ⟨hk_.1.1, hk_.1.2⟩)); have n3_ := Aside0.mk (blk_kept (bq_ BK646.out) hkp (fun hs_ => (fun e_ => (Kd.R_ne HO_665002.out BK646.out (by decide)) e_) hs_)); have n4_ := Aside0.mk (blk_kept (bq_ BK658.out) hkp (fun hs_ => (fun e_ => (Kd.R_ne HO_665002.out BK658.out (by decide)) e_) hs_)); have n5_ := Aside0.mk (blk_kept (bq_ BK664.out) hkp (fun hs_ => (fun e_ => (Kd.R_ne HO_665002.out BK664.out (by decide)) e_) hs_)); have n6_ := Aside0.mk (blk_kept (bq_ BK670.out) hkp (fun hs_ => (fun e_ => (Kd.R_ne HO_665002.out BK670.out (by decide)) e_) hs_)); have n7_ := Aside0.mk (hb); clear HO_659002; clear HO_665002; clear HO_671002; clear BK646; clear BK658; clear BK664; clear BK670; clear HB; have HO_659002 := n0_; have HO_665002 := n1_; have HO_671002 := n2_; have BK646 := n3_; have BK658 := n4_; have BK664 := n5_; have BK670 := n6_; have HB := n7_; clear n0_ n1_ n2_ n3_ n4_ n5_ n6_ n7_; (try clear hb); (try clear hkp); (try clear hy0)))
       (try simp only [Act.put, List.setIfInBounds_toArray, List.set_cons_zero, List.set_cons_succ])
       go_cut [50] (fun v50 wc => ∃ (kq : Nat) (x50_49 : Bool), v50 = .bool x50_49 ∧ Aside0 (laws_FnExactRowTrim.j3 kq a1 a2 x50_49 a0_0 a0_1 l0_2 t653 t654 t655 t665 t666 t667 = some r) ∧ Aside0 (kq ≤ kj42) ∧ Aside0 (Kd.R k_Item 33 wc w.heap.size (fun k_ => some k_ ≠ ((.slice Ao30 t661.length co30) : Value).ownBlock ∧ some k_ ≠ ((.slice Ao37 t667.length co37) : Value).ownBlock) (.slice Ao23 t655.length co23) t655) ∧ Aside0 (Kd.R k_Item 33 wc w.heap.size (fun k_ => some k_ ≠ ((.slice Ao23 t655.length co23) : Value).ownBlock ∧ some k_ ≠ ((.slice Ao37 t667.length co37) : Value).ownBlock) (.slice Ao30 t661.length co30) t679) ∧ Aside0 (Kd.R k_Item 33 wc w.heap.size (fun k_ => some k_ ≠ ((.slice Ao23 t655.length co23) : Value).ownBlock ∧ some k_ ≠ ((.slice Ao30 t661.length co30) : Value).ownBlock) (.slice Ao37 t667.length co37) t667) ∧ Aside0 (wc.heap[gb646]? = some (.cells #[.int .i64 a0_0, .int .i64 a0_1, (.slice A0_2 l0_2.length c0_2)] 56 (0, 0))) ∧ Aside0 (wc.heap[gb658]? = some (.cells #[.int .i64 t653, .int .i64 t654, (.slice Ao23 t655.length co23)] 26 (0, 0))) ∧ Aside0 (wc.heap[gb664]? = some (.cells #[.int .i64 t659, .int .i64 t660, (.slice Ao30 t661.length co30)] 26 (0, 0))) ∧ Aside0 (wc.heap[gb670]? = some (.cells #[.int .i64 t665, .int .i64 t666, (.slice Ao37 t667.length co37)] 26 (0, 0))) ∧ Aside0 (Below w.heap.size w wc))
       case first =>
        have H := HC50.out
        clear HC50
        by_cases c56 : t678 < 0
        ·
         rw [if_pos c56] at H
         have c56b0 : decide (t678 < 0) = true := decide_eq_true c56
         clear c56
         (first | rw [c56b0] | (simp only [i64_w, i32_w]; rw [c56b0]) | rw [c56b4] | rw [c56b3] | skip)
         have H' := Aside0.mk H
         clear H
         go_wp2
         go_meet
         case rel => exact ⟨_, (true), (by first | rfl | (simp; done) | (simp [*]; done)), H', ⟨by have := HJ4.out; have := HJ14.out; have := HJ42.out; first | omega | exact Nat.le_refl _⟩, ⟨rq_ HO_659002.out⟩, ⟨rq_ HO_665002.out⟩, ⟨rq_ HO_671002.out⟩, ⟨bq_ BK646.out⟩, ⟨bq_ BK658.out⟩, ⟨bq_ BK664.out⟩, ⟨bq_ BK670.out⟩, ⟨hb_ HB.out⟩⟩
        ·
         rw [if_neg c56] at H
         have c56b0 : decide (t678 < 0) = false := decide_eq_false c56
         clear c56
         (first | rw [c56b0] | (simp only [i64_w, i32_w]; rw [c56b0]) | rw [c56b4] | rw [c56b3] | skip)
         replace H := Option.bind_eq_some_iff.mp H
         obtain ⟨t680, A570, H⟩ := H
         replace H : (laws_FnExactRowTrim.j3 kj42 a1 a2 (!t680) a0_0 a0_1 l0_2 t653 t654 t655 t665 t666 t667) = some r := H
         have A57 := Aside0.mk A570
         clear A570
         have H' := Aside0.mk H
         clear H
         have hnb58 := NB670_646.out
         have hnc58 := NB646_670.out
         have hnb59 := NB670_658.out
         have hnc59 := NB658_670.out
         have hnb60 := NB670_664.out
         have hnc60 := NB664_670.out
         have hcz61_0 : w55.cell? ⟨gb670, 0, none⟩ = some (.int .i64 t665) := (blk_cell BK670.out 0).trans rfl
         have hcz61_1 : w55.cell? ⟨gb670, 1, none⟩ = some (.int .i64 t666) := (blk_cell BK670.out 1).trans rfl
         have hcz61_2 : w55.cell? ⟨gb670, 2, none⟩ = some (.slice Ao37 t667.length co37) := (blk_cell BK670.out 2).trans rfl
         have hfz61_0 := blk_frozen BK670.out 0
         have hfz61_1 := blk_frozen BK670.out 1
         have hfz61_2 := blk_frozen BK670.out 2
         have hnb62 := NB658_646.out
         have hnc62 := NB646_658.out
         have hnb63 := NB658_664.out
         have hnc63 := NB664_658.out
         have hcz64_0 : w55.cell? ⟨gb658, 0, none⟩ = some (.int .i64 t653) := (blk_cell BK658.out 0).trans rfl
         have hcz64_1 : w55.cell? ⟨gb658, 1, none⟩ = some (.int .i64 t654) := (blk_cell BK658.out 1).trans rfl
         have hcz64_2 : w55.cell? ⟨gb658, 2, none⟩ = some (.slice Ao23 t655.length co23) := (blk_cell BK658.out 2).trans rfl
         have hfz64_0 := blk_frozen BK658.out 0
         have hfz64_1 := blk_frozen BK658.out 1
         have hfz64_2 := blk_frozen BK658.out 2
         go_wp2_with (first | (go_at_call 31; (with_reducible refine (laws_eqRow.calls kj42 t665 t666 _ _ t667 t653 t654 _ _ t655 t680 _ ?side1 ?side2 ?side3 ?side4 A57.out).mono ?_); (case side1 => repeat (first | exact (Kd.R_reads' HO_671002.out).2.2 | (with_reducible refine Kd.C_alloc ?_ _) | (with_reducible refine Kd.C_drewN ?_ _) | (with_reducible refine Kd.C_drew ?_))); (case side2 => exact (Kd.R_reads' HO_671002.out).2.1); (case side3 => repeat (first | exact (Kd.R_reads' HO_659002.out).2.2 | (with_reducible refine Kd.C_alloc ?_ _) | (with_reducible refine Kd.C_drewN ?_ _) | (with_reducible refine Kd.C_drew ?_))); (case side4 => exact (Kd.R_reads' HO_659002.out).2.1); rintro e w65 ⟨rfl, hb⟩; have n0_ := Aside0.mk (Kd.R_below (rq_ HO_659002.out) hb); have n1_ := Aside0.mk (Kd.R_below (rq_ HO_665002.out) hb); have n2_ := Aside0.mk (Kd.R_below (rq_ HO_671002.out) hb); have n3_ := Aside0.mk (bb_ BK646.out hb); have n4_ := Aside0.mk (bb_ BK658.out hb); have n5_ := Aside0.mk (bb_ BK664.out hb); have n6_ := Aside0.mk (bb_ BK670.out hb); have n7_ := Aside0.mk (below_step (hb_ HB.out) hb); clear HO_659002; clear HO_665002; clear HO_671002; clear BK646; clear BK658; clear BK664; clear BK670; clear HB; have HO_659002 := n0_; have HO_665002 := n1_; have HO_671002 := n2_; have BK646 := n3_; have BK658 := n4_; have BK664 := n5_; have BK670 := n6_; have HB := n7_; clear n0_ n1_ n2_ n3_ n4_ n5_ n6_ n7_; (try clear hb); (try clear hb2); (try clear hk); (try clear hi)))
         go_meet
         case rel => exact ⟨_, (!t680), (by first | rfl | (simp; done) | (simp [*]; done)), H', ⟨by have := HJ4.out; have := HJ14.out; have := HJ42.out; first | omega | exact Nat.le_refl _⟩, ⟨rq_ HO_659002.out⟩, ⟨rq_ HO_665002.out⟩, ⟨rq_ HO_671002.out⟩, ⟨bq_ BK646.out⟩, ⟨bq_ BK658.out⟩, ⟨bq_ BK664.out⟩, ⟨bq_ BK670.out⟩, ⟨hb_ HB.out⟩⟩
       case rest =>
        clear HC50
        (try clear c1); (try clear c2); (try clear p2); (try clear c3); (try clear c4); (try clear c5); (try clear c6); (try clear c9); (try clear c9b0); (try clear c11); (try clear c13); (try clear c21); (try clear c27); (try clear c28); (try clear c29); (try clear c30); (try clear c31); (try clear c32); (try clear c33); (try clear c34); (try clear c35); (try clear c40); (try clear c48); (try clear c51); (try clear c52); (try clear c53); (try clear c56); (try clear c56b0); (try clear c58); (try clear c59); (try clear c60); (try clear c62); (try clear c63); (try clear hcz16_0); (try clear hcz16_1); (try clear hcz16_2); (try clear hcz22_0); (try clear hcz22_1); (try clear hcz22_2); (try clear hcz24_0); (try clear hcz24_1); (try clear hcz24_2); (try clear hcz29_0); (try clear hcz29_1); (try clear hcz29_2); (try clear hcz36_0); (try clear hcz36_1); (try clear hcz36_2); (try clear hcz38_0); (try clear hcz38_1); (try clear hcz38_2); (try clear hcz54_0); (try clear hcz54_1); (try clear hcz54_2); (try clear hcz61_0); (try clear hcz61_1); (try clear hcz61_2); (try clear hcz64_0); (try clear hcz64_1); (try clear hcz64_2); (try clear hcz7_0); (try clear hcz7_1); (try clear hcz7_2); (try clear hfz16_0); (try clear hfz16_1); (try clear hfz16_2); (try clear hfz22_0); (try clear hfz22_1); (try clear hfz22_2); (try clear hfz24_0); (try clear hfz24_1); (try clear hfz24_2); (try clear hfz29_0); (try clear hfz29_1); (try clear hfz29_2); (try clear hfz36_0); (try clear hfz36_1); (try clear hfz36_2); (try clear hfz38_0); (try clear hfz38_1); (try clear hfz38_2); (try clear hfz54_0); (try clear hfz54_1); (try clear hfz54_2); (try clear hfz61_0); (try clear hfz61_1); (try clear hfz61_2); (try clear hfz64_0); (try clear hfz64_1); (try clear hfz64_2); (try clear hfz7_0); (try clear hfz7_1); (try clear hfz7_2); (try clear p2)
        obtain ⟨kq, x50_49, rfl, HA, HJ49, HO_659002, HO_665002, HO_671002, BK646, BK658, BK664, BK670, HB⟩ := hcut
        have hl665002_49 := (Kd.R_reads' HO_665002.out).1
        rw [hl665002_49] at HO_665002
        (try simp only [hl665002_49])
        (try simp only [hl665002_49] at BK646)
        (try simp only [hl665002_49] at BK658)
        (try simp only [hl665002_49] at BK664)
        (try simp only [hl665002_49] at BK670)
        (try simp only [hl665002_49] at HO_659002)
        (try simp only [hl665002_49] at HO_671002)
        cases kq with
        | zero => exact absurd HA.out (by simp [laws_FnExactRowTrim.j3])
        | succ kj49 =>
         have H := HA.out
         clear HA
         simp only [laws_FnExactRowTrim.j3] at H
         have HC66 := Aside0.mk H
         clear H
         go_upto_if 50 with (fail)
         go_cut [] (fun wc => ∃ (kq : Nat), Aside0 (laws_FnExactRowTrim.j4 kq a1 a2 a0_0 a0_1 l0_2 t653 t654 t655 t665 t666 t667 = some r) ∧ Aside0 (kq ≤ kj49) ∧ Aside0 (Kd.R k_Item 33 wc w.heap.size (fun k_ => some k_ ≠ ((.slice Ao30 t679.length co30) : Value).ownBlock ∧ some k_ ≠ ((.slice Ao37 t667.length co37) : Value).ownBlock) (.slice Ao23 t655.length co23) t655) ∧ Aside0 (Kd.R k_Item 33 wc w.heap.size (fun k_ => some k_ ≠ ((.slice Ao23 t655.length co23) : Value).ownBlock ∧ some k_ ≠ ((.slice Ao37 t667.length co37) : Value).ownBlock) (.slice Ao30 t679.length co30) t679) ∧ Aside0 (Kd.R k_Item 33 wc w.heap.size (fun k_ => some k_ ≠ ((.slice Ao23 t655.length co23) : Value).ownBlock ∧ some k_ ≠ ((.slice Ao30 t679.length co30) : Value).ownBlock) (.slice Ao37 t667.length co37) t667) ∧ Aside0 (wc.heap[gb646]? = some (.cells #[.int .i64 a0_0, .int .i64 a0_1, (.slice A0_2 l0_2.length c0_2)] 56 (0, 0))) ∧ Aside0 (wc.heap[gb658]? = some (.cells #[.int .i64 t653, .int .i64 t654, (.slice Ao23 t655.length co23)] 26 (0, 0))) ∧ Aside0 (wc.heap[gb664]? = some (.cells #[.int .i64 t659, .int .i64 t660, (.slice Ao30 t679.length co30)] 26 (0, 0))) ∧ Aside0 (wc.heap[gb670]? = some (.cells #[.int .i64 t665, .int .i64 t666, (.slice Ao37 t667.length co37)] 26 (0, 0))) ∧ Aside0 (Below w.heap.size w wc))
         case first =>
          have H := HC66.out
          clear HC66
          by_cases c67 : x50_49 = true
          ·
           subst c67
           have H1 : (some false) = some r := by rw [if_pos rfl] at H; exact H
           clear H
           have H := H1
           clear H1
           obtain rfl := Option.some.inj H
           go_wp2
           go_ret
           exact ⟨er_, hb_ HB.out⟩
          ·
           replace c67 := Bool.eq_false_iff.mpr c67
           subst c67
           have H1 : (laws_FnExactRowTrim.j4 kj49 a1 a2 a0_0 a0_1 l0_2 t653 t654 t655 t665 t666 t667) = some r := by rw [if_neg (show ¬ (false = true) by decide)] at H; exact H
           clear H
           have H := H1
           clear H1
           have H' := Aside0.mk H
           clear H
           go_wp2
           go_meet
           case rel => exact ⟨_, H', ⟨by have := HJ4.out; have := HJ14.out; have := HJ42.out; have := HJ49.out; first | omega | exact Nat.le_refl _⟩, ⟨by (try simp only [hl665002_49]); (with_reducible repeat (first | apply Kd.R_alloc | apply Kd.R_drewN | apply Kd.R_drew)); exact HO_659002.out⟩, ⟨by (try simp only [hl665002_49]); (with_reducible repeat (first | apply Kd.R_alloc | apply Kd.R_drewN | apply Kd.R_drew)); exact HO_665002.out⟩, ⟨by (try simp only [hl665002_49]); (with_reducible repeat (first | apply Kd.R_alloc | apply Kd.R_drewN | apply Kd.R_drew)); exact HO_671002.out⟩, ⟨by (try simp only [hl665002_49]); (with_reducible repeat (first | refine blk_drewN ?_ _ | refine blk_drew ?_ | refine blk_alloc ?_ _)); exact BK646.out⟩, ⟨by (try simp only [hl665002_49]); (with_reducible repeat (first | refine blk_drewN ?_ _ | refine blk_drew ?_ | refine blk_alloc ?_ _)); exact BK658.out⟩, ⟨by (try simp only [hl665002_49]); (with_reducible repeat (first | refine blk_drewN ?_ _ | refine blk_drew ?_ | refine blk_alloc ?_ _)); exact BK664.out⟩, ⟨by (try simp only [hl665002_49]); (with_reducible repeat (first | refine blk_drewN ?_ _ | refine blk_drew ?_ | refine blk_alloc ?_ _)); exact BK670.out⟩, ⟨hb_ HB.out⟩⟩
         case rest =>
          clear HC66
          (try clear c1); (try clear c2); (try clear p2); (try clear c3); (try clear c4); (try clear c5); (try clear c6); (try clear c9); (try clear c9b0); (try clear c11); (try clear c13); (try clear c21); (try clear c27); (try clear c28); (try clear c29); (try clear c30); (try clear c31); (try clear c32); (try clear c33); (try clear c34); (try clear c35); (try clear c40); (try clear c48); (try clear c51); (try clear c52); (try clear c53); (try clear c56); (try clear c56b0); (try clear c58); (try clear c59); (try clear c60); (try clear c62); (try clear c63); (try clear c67); (try clear hcz16_0); (try clear hcz16_1); (try clear hcz16_2); (try clear hcz22_0); (try clear hcz22_1); (try clear hcz22_2); (try clear hcz24_0); (try clear hcz24_1); (try clear hcz24_2); (try clear hcz29_0); (try clear hcz29_1); (try clear hcz29_2); (try clear hcz36_0); (try clear hcz36_1); (try clear hcz36_2); (try clear hcz38_0); (try clear hcz38_1); (try clear hcz38_2); (try clear hcz54_0); (try clear hcz54_1); (try clear hcz54_2); (try clear hcz61_0); (try clear hcz61_1); (try clear hcz61_2); (try clear hcz64_0); (try clear hcz64_1); (try clear hcz64_2); (try clear hcz7_0); (try clear hcz7_1); (try clear hcz7_2); (try clear hfz16_0); (try clear hfz16_1); (try clear hfz16_2); (try clear hfz22_0); (try clear hfz22_1); (try clear hfz22_2); (try clear hfz24_0); (try clear hfz24_1); (try clear hfz24_2); (try clear hfz29_0); (try clear hfz29_1); (try clear hfz29_2); (try clear hfz36_0); (try clear hfz36_1); (try clear hfz36_2); (try clear hfz38_0); (try clear hfz38_1); (try clear hfz38_2); (try clear hfz54_0); (try clear hfz54_1); (try clear hfz54_2); (try clear hfz61_0); (try clear hfz61_1); (try clear hfz61_2); (try clear hfz64_0); (try clear hfz64_1); (try clear hfz64_2); (try clear hfz7_0); (try clear hfz7_1); (try clear hfz7_2); (try clear p2)
          obtain ⟨kq, HA, HJ65, HO_659002, HO_665002, HO_671002, BK646, BK658, BK664, BK670, HB⟩ := hcut
          cases kq with
          | zero => exact absurd HA.out (by simp [laws_FnExactRowTrim.j4])
          | succ kj65 =>
           have H := HA.out
           clear HA
           simp only [laws_FnExactRowTrim.j4] at H
           replace H := Option.bind_eq_some_iff.mp H
           obtain ⟨⟨t681, t682⟩, A680, H⟩ := H
           replace H : ((laws_heldRow.f kj65 t665 t666 t682 1).bind fun t683 => (if t683 < 0 then (some false) else (laws_FnExactRowTrim.j5 kj65 a1 a2 t681 t683 a0_0 a0_1 l0_2 t653 t654 t655 t665 t666 t682))) = some r := H
           have A68 := Aside0.mk A680
           clear A680
           replace H := Option.bind_eq_some_iff.mp H
           obtain ⟨t683, A690, H⟩ := H
           replace H : (if t683 < 0 then (some false) else (laws_FnExactRowTrim.j5 kj65 a1 a2 t681 t683 a0_0 a0_1 l0_2 t653 t654 t655 t665 t666 t682)) = some r := H
           have A69 := Aside0.mk A690
           clear A690
           have HC70 := Aside0.mk H
           clear H
           have hnb71 := NB670_646.out
           have hnc71 := NB646_670.out
           have hnb72 := NB670_658.out
           have hnc72 := NB658_670.out
           have hnb73 := NB670_664.out
           have hnc73 := NB664_670.out
           have hcz74_0 : wc.cell? ⟨gb670, 0, none⟩ = some (.int .i64 t665) := (blk_cell BK670.out 0).trans rfl
           have hcz74_1 : wc.cell? ⟨gb670, 1, none⟩ = some (.int .i64 t666) := (blk_cell BK670.out 1).trans rfl
           have hcz74_2 : wc.cell? ⟨gb670, 2, none⟩ = some (.slice Ao37 t667.length co37) := (blk_cell BK670.out 2).trans rfl
           have hfz74_0 := blk_frozen BK670.out 0
           have hfz74_1 := blk_frozen BK670.out 1
           have hfz74_2 := blk_frozen BK670.out 2
           go_upto_if 58 with (first | ((with_reducible refine gate_callee (f := 32) rfl ?_); refine goesL_ (some 53) rfl rfl Try.func32 (by kernel_rfl) rfl #[.agg #[.int .i64 t665, .int .i64 t666, .slice Ao37 t667.length co37], .int .i64 1] rfl sm_ ?_; (with_reducible refine (laws_markRow.calls kj65 t665 t666 (fun k_ => some k_ = (.slice Ao37 t667.length co37 : Value).ownBlock) (.slice Ao37 t667.length co37) t667 1 t681 t682 w _ ?side1 ?side2 A68.out).mono ?_); (case side1 => repeat (first | (with_reducible first | exact HB.out | apply below_alloc | apply pw_below_drewN | apply below_drew1 | refine below_set ?_ GE646.out | refine below_set ?_ GE658.out | refine below_set ?_ GE664.out | refine below_set ?_ GE670.out) | exact HB.out)); (case side2 => exact Kd.R_tight rfl HO_671002.out); rintro e w75 ⟨rfl, hy0, hb, hkp⟩; refine ⟨_, rfl, ?_⟩; have n0_ := Aside0.mk (Kd.R_mono (ok' := fun k_ => some k_ ≠ (.slice Ao30 t679.length co30 : Value).ownBlock ∧ some k_ ≠ (.slice Ao37 t667.length co37 : Value).ownBlock) (Kd.R_keptB (HO_659002.out) hkp (fun k_ hk_ hs_ => (hk_.2) hs_)) (fun k_ hk_ => ⟨hk_.1.1, hk_.1.2⟩)); have n1_ := Aside0.mk (Kd.R_mono (ok' := fun k_ => some k_ ≠ (.slice Ao23 t655.length co23 : Value).ownBlock ∧ some k_ ≠ (.slice Ao37 t667.length co37 : Value).ownBlock) (Kd.R_keptB (HO_665002.out) hkp (fun k_ hk_ hs_ => (hk_.2) hs_)) (fun k_ hk_ => ⟨hk_.1.1, hk_.1.2⟩)); have n2_ := Aside0.mk (Kd.R_reok rfl hy0 (fun k_ e_ => HO_671002.out.1 k_ e_)); have n3_ := Aside0.mk (blk_kept (bq_ BK646.out) hkp (fun hs_ => (fun e_ => (Kd.R_ne HO_671002.out BK646.out (by decide)) e_) hs_)); have n4_ := Aside0.mk (blk_kept (bq_ BK658.out) hkp (fun hs_ => (fun e_ => (Kd.R_ne HO_671002.out BK658.out (by decide)) e_) hs_)); have n5_ := Aside0.mk (blk_kept (bq_ BK664.out) hkp (fun hs_ => (fun e_ => (Kd.R_ne HO_671002.out BK664.out (by decide)) e_) hs_)); have n6_ := Aside0.mk (blk_kept (bq_ BK670.out) hkp (fun hs_ => (fun e_ => (Kd.R_ne HO_671002.out BK670.out (by decide)) e_) hs_)); have n7_ := Aside0.mk (hb); clear HO_659002; clear HO_665002; clear HO_671002; clear BK646; clear BK658; clear BK664; clear BK670; clear HB; have HO_659002 := n0_; have HO_665002 := n1_; have HO_671002 := n2_; have BK646 := n3_; have BK658 := n4_; have BK664 := n5_; have BK670 := n6_; have HB := n7_; clear n0_ n1_ n2_ n3_ n4_ n5_ n6_ n7_; (try clear hb); (try clear hkp); (try clear hy0); have hcz76_0 : w75.cell? ⟨gb670, 0, none⟩ = some (.int .i64 t665) := (blk_cell BK670.out 0).trans rfl; have hcz76_1 : w75.cell? ⟨gb670, 1, none⟩ = some (.int .i64 t666) := (blk_cell BK670.out 1).trans rfl; have hcz76_2 : w75.cell? ⟨gb670, 2, none⟩ = some (.slice Ao37 t667.length co37) := (blk_cell BK670.out 2).trans rfl; have hfz76_0 := blk_frozen BK670.out 0; have hfz76_1 := blk_frozen BK670.out 1; have hfz76_2 := blk_frozen BK670.out 2) | ((with_reducible refine gate_callee (f := 33) rfl ?_); refine goesL_ (some 56) rfl rfl Try.func33 (by kernel_rfl) rfl #[.agg #[.int .i64 t665, .int .i64 t666, .slice Ao37 t682.length co37], .int .i64 1] rfl (by (try simp only [List.map_toArray, List.map_cons, List.map_nil]); first | done | (rw [show t682.length = t667.length from (Kd.R_reads' HO_671002.out).1.symm] <;> rfl) | rfl | (simp only [List.length_drop, List.length_take]; rfl)) ?_; (with_reducible refine (laws_heldRow.calls kj65 t665 t666 _ _ t682 1 t683 _ ?side1 ?side2 A69.out).mono ?_); (case side1 => repeat (first | exact (Kd.R_reads' HO_671002.out).2.2 | (with_reducible refine Kd.C_alloc ?_ _) | (with_reducible refine Kd.C_drewN ?_ _) | (with_reducible refine Kd.C_drew ?_))); (case side2 => rw [show t682.length = t667.length from (Kd.R_reads' HO_671002.out).1.symm]; exact (Kd.R_reads' HO_671002.out).2.1); rintro e w77 ⟨rfl, hb⟩; refine ⟨_, rfl, ?_⟩; have n0_ := Aside0.mk (Kd.R_below (rq_ HO_659002.out) hb); have n1_ := Aside0.mk (Kd.R_below (rq_ HO_665002.out) hb); have n2_ := Aside0.mk (Kd.R_below (rq_ HO_671002.out) hb); have n3_ := Aside0.mk (bb_ BK646.out hb); have n4_ := Aside0.mk (bb_ BK658.out hb); have n5_ := Aside0.mk (bb_ BK664.out hb); have n6_ := Aside0.mk (bb_ BK670.out hb); have n7_ := Aside0.mk (below_step (hb_ HB.out) hb); clear HO_659002; clear HO_665002; clear HO_671002; clear BK646; clear BK658; clear BK664; clear BK670; clear HB; have HO_659002 := n0_; have HO_665002 := n1_; have HO_671002 := n2_; have BK646 := n3_; have BK658 := n4_; have BK664 := n5_; have BK670 := n6_; have HB := n7_; clear n0_ n1_ n2_ n3_ n4_ n5_ n6_ n7_; (try clear hb); (try clear hb2); (try clear hk); (try clear hi)))
           (try simp only [Act.put, List.setIfInBounds_toArray, List.set_cons_zero, List.set_cons_succ])
           go_cut [] (fun wc => ∃ (kq : Nat), Aside0 (laws_FnExactRowTrim.j5 kq a1 a2 t681 t683 a0_0 a0_1 l0_2 t653 t654 t655 t665 t666 t682 = some r) ∧ Aside0 (kq ≤ kj65) ∧ Aside0 (Kd.R k_Item 33 wc w.heap.size (fun k_ => some k_ ≠ ((.slice Ao30 t679.length co30) : Value).ownBlock ∧ some k_ ≠ ((.slice Ao37 t667.length co37) : Value).ownBlock) (.slice Ao23 t655.length co23) t655) ∧ Aside0 (Kd.R k_Item 33 wc w.heap.size (fun k_ => some k_ ≠ ((.slice Ao23 t655.length co23) : Value).ownBlock ∧ some k_ ≠ ((.slice Ao37 t667.length co37) : Value).ownBlock) (.slice Ao30 t679.length co30) t679) ∧ Aside0 (Kd.R k_Item 33 wc w.heap.size (fun k_ => some k_ ≠ ((.slice Ao23 t655.length co23) : Value).ownBlock ∧ some k_ ≠ ((.slice Ao30 t679.length co30) : Value).ownBlock) (.slice Ao37 t667.length co37) t682) ∧ Aside0 (wc.heap[gb646]? = some (.cells #[.int .i64 a0_0, .int .i64 a0_1, (.slice A0_2 l0_2.length c0_2)] 56 (0, 0))) ∧ Aside0 (wc.heap[gb658]? = some (.cells #[.int .i64 t653, .int .i64 t654, (.slice Ao23 t655.length co23)] 26 (0, 0))) ∧ Aside0 (wc.heap[gb664]? = some (.cells #[.int .i64 t659, .int .i64 t660, (.slice Ao30 t679.length co30)] 26 (0, 0))) ∧ Aside0 (wc.heap[gb670]? = some (.cells #[.int .i64 t665, .int .i64 t666, (.slice Ao37 t667.length co37)] 26 (0, 0))) ∧ Aside0 (Below w.heap.size w wc))
           case first =>
            have H := HC70.out
            clear HC70
            by_cases c78 : t683 < 0
            ·
             rw [if_pos c78] at H
             have c78b0 : decide (t683 < 0) = true := decide_eq_true c78
             clear c78
             (first | rw [c78b0] | (simp only [i64_w, i32_w]; rw [c78b0]) | rw [c78b4] | rw [c78b3] | skip)
             obtain rfl := Option.some.inj H
             go_wp2
             go_ret
             exact ⟨er_, hb_ HB.out⟩
            ·
             rw [if_neg c78] at H
             have c78b0 : decide (t683 < 0) = false := decide_eq_false c78
             clear c78
             (first | rw [c78b0] | (simp only [i64_w, i32_w]; rw [c78b0]) | rw [c78b4] | rw [c78b3] | skip)
             have H' := Aside0.mk H
             clear H
             go_wp2
             go_meet
             case rel => exact ⟨_, H', ⟨by have := HJ4.out; have := HJ14.out; have := HJ42.out; have := HJ49.out; have := HJ65.out; first | omega | exact Nat.le_refl _⟩, ⟨by (try simp only [hl665002_49]); (with_reducible repeat (first | apply Kd.R_alloc | apply Kd.R_drewN | apply Kd.R_drew)); exact HO_659002.out⟩, ⟨by (try simp only [hl665002_49]); (with_reducible repeat (first | apply Kd.R_alloc | apply Kd.R_drewN | apply Kd.R_drew)); exact HO_665002.out⟩, ⟨by (try simp only [hl665002_49]); (with_reducible repeat (first | apply Kd.R_alloc | apply Kd.R_drewN | apply Kd.R_drew)); exact HO_671002.out⟩, ⟨by (try simp only [hl665002_49]); (with_reducible repeat (first | refine blk_drewN ?_ _ | refine blk_drew ?_ | refine blk_alloc ?_ _)); exact BK646.out⟩, ⟨by (try simp only [hl665002_49]); (with_reducible repeat (first | refine blk_drewN ?_ _ | refine blk_drew ?_ | refine blk_alloc ?_ _)); exact BK658.out⟩, ⟨by (try simp only [hl665002_49]); (with_reducible repeat (first | refine blk_drewN ?_ _ | refine blk_drew ?_ | refine blk_alloc ?_ _)); exact BK664.out⟩, ⟨by (try simp only [hl665002_49]); (with_reducible repeat (first | refine blk_drewN ?_ _ | refine blk_drew ?_ | refine blk_alloc ?_ _)); exact BK670.out⟩, ⟨hb_ HB.out⟩⟩
           case rest =>
            clear HC70
            (try clear c1); (try clear c2); (try clear p2); (try clear c3); (try clear c4); (try clear c5); (try clear c6); (try clear c7); (try clear c9); (try clear c9b0); (try clear c11); (try clear c13); (try clear c21); (try clear c27); (try clear c28); (try clear c29); (try clear c30); (try clear c31); (try clear c32); (try clear c33); (try clear c34); (try clear c35); (try clear c40); (try clear c48); (try clear c51); (try clear c52); (try clear c53); (try clear c56); (try clear c56b0); (try clear c58); (try clear c59); (try clear c60); (try clear c62); (try clear c63); (try clear c67); (try clear c71); (try clear c72); (try clear c73); (try clear c78); (try clear c78b0); (try clear hcz16_0); (try clear hcz16_1); (try clear hcz16_2); (try clear hcz22_0); (try clear hcz22_1); (try clear hcz22_2); (try clear hcz24_0); (try clear hcz24_1); (try clear hcz24_2); (try clear hcz29_0); (try clear hcz29_1); (try clear hcz29_2); (try clear hcz36_0); (try clear hcz36_1); (try clear hcz36_2); (try clear hcz38_0); (try clear hcz38_1); (try clear hcz38_2); (try clear hcz54_0); (try clear hcz54_1); (try clear hcz54_2); (try clear hcz61_0); (try clear hcz61_1); (try clear hcz61_2); (try clear hcz64_0); (try clear hcz64_1); (try clear hcz64_2); (try clear hcz74_0); (try clear hcz74_1); (try clear hcz74_2); (try clear hcz76_0); (try clear hcz76_1); (try clear hcz76_2); (try clear hcz7_0); (try clear hcz7_1); (try clear hcz7_2); (try clear hfz16_0); (try clear hfz16_1); (try clear hfz16_2); (try clear hfz22_0); (try clear hfz22_1); (try clear hfz22_2); (try clear hfz24_0); (try clear hfz24_1); (try clear hfz24_2); (try clear hfz29_0); (try clear hfz29_1); (try clear hfz29_2); (try clear hfz36_0); (try clear hfz36_1); (try clear hfz36_2); (try clear hfz38_0); (try clear hfz38_1); (try clear hfz38_2); (try clear hfz54_0); (try clear hfz54_1); (try clear hfz54_2); (try clear hfz61_0); (try clear hfz61_1); (try clear hfz61_2); (try clear hfz64_0); (try clear hfz64_1); (try clear hfz64_2); (try clear hfz74_0); (try clear hfz74_1); (try clear hfz74_2); (try clear hfz76_0); (try clear hfz76_1); (try clear hfz76_2); (try clear hfz7_0); (try clear hfz7_1); (try clear hfz7_2); (try clear p2)
            obtain ⟨kq, HA, HJ69, HO_659002, HO_665002, HO_671002, BK646, BK658, BK664, BK670, HB⟩ := hcut
            have hl671002_69 := (Kd.R_reads' HO_671002.out).1
            rw [hl671002_69] at HO_671002
            (try simp only [hl671002_69])
            (try simp only [hl671002_69] at BK646)
            (try simp only [hl671002_69] at BK658)
            (try simp only [hl671002_69] at BK664)
            (try simp only [hl671002_69] at BK670)
            (try simp only [hl671002_69] at HO_659002)
            (try simp only [hl671002_69] at HO_665002)
            cases kq with
            | zero => exact absurd HA.out (by simp [laws_FnExactRowTrim.j5])
            | succ kj69 =>
             have H := HA.out
             clear HA
             simp only [laws_FnExactRowTrim.j5] at H
             have HC79 := Aside0.mk H
             clear H
             go_upto_if 61 with (fail)
             go_cut [] (fun wc => ∃ (kq : Nat), Aside0 (laws_FnExactRowTrim.j6 kq a1 a2 t681 a0_0 a0_1 l0_2 t653 t654 t655 t665 t666 t682 = some r) ∧ Aside0 (kq ≤ kj69) ∧ Aside0 (Kd.R k_Item 33 wc w.heap.size (fun k_ => some k_ ≠ ((.slice Ao30 t679.length co30) : Value).ownBlock ∧ some k_ ≠ ((.slice Ao37 t682.length co37) : Value).ownBlock) (.slice Ao23 t655.length co23) t655) ∧ Aside0 (Kd.R k_Item 33 wc w.heap.size (fun k_ => some k_ ≠ ((.slice Ao23 t655.length co23) : Value).ownBlock ∧ some k_ ≠ ((.slice Ao37 t682.length co37) : Value).ownBlock) (.slice Ao30 t679.length co30) t679) ∧ Aside0 (Kd.R k_Item 33 wc w.heap.size (fun k_ => some k_ ≠ ((.slice Ao23 t655.length co23) : Value).ownBlock ∧ some k_ ≠ ((.slice Ao30 t679.length co30) : Value).ownBlock) (.slice Ao37 t682.length co37) t682) ∧ Aside0 (wc.heap[gb646]? = some (.cells #[.int .i64 a0_0, .int .i64 a0_1, (.slice A0_2 l0_2.length c0_2)] 56 (0, 0))) ∧ Aside0 (wc.heap[gb658]? = some (.cells #[.int .i64 t653, .int .i64 t654, (.slice Ao23 t655.length co23)] 26 (0, 0))) ∧ Aside0 (wc.heap[gb664]? = some (.cells #[.int .i64 t659, .int .i64 t660, (.slice Ao30 t679.length co30)] 26 (0, 0))) ∧ Aside0 (wc.heap[gb670]? = some (.cells #[.int .i64 t665, .int .i64 t666, (.slice Ao37 t682.length co37)] 26 (0, 0))) ∧ Aside0 (Below w.heap.size w wc))
             case first =>
              have H := HC79.out
              clear HC79
              by_cases c80 : t683 = t681
              ·
               rw [if_pos c80] at H
               have c80b0 : (t683 == t681) = true := beq_iff_eq.mpr c80
               have c80b1 : (t683 != t681) = false := bne_eq_false_iff_eq.mpr c80
               clear c80
               (first | rw [c80b0] | (simp only [i64_w, i32_w]; rw [c80b0]) | rw [c80b4] | rw [c80b3] | skip)
               have H' := Aside0.mk H
               clear H
               go_wp2
               go_meet
               case rel => exact ⟨_, H', ⟨by have := HJ4.out; have := HJ14.out; have := HJ42.out; have := HJ49.out; have := HJ65.out; have := HJ69.out; first | omega | exact Nat.le_refl _⟩, ⟨by (try simp only [hl665002_49]); (try simp only [hl671002_69]); (with_reducible repeat (first | apply Kd.R_alloc | apply Kd.R_drewN | apply Kd.R_drew)); exact HO_659002.out⟩, ⟨by (try simp only [hl665002_49]); (try simp only [hl671002_69]); (with_reducible repeat (first | apply Kd.R_alloc | apply Kd.R_drewN | apply Kd.R_drew)); exact HO_665002.out⟩, ⟨by (try simp only [hl665002_49]); (try simp only [hl671002_69]); (with_reducible repeat (first | apply Kd.R_alloc | apply Kd.R_drewN | apply Kd.R_drew)); exact HO_671002.out⟩, ⟨by (try simp only [hl665002_49]); (try simp only [hl671002_69]); (with_reducible repeat (first | refine blk_drewN ?_ _ | refine blk_drew ?_ | refine blk_alloc ?_ _)); exact BK646.out⟩, ⟨by (try simp only [hl665002_49]); (try simp only [hl671002_69]); (with_reducible repeat (first | refine blk_drewN ?_ _ | refine blk_drew ?_ | refine blk_alloc ?_ _)); exact BK658.out⟩, ⟨by (try simp only [hl665002_49]); (try simp only [hl671002_69]); (with_reducible repeat (first | refine blk_drewN ?_ _ | refine blk_drew ?_ | refine blk_alloc ?_ _)); exact BK664.out⟩, ⟨by (try simp only [hl665002_49]); (try simp only [hl671002_69]); (with_reducible repeat (first | refine blk_drewN ?_ _ | refine blk_drew ?_ | refine blk_alloc ?_ _)); exact BK670.out⟩, ⟨hb_ HB.out⟩⟩
              ·
               rw [if_neg c80] at H
               have c80b0 : (t683 == t681) = false := beq_eq_false_iff_ne.mpr c80
               have c80b1 : (t683 != t681) = true := bne_iff_ne.mpr c80
               (first | rw [c80b0] | (simp only [i64_w, i32_w]; rw [c80b0]) | rw [c80b4] | rw [c80b3] | skip)
               obtain rfl := Option.some.inj H
               go_wp2
               go_ret
               exact ⟨er_, hb_ HB.out⟩
             case rest =>
              clear HC79
              (try clear c1); (try clear c2); (try clear p2); (try clear c3); (try clear c4); (try clear c5); (try clear c6); (try clear c7); (try clear c8); (try clear c9); (try clear c9b0); (try clear c11); (try clear c13); (try clear c21); (try clear c27); (try clear c28); (try clear c29); (try clear c30); (try clear c31); (try clear c32); (try clear c33); (try clear c34); (try clear c35); (try clear c40); (try clear c48); (try clear c51); (try clear c52); (try clear c53); (try clear c56); (try clear c56b0); (try clear c58); (try clear c59); (try clear c60); (try clear c62); (try clear c63); (try clear c67); (try clear c71); (try clear c72); (try clear c73); (try clear c78); (try clear c78b0); (try clear c80); (try clear c80b0); (try clear c80b1); (try clear hcz16_0); (try clear hcz16_1); (try clear hcz16_2); (try clear hcz22_0); (try clear hcz22_1); (try clear hcz22_2); (try clear hcz24_0); (try clear hcz24_1); (try clear hcz24_2); (try clear hcz29_0); (try clear hcz29_1); (try clear hcz29_2); (try clear hcz36_0); (try clear hcz36_1); (try clear hcz36_2); (try clear hcz38_0); (try clear hcz38_1); (try clear hcz38_2); (try clear hcz54_0); (try clear hcz54_1); (try clear hcz54_2); (try clear hcz61_0); (try clear hcz61_1); (try clear hcz61_2); (try clear hcz64_0); (try clear hcz64_1); (try clear hcz64_2); (try clear hcz74_0); (try clear hcz74_1); (try clear hcz74_2); (try clear hcz76_0); (try clear hcz76_1); (try clear hcz76_2); (try clear hcz7_0); (try clear hcz7_1); (try clear hcz7_2); (try clear hfz16_0); (try clear hfz16_1); (try clear hfz16_2); (try clear hfz22_0); (try clear hfz22_1); (try clear hfz22_2); (try clear hfz24_0); (try clear hfz24_1); (try clear hfz24_2); (try clear hfz29_0); (try clear hfz29_1); (try clear hfz29_2); (try clear hfz36_0); (try clear hfz36_1); (try clear hfz36_2); (try clear hfz38_0); (try clear hfz38_1); (try clear hfz38_2); (try clear hfz54_0); (try clear hfz54_1); (try clear hfz54_2); (try clear hfz61_0); (try clear hfz61_1); (try clear hfz61_2); (try clear hfz64_0); (try clear hfz64_1); (try clear hfz64_2); (try clear hfz74_0); (try clear hfz74_1); (try clear hfz74_2); (try clear hfz76_0); (try clear hfz76_1); (try clear hfz76_2); (try clear hfz7_0); (try clear hfz7_1); (try clear hfz7_2); (try clear p2)
              obtain ⟨kq, HA, HJ78, HO_659002, HO_665002, HO_671002, BK646, BK658, BK664, BK670, HB⟩ := hcut
              cases kq with
              | zero => exact absurd HA.out (by simp [laws_FnExactRowTrim.j6])
              | succ kj78 =>
               have H := HA.out
               clear HA
               simp only [laws_FnExactRowTrim.j6] at H
               replace H := Option.bind_eq_some_iff.mp H
               obtain ⟨⟨t684, t685, t686⟩, A810, H⟩ := H
               replace H : ((impl_RowTrim.f kj78 t684 t685 t686 a1 a2).bind fun bt689 => ((laws_eqRow.f kj78 bt689.1 bt689.2.1 bt689.2.2 t653 t654 t655).bind fun t695 => (if t695 = true then (laws_FnExactRowTrim.j7 kj78 t681 t665 t666 t682) else (some false)))) = some r := H
               have A81 := Aside0.mk A810
               clear A810
               replace H := Option.bind_eq_some_iff.mp H
               obtain ⟨⟨t689, t690, t691⟩, A820, H⟩ := H
               replace H : ((laws_eqRow.f kj78 t689 t690 t691 t653 t654 t655).bind fun t695 => (if t695 = true then (laws_FnExactRowTrim.j7 kj78 t681 t665 t666 t682) else (some false))) = some r := H
               have A82 := Aside0.mk A820
               clear A820
               replace H := Option.bind_eq_some_iff.mp H
               obtain ⟨t695, A830, H⟩ := H
               replace H : (if t695 = true then (laws_FnExactRowTrim.j7 kj78 t681 t665 t666 t682) else (some false)) = some r := H
               have A83 := Aside0.mk A830
               clear A830
               have HC84 := Aside0.mk H
               clear H
               have hnb85 := NB646_658.out
               have hnc85 := NB658_646.out
               have hnb86 := NB646_664.out
               have hnc86 := NB664_646.out
               have hnb87 := NB646_670.out
               have hnc87 := NB670_646.out
               have hcz88_0 : wc.cell? ⟨gb646, 0, none⟩ = some (.int .i64 a0_0) := (blk_cell BK646.out 0).trans rfl
               have hcz88_1 : wc.cell? ⟨gb646, 1, none⟩ = some (.int .i64 a0_1) := (blk_cell BK646.out 1).trans rfl
               have hcz88_2 : wc.cell? ⟨gb646, 2, none⟩ = some (.slice A0_2 l0_2.length c0_2) := (blk_cell BK646.out 2).trans rfl
               have hfz88_0 := blk_frozen BK646.out 0
               have hfz88_1 := blk_frozen BK646.out 1
               have hfz88_2 := blk_frozen BK646.out 2
               go_upto_if 70 with (first | ((with_reducible refine gate_callee (f := 30) rfl ?_); refine goesL_ (some 63) rfl rfl Try.func30 (by kernel_rfl) rfl #[.agg #[.int .i64 a0_0, .int .i64 a0_1, .slice A0_2 l0_2.length c0_2]] rfl sm_ ?_; (with_reducible refine (laws_toRow.calls kj78 a0_0 a0_1 _ _ l0_2 t684 t685 t686 _ ?side1 ?side2 A81.out).mono ?_); (case side1 => repeat (first | exact (Kd.C_below HR0_2.out HB.out) | (with_reducible refine Kd.C_alloc ?_ _) | (with_reducible refine Kd.C_drewN ?_ _) | (with_reducible refine Kd.C_drew ?_))); (case side2 => exact HC0_2.out); rintro e w89 ⟨v687, rfl, ho0, hb⟩; refine ⟨_, rfl, ?_⟩; have n0_ := Aside0.mk (Kd.R_elder' (rq_ HO_659002.out) (Kd.R_base ho0) hb); have n1_ := Aside0.mk (Kd.R_elder' (rq_ HO_665002.out) (Kd.R_base ho0) hb); have n2_ := Aside0.mk (Kd.R_elder' (rq_ HO_671002.out) (Kd.R_base ho0) hb); have n3_ := Aside0.mk (Kd.R_lower (Kd.R_new' (Kd.R_new' (Kd.R_new' ho0 (Kd.R_lt (rq_ HO_659002.out))) (Kd.R_lt (rq_ HO_665002.out))) (Kd.R_lt (rq_ HO_671002.out))) (below_size (hb_ HB.out))); have n4_ := Aside0.mk (bb_ BK646.out hb); have n5_ := Aside0.mk (bb_ BK658.out hb); have n6_ := Aside0.mk (bb_ BK664.out hb); have n7_ := Aside0.mk (bb_ BK670.out hb); have n8_ := Aside0.mk (below_step (hb_ HB.out) hb); clear HO_659002; clear HO_665002; clear HO_671002; clear BK646; clear BK658; clear BK664; clear BK670; clear HB; have HO_659002 := n0_; have HO_665002 := n1_; have HO_671002 := n2_; have HO688 := n3_; have BK646 := n4_; have BK658 := n5_; have BK664 := n6_; have BK670 := n7_; have HB := n8_; clear n0_ n1_ n2_ n3_ n4_ n5_ n6_ n7_ n8_; (try clear hb); (try clear hb2); (try clear hk); (try clear hi); (try clear ho0); obtain ⟨Ao90, co90, eo90⟩ := Kd.R_slice HO688.out; subst eo90) | ((with_reducible refine gate_callee (f := 11) rfl ?_); refine goesL_ (some 66) rfl rfl Try.func11 (by kernel_rfl) rfl #[.agg #[.int .i64 t684, .int .i64 t685, .slice Ao90 t686.length co90], .int .i64 a1, .int .i64 a2] rfl sm_ ?_; (with_reducible refine (impl_RowTrim.calls kj78 t684 t685 _ _ t686 a1 a2 t689 t690 t691 _ ?side1 ?side2 A82.out).mono ?_); (case side1 => repeat (first | exact (Kd.R_reads' HO688.out).2.2 | (with_reducible refine Kd.C_alloc ?_ _) | (with_reducible refine Kd.C_drewN ?_ _) | (with_reducible refine Kd.C_drew ?_))); (case side2 => exact (Kd.R_reads' HO688.out).2.1); rintro e w91 ⟨v692, rfl, ho0, hb⟩; refine ⟨_, rfl, ?_⟩; have n0_ := Aside0.mk (Kd.R_elder' (rq_ HO_659002.out) (Kd.R_base ho0) hb); have n1_ := Aside0.mk (Kd.R_elder' (rq_ HO_665002.out) (Kd.R_base ho0) hb); have n2_ := Aside0.mk (Kd.R_elder' (rq_ HO_671002.out) (Kd.R_base ho0) hb); have n3_ := Aside0.mk (Kd.R_elder' (rq_ HO688.out) (Kd.R_base ho0) hb); have n4_ := Aside0.mk (Kd.R_lower (Kd.R_new' (Kd.R_new' (Kd.R_new' (Kd.R_new' ho0 (Kd.R_lt (rq_ HO_659002.out))) (Kd.R_lt (rq_ HO_665002.out))) (Kd.R_lt (rq_ HO_671002.out))) (Kd.R_lt (rq_ HO688.out))) (below_size (hb_ HB.out))); have n5_ := Aside0.mk (bb_ BK646.out hb); have n6_ := Aside0.mk (bb_ BK658.out hb); have n7_ := Aside0.mk (bb_ BK664.out hb); have n8_ := Aside0.mk (bb_ BK670.out hb); have n9_ := Aside0.mk (below_step (hb_ HB.out) hb); clear HO_659002; clear HO_665002; clear HO_671002; clear HO688; clear BK646; clear BK658; clear BK664; clear BK670; clear HB; have HO_659002 := n0_; have HO_665002 := n1_; have HO_671002 := n2_; have HO688 := n3_; have HO693 := n4_; have BK646 := n5_; have BK658 := n6_; have BK664 := n7_; have BK670 := n8_; have HB := n9_; clear n0_ n1_ n2_ n3_ n4_ n5_ n6_ n7_ n8_ n9_; (try clear hb); (try clear hb2); (try clear hk); (try clear hi); (try clear ho0)) | ((with_reducible refine gate_dst (N := 14) rfl ?_); refine box_event ?hg (N := 14) ?hd (cs := #[.int .i64 0, .int .i64 0, .slice none 0 0]) (t := 26) ?hr ?_; (case hd => rfl); (case hg => rfl); (case hr => first | (go_simp; done) | (go_simp; rfl)); intro gb694 hg w92 hbox hb; have n0_ := Aside0.mk (Kd.R_below (rq_ HO_659002.out) hb); have n1_ := Aside0.mk (Kd.R_below (rq_ HO_665002.out) hb); have n2_ := Aside0.mk (Kd.R_below (rq_ HO_671002.out) hb); have n3_ := Aside0.mk (Kd.R_below (rq_ HO688.out) hb); have n4_ := Aside0.mk (Kd.R_below (rq_ HO693.out) hb); have n5_ := Aside0.mk (bb_ BK646.out hb); have n6_ := Aside0.mk (bb_ BK658.out hb); have n7_ := Aside0.mk (bb_ BK664.out hb); have n8_ := Aside0.mk (bb_ BK670.out hb); have n9_ := Aside0.mk (below_step (hb_ HB.out) hb); have n10_ := Aside0.mk (hbox); have n11_ := Aside0.mk ((by rw [hg]; exact (below_size (hb_ HB.out)) : w.heap.size ≤ gb694)); have n12_ := Aside0.mk ((by rw [hg]; exact (below_size (hb_ HB.out)) : w.heap.size ≤ gb694)); have n13_ := Aside0.mk ((nl_ BK646.out hg : gb646 ≠ gb694)); have n14_ := Aside0.mk ((ng_ BK646.out hg : gb694 ≠ gb646)); have n15_ := Aside0.mk ((nl_ BK658.out hg : gb658 ≠ gb694)); have n16_ := Aside0.mk ((ng_ BK658.out hg : gb694 ≠ gb658)); have n17_ := Aside0.mk ((nl_ BK664.out hg : gb664 ≠ gb694)); have n18_ := Aside0.mk ((ng_ BK664.out hg : gb694 ≠ gb664)); have n19_ := Aside0.mk ((nl_ BK670.out hg : gb670 ≠ gb694)); have n20_ := Aside0.mk ((ng_ BK670.out hg : gb694 ≠ gb670)); clear HO_659002; clear HO_665002; clear HO_671002; clear HO688; clear HO693; clear BK646; clear BK658; clear BK664; clear BK670; clear HB; have HO_659002 := n0_; have HO_665002 := n1_; have HO_671002 := n2_; have HO688 := n3_; have HO693 := n4_; have BK646 := n5_; have BK658 := n6_; have BK664 := n7_; have BK670 := n8_; have HB := n9_; have BK694 := n10_; have GW694 := n11_; have GE694 := n12_; have NB646_694 := n13_; have NB694_646 := n14_; have NB658_694 := n15_; have NB694_658 := n16_; have NB664_694 := n17_; have NB694_664 := n18_; have NB670_694 := n19_; have NB694_670 := n20_; clear n0_ n1_ n2_ n3_ n4_ n5_ n6_ n7_ n8_ n9_ n10_ n11_ n12_ n13_ n14_ n15_ n16_ n17_ n18_ n19_ n20_; clear hb hbox hg; have hnb93 := NB694_646.out; have hnc93 := NB646_694.out; have hnb94 := NB694_658.out; have hnc94 := NB658_694.out; have hnb95 := NB694_664.out; have hnc95 := NB664_694.out; have hnb96 := NB694_670.out; have hnc96 := NB670_694.out; have hcz97_0 : w92.cell? ⟨gb694, 0, none⟩ = some (.int .i64 0) := (blk_cell BK694.out 0).trans rfl; have hcz97_1 : w92.cell? ⟨gb694, 1, none⟩ = some (.int .i64 0) := (blk_cell BK694.out 1).trans rfl; have hcz97_2 : w92.cell? ⟨gb694, 2, none⟩ = some (.slice none 0 0) := (blk_cell BK694.out 2).trans rfl; have hfz97_0 := blk_frozen BK694.out 0; have hfz97_1 := blk_frozen BK694.out 1; have hfz97_2 := blk_frozen BK694.out 2; obtain ⟨Ao98, co98, eo98⟩ := Kd.R_slice HO693.out; subst eo98; have hnb99 := NB658_664.out; have hnc99 := NB664_658.out; have hnb100 := NB658_670.out; have hnc100 := NB670_658.out; have hcz101_0 : w92.cell? ⟨gb658, 0, none⟩ = some (.int .i64 t653) := (blk_cell BK658.out 0).trans rfl; have hcz101_1 : w92.cell? ⟨gb658, 1, none⟩ = some (.int .i64 t654) := (blk_cell BK658.out 1).trans rfl; have hcz101_2 : w92.cell? ⟨gb658, 2, none⟩ = some (.slice Ao23 t655.length co23) := (blk_cell BK658.out 2).trans rfl; have hfz101_0 := blk_frozen BK658.out 0; have hfz101_1 := blk_frozen BK658.out 1; have hfz101_2 := blk_frozen BK658.out 2) | ((with_reducible refine gate_callee (f := 31) rfl ?_); refine goesL_ (some 69) rfl rfl Try.func31 (by kernel_rfl) rfl #[.agg #[.int .i64 t689, .int .i64 t690, .slice Ao98 t691.length co98], .agg #[.int .i64 t653, .int .i64 t654, .slice Ao23 t655.length co23]] rfl sm_ ?_; (with_reducible refine (laws_eqRow.calls kj78 t689 t690 _ _ t691 t653 t654 _ _ t655 t695 _ ?side1 ?side2 ?side3 ?side4 A83.out).mono ?_); (case side1 => refine (Kd.R_reads' (e := 33) (base := w.heap.size) (ok := fun k_ => ((((True ∧ some k_ ≠ (.slice Ao23 t655.length co23 : Value).ownBlock) ∧ some k_ ≠ (.slice Ao30 t679.length co30 : Value).ownBlock) ∧ some k_ ≠ (.slice Ao37 t682.length co37 : Value).ownBlock) ∧ some k_ ≠ (.slice Ao90 t686.length co90 : Value).ownBlock)) (n := t691.length) (c := co98) ?_).2.2; exact (rk_ HO693.out BK694.out)); (case side2 => exact (Kd.R_reads' HO693.out).2.1); (case side3 => refine (Kd.R_reads' (e := 33) (base := w.heap.size) (ok := fun k_ => (((some k_ ≠ (.slice Ao30 t679.length co30 : Value).ownBlock ∧ some k_ ≠ (.slice Ao37 t682.length co37 : Value).ownBlock) ∧ some k_ ≠ (.slice Ao90 t686.length co90 : Value).ownBlock) ∧ some k_ ≠ (.slice Ao98 t691.length co98 : Value).ownBlock)) (n := t655.length) (c := co23) ?_).2.2; exact (rk_ HO_659002.out BK694.out)); (case side4 => exact (Kd.R_reads' HO_659002.out).2.1); rintro e w102 ⟨rfl, hb⟩; refine ⟨_, rfl, ?_⟩; have n0_ := Aside0.mk (Kd.R_below (rk_ HO_659002.out BK694.out) hb); have n1_ := Aside0.mk (Kd.R_below (rk_ HO_665002.out BK694.out) hb); have n2_ := Aside0.mk (Kd.R_below (rk_ HO_671002.out BK694.out) hb); have n3_ := Aside0.mk (Kd.R_below (rk_ HO688.out BK694.out) hb); have n4_ := Aside0.mk (Kd.R_below (rk_ HO693.out BK694.out) hb); have n5_ := Aside0.mk (blk_below (g := gb646) (o := .cells #[.int .i64 a0_0, .int .i64 a0_1, .slice A0_2 l0_2.length c0_2] 56 (0, 0)) (bf_ NB646_694.out BK646.out) hb); have n6_ := Aside0.mk (blk_below (g := gb658) (o := .cells #[.int .i64 t653, .int .i64 t654, .slice Ao23 t655.length co23] 26 (0, 0)) (bf_ NB658_694.out BK658.out) hb); have n7_ := Aside0.mk (blk_below (g := gb664) (o := .cells #[.int .i64 t659, .int .i64 t660, .slice Ao30 t679.length co30] 26 (0, 0)) (bf_ NB664_694.out BK664.out) hb); have n8_ := Aside0.mk (blk_below (g := gb670) (o := .cells #[.int .i64 t665, .int .i64 t666, .slice Ao37 t682.length co37] 26 (0, 0)) (bf_ NB670_694.out BK670.out) hb); have n9_ := Aside0.mk (blk_below (g := gb694) (o := .cells #[.int .i64 t689, .int .i64 t690, .slice Ao98 t691.length co98] 26 (0, 0)) (bp_ BK694.out) hb); have n10_ := Aside0.mk (below_step (hb_ HB.out) hb); clear HO_659002; clear HO_665002; clear HO_671002; clear HO688; clear HO693; clear BK646; clear BK658; clear BK664; clear BK670; clear BK694; clear HB; have HO_659002 := n0_; have HO_665002 := n1_; have HO_671002 := n2_; have HO688 := n3_; have HO693 := n4_; have BK646 := n5_; have BK658 := n6_; have BK664 := n7_; have BK670 := n8_; have BK694 := n9_; have HB := n10_; clear n0_ n1_ n2_ n3_ n4_ n5_ n6_ n7_ n8_ n9_ n10_; (try clear hb); (try clear hb2); (try clear hk); (try clear hi)))
               (try simp only [Act.put, List.setIfInBounds_toArray, List.set_cons_zero, List.set_cons_succ])
               go_cut [] (fun wc => ∃ (kq : Nat), Aside0 (laws_FnExactRowTrim.j7 kq t681 t665 t666 t682 = some r) ∧ Aside0 (kq ≤ kj78) ∧ Aside0 (Kd.R k_Item 33 wc w.heap.size (fun k_ => some k_ ≠ ((.slice Ao30 t679.length co30) : Value).ownBlock ∧ some k_ ≠ ((.slice Ao37 t682.length co37) : Value).ownBlock ∧ some k_ ≠ ((.slice Ao98 t691.length co98) : Value).ownBlock) (.slice Ao23 t655.length co23) t655) ∧ Aside0 (Kd.R k_Item 33 wc w.heap.size (fun k_ => some k_ ≠ ((.slice Ao23 t655.length co23) : Value).ownBlock ∧ some k_ ≠ ((.slice Ao37 t682.length co37) : Value).ownBlock ∧ some k_ ≠ ((.slice Ao98 t691.length co98) : Value).ownBlock) (.slice Ao30 t679.length co30) t679) ∧ Aside0 (Kd.R k_Item 33 wc w.heap.size (fun k_ => some k_ ≠ ((.slice Ao23 t655.length co23) : Value).ownBlock ∧ some k_ ≠ ((.slice Ao30 t679.length co30) : Value).ownBlock ∧ some k_ ≠ ((.slice Ao98 t691.length co98) : Value).ownBlock) (.slice Ao37 t682.length co37) t682) ∧ Aside0 (Kd.R k_Item 33 wc w.heap.size (fun k_ => some k_ ≠ ((.slice Ao23 t655.length co23) : Value).ownBlock ∧ some k_ ≠ ((.slice Ao30 t679.length co30) : Value).ownBlock ∧ some k_ ≠ ((.slice Ao37 t682.length co37) : Value).ownBlock) (.slice Ao98 t691.length co98) t691) ∧ Aside0 (wc.heap[gb646]? = some (.cells #[.int .i64 a0_0, .int .i64 a0_1, (.slice A0_2 l0_2.length c0_2)] 56 (0, 0))) ∧ Aside0 (wc.heap[gb658]? = some (.cells #[.int .i64 t653, .int .i64 t654, (.slice Ao23 t655.length co23)] 26 (0, 0))) ∧ Aside0 (wc.heap[gb664]? = some (.cells #[.int .i64 t659, .int .i64 t660, (.slice Ao30 t679.length co30)] 26 (0, 0))) ∧ Aside0 (wc.heap[gb670]? = some (.cells #[.int .i64 t665, .int .i64 t666, (.slice Ao37 t682.length co37)] 26 (0, 0))) ∧ Aside0 (wc.heap[gb694]? = some (.cells #[.int .i64 t689, .int .i64 t690, (.slice Ao98 t691.length co98)] 26 (0, 0))) ∧ Aside0 (Below w.heap.size w wc))
               case first =>
                have H := HC84.out
                clear HC84
                by_cases c103 : t695 = true
                ·
                 subst c103
                 have H1 : (laws_FnExactRowTrim.j7 kj78 t681 t665 t666 t682) = some r := by rw [if_pos rfl] at H; exact H
                 clear H
                 have H := H1
                 clear H1
                 have H' := Aside0.mk H
                 clear H
                 go_wp2
                 go_meet
                 case rel => exact ⟨_, H', ⟨by have := HJ4.out; have := HJ14.out; have := HJ42.out; have := HJ49.out; have := HJ65.out; have := HJ69.out; have := HJ78.out; first | omega | exact Nat.le_refl _⟩, ⟨by (try simp only [hl665002_49]); (try simp only [hl671002_69]); (with_reducible repeat (first | apply Kd.R_alloc | apply Kd.R_drewN | apply Kd.R_drew)); exact Kd.R_mono HO_659002.out (fun _ hk => ⟨hk.1.1.1, ⟨hk.1.1.2, hk.2⟩⟩)⟩, ⟨by (try simp only [hl665002_49]); (try simp only [hl671002_69]); (with_reducible repeat (first | apply Kd.R_alloc | apply Kd.R_drewN | apply Kd.R_drew)); exact Kd.R_mono HO_665002.out (fun _ hk => ⟨hk.1.1.1, ⟨hk.1.1.2, hk.2⟩⟩)⟩, ⟨by (try simp only [hl665002_49]); (try simp only [hl671002_69]); (with_reducible repeat (first | apply Kd.R_alloc | apply Kd.R_drewN | apply Kd.R_drew)); exact Kd.R_mono HO_671002.out (fun _ hk => ⟨hk.1.1.1, ⟨hk.1.1.2, hk.2⟩⟩)⟩, ⟨by (try simp only [hl665002_49]); (try simp only [hl671002_69]); (with_reducible repeat (first | apply Kd.R_alloc | apply Kd.R_drewN | apply Kd.R_drew)); exact Kd.R_mono HO693.out (fun _ hk => ⟨hk.1.1.1.2, ⟨hk.1.1.2, hk.1.2⟩⟩)⟩, ⟨by (try simp only [hl665002_49]); (try simp only [hl671002_69]); (with_reducible repeat (first | refine blk_drewN ?_ _ | refine blk_drew ?_ | refine blk_alloc ?_ _)); exact BK646.out⟩, ⟨by (try simp only [hl665002_49]); (try simp only [hl671002_69]); (with_reducible repeat (first | refine blk_drewN ?_ _ | refine blk_drew ?_ | refine blk_alloc ?_ _)); exact BK658.out⟩, ⟨by (try simp only [hl665002_49]); (try simp only [hl671002_69]); (with_reducible repeat (first | refine blk_drewN ?_ _ | refine blk_drew ?_ | refine blk_alloc ?_ _)); exact BK664.out⟩, ⟨by (try simp only [hl665002_49]); (try simp only [hl671002_69]); (with_reducible repeat (first | refine blk_drewN ?_ _ | refine blk_drew ?_ | refine blk_alloc ?_ _)); exact BK670.out⟩, ⟨by (try simp only [hl665002_49]); (try simp only [hl671002_69]); (with_reducible repeat (first | refine blk_drewN ?_ _ | refine blk_drew ?_ | refine blk_alloc ?_ _)); exact BK694.out⟩, ⟨hb_ HB.out⟩⟩
                ·
                 replace c103 := Bool.eq_false_iff.mpr c103
                 subst c103
                 have H1 : (some false) = some r := by rw [if_neg (show ¬ (false = true) by decide)] at H; exact H
                 clear H
                 have H := H1
                 clear H1
                 obtain rfl := Option.some.inj H
                 go_wp2
                 go_ret
                 exact ⟨er_, hb_ HB.out⟩
               case rest =>
                clear HC84
                (try clear c1); (try clear c2); (try clear p2); (try clear c3); (try clear c4); (try clear c5); (try clear c6); (try clear c7); (try clear c8); (try clear c9); (try clear c9b0); (try clear c10); (try clear c11); (try clear c13); (try clear c21); (try clear c27); (try clear c28); (try clear c29); (try clear c30); (try clear c31); (try clear c32); (try clear c33); (try clear c34); (try clear c35); (try clear c40); (try clear c48); (try clear c51); (try clear c52); (try clear c53); (try clear c56); (try clear c56b0); (try clear c58); (try clear c59); (try clear c60); (try clear c62); (try clear c63); (try clear c67); (try clear c71); (try clear c72); (try clear c73); (try clear c78); (try clear c78b0); (try clear c80); (try clear c80b0); (try clear c80b1); (try clear c85); (try clear c86); (try clear c87); (try clear c93); (try clear c94); (try clear c95); (try clear c96); (try clear c99); (try clear c100); (try clear c103); (try clear hcz101_0); (try clear hcz101_1); (try clear hcz101_2); (try clear hcz16_0); (try clear hcz16_1); (try clear hcz16_2); (try clear hcz22_0); (try clear hcz22_1); (try clear hcz22_2); (try clear hcz24_0); (try clear hcz24_1); (try clear hcz24_2); (try clear hcz29_0); (try clear hcz29_1); (try clear hcz29_2); (try clear hcz36_0); (try clear hcz36_1); (try clear hcz36_2); (try clear hcz38_0); (try clear hcz38_1); (try clear hcz38_2); (try clear hcz54_0); (try clear hcz54_1); (try clear hcz54_2); (try clear hcz61_0); (try clear hcz61_1); (try clear hcz61_2); (try clear hcz64_0); (try clear hcz64_1); (try clear hcz64_2); (try clear hcz74_0); (try clear hcz74_1); (try clear hcz74_2); (try clear hcz76_0); (try clear hcz76_1); (try clear hcz76_2); (try clear hcz7_0); (try clear hcz7_1); (try clear hcz7_2); (try clear hcz88_0); (try clear hcz88_1); (try clear hcz88_2); (try clear hcz97_0); (try clear hcz97_1); (try clear hcz97_2); (try clear hfz101_0); (try clear hfz101_1); (try clear hfz101_2); (try clear hfz16_0); (try clear hfz16_1); (try clear hfz16_2); (try clear hfz22_0); (try clear hfz22_1); (try clear hfz22_2); (try clear hfz24_0); (try clear hfz24_1); (try clear hfz24_2); (try clear hfz29_0); (try clear hfz29_1); (try clear hfz29_2); (try clear hfz36_0); (try clear hfz36_1); (try clear hfz36_2); (try clear hfz38_0); (try clear hfz38_1); (try clear hfz38_2); (try clear hfz54_0); (try clear hfz54_1); (try clear hfz54_2); (try clear hfz61_0); (try clear hfz61_1); (try clear hfz61_2); (try clear hfz64_0); (try clear hfz64_1); (try clear hfz64_2); (try clear hfz74_0); (try clear hfz74_1); (try clear hfz74_2); (try clear hfz76_0); (try clear hfz76_1); (try clear hfz76_2); (try clear hfz7_0); (try clear hfz7_1); (try clear hfz7_2); (try clear hfz88_0); (try clear hfz88_1); (try clear hfz88_2); (try clear hfz97_0); (try clear hfz97_1); (try clear hfz97_2); (try clear p2)
                obtain ⟨kq, HA, HJ83, HO_659002, HO_665002, HO_671002, HO_695002, BK646, BK658, BK664, BK670, BK694, HB⟩ := hcut
                cases kq with
                | zero => exact absurd HA.out (by simp [laws_FnExactRowTrim.j7])
                | succ kj83 =>
                 have H := HA.out
                 clear HA
                 simp only [laws_FnExactRowTrim.j7] at H
                 replace H := Option.bind_eq_some_iff.mp H
                 obtain ⟨t696, A1040, H⟩ := H
                 replace H : (if t696 < 0 then (some false) else (if t696 = t681 then (some true) else (some false))) = some r := H
                 have A104 := Aside0.mk A1040
                 clear A1040
                 by_cases c105 : t696 < 0
                 ·
                  rw [if_pos c105] at H
                  have c105b0 : decide (t696 < 0) = true := decide_eq_true c105
                  clear c105
                  obtain rfl := Option.some.inj H
                  have hnb106 := NB670_646.out
                  have hnc106 := NB646_670.out
                  have hnb107 := NB670_658.out
                  have hnc107 := NB658_670.out
                  have hnb108 := NB670_664.out
                  have hnc108 := NB664_670.out
                  have hnb109 := NB670_694.out
                  have hnc109 := NB694_670.out
                  have hcz110_0 : wc.cell? ⟨gb670, 0, none⟩ = some (.int .i64 t665) := (blk_cell BK670.out 0).trans rfl
                  have hcz110_1 : wc.cell? ⟨gb670, 1, none⟩ = some (.int .i64 t666) := (blk_cell BK670.out 1).trans rfl
                  have hcz110_2 : wc.cell? ⟨gb670, 2, none⟩ = some (.slice Ao37 t682.length co37) := (blk_cell BK670.out 2).trans rfl
                  have hfz110_0 := blk_frozen BK670.out 0
                  have hfz110_1 := blk_frozen BK670.out 1
                  have hfz110_2 := blk_frozen BK670.out 2
                  go_wp2_with (first | ((with_reducible refine gate_callee (f := 33) rfl ?_); refine goesL_ (some 73) rfl rfl Try.func33 (by kernel_rfl) rfl #[.agg #[.int .i64 t665, .int .i64 t666, .slice Ao37 t682.length co37], .int .i64 1] rfl sm_ ?_; (with_reducible refine (laws_heldRow.calls kj83 t665 t666 _ _ t682 1 t696 _ ?side1 ?side2 A104.out).mono ?_); (case side1 => repeat (first | exact (Kd.R_reads' HO_671002.out).2.2 | (with_reducible refine Kd.C_alloc ?_ _) | (with_reducible refine Kd.C_drewN ?_ _) | (with_reducible refine Kd.C_drew ?_))); (case side2 => exact (Kd.R_reads' HO_671002.out).2.1); rintro e w111 ⟨rfl, hb⟩; refine ⟨_, rfl, ?_⟩; have n0_ := Aside0.mk (Kd.R_below (rq_ HO_659002.out) hb); have n1_ := Aside0.mk (Kd.R_below (rq_ HO_665002.out) hb); have n2_ := Aside0.mk (Kd.R_below (rq_ HO_671002.out) hb); have n3_ := Aside0.mk (Kd.R_below (rq_ HO_695002.out) hb); have n4_ := Aside0.mk (bb_ BK646.out hb); have n5_ := Aside0.mk (bb_ BK658.out hb); have n6_ := Aside0.mk (bb_ BK664.out hb); have n7_ := Aside0.mk (bb_ BK670.out hb); have n8_ := Aside0.mk (bb_ BK694.out hb); have n9_ := Aside0.mk (below_step (hb_ HB.out) hb); clear HO_659002; clear HO_665002; clear HO_671002; clear HO_695002; clear BK646; clear BK658; clear BK664; clear BK670; clear BK694; clear HB; have HO_659002 := n0_; have HO_665002 := n1_; have HO_671002 := n2_; have HO_695002 := n3_; have BK646 := n4_; have BK658 := n5_; have BK664 := n6_; have BK670 := n7_; have BK694 := n8_; have HB := n9_; clear n0_ n1_ n2_ n3_ n4_ n5_ n6_ n7_ n8_ n9_; (try clear hb); (try clear hb2); (try clear hk); (try clear hi)))
                  go_ret
                  exact ⟨er_, hb_ HB.out⟩
                 ·
                  rw [if_neg c105] at H
                  have c105b0 : decide (t696 < 0) = false := decide_eq_false c105
                  clear c105
                  by_cases c112 : t696 = t681
                  ·
                   rw [if_pos c112] at H
                   have c112b0 : (t696 == t681) = true := beq_iff_eq.mpr c112
                   have c112b1 : (t696 != t681) = false := bne_eq_false_iff_eq.mpr c112
                   clear c112
                   obtain rfl := Option.some.inj H
                   have hnb113 := NB670_646.out
                   have hnc113 := NB646_670.out
                   have hnb114 := NB670_658.out
                   have hnc114 := NB658_670.out
                   have hnb115 := NB670_664.out
                   have hnc115 := NB664_670.out
                   have hnb116 := NB670_694.out
                   have hnc116 := NB694_670.out
                   have hcz117_0 : wc.cell? ⟨gb670, 0, none⟩ = some (.int .i64 t665) := (blk_cell BK670.out 0).trans rfl
                   have hcz117_1 : wc.cell? ⟨gb670, 1, none⟩ = some (.int .i64 t666) := (blk_cell BK670.out 1).trans rfl
                   have hcz117_2 : wc.cell? ⟨gb670, 2, none⟩ = some (.slice Ao37 t682.length co37) := (blk_cell BK670.out 2).trans rfl
                   have hfz117_0 := blk_frozen BK670.out 0
                   have hfz117_1 := blk_frozen BK670.out 1
                   have hfz117_2 := blk_frozen BK670.out 2
                   go_wp2_with (first | ((with_reducible refine gate_callee (f := 33) rfl ?_); refine goesL_ (some 73) rfl rfl Try.func33 (by kernel_rfl) rfl #[.agg #[.int .i64 t665, .int .i64 t666, .slice Ao37 t682.length co37], .int .i64 1] rfl sm_ ?_; (with_reducible refine (laws_heldRow.calls kj83 t665 t666 _ _ t682 1 t696 _ ?side1 ?side2 A104.out).mono ?_); (case side1 => repeat (first | exact (Kd.R_reads' HO_671002.out).2.2 | (with_reducible refine Kd.C_alloc ?_ _) | (with_reducible refine Kd.C_drewN ?_ _) | (with_reducible refine Kd.C_drew ?_))); (case side2 => exact (Kd.R_reads' HO_671002.out).2.1); rintro e w118 ⟨rfl, hb⟩; refine ⟨_, rfl, ?_⟩; have n0_ := Aside0.mk (Kd.R_below (rq_ HO_659002.out) hb); have n1_ := Aside0.mk (Kd.R_below (rq_ HO_665002.out) hb); have n2_ := Aside0.mk (Kd.R_below (rq_ HO_671002.out) hb); have n3_ := Aside0.mk (Kd.R_below (rq_ HO_695002.out) hb); have n4_ := Aside0.mk (bb_ BK646.out hb); have n5_ := Aside0.mk (bb_ BK658.out hb); have n6_ := Aside0.mk (bb_ BK664.out hb); have n7_ := Aside0.mk (bb_ BK670.out hb); have n8_ := Aside0.mk (bb_ BK694.out hb); have n9_ := Aside0.mk (below_step (hb_ HB.out) hb); clear HO_659002; clear HO_665002; clear HO_671002; clear HO_695002; clear BK646; clear BK658; clear BK664; clear BK670; clear BK694; clear HB; have HO_659002 := n0_; have HO_665002 := n1_; have HO_671002 := n2_; have HO_695002 := n3_; have BK646 := n4_; have BK658 := n5_; have BK664 := n6_; have BK670 := n7_; have BK694 := n8_; have HB := n9_; clear n0_ n1_ n2_ n3_ n4_ n5_ n6_ n7_ n8_ n9_; (try clear hb); (try clear hb2); (try clear hk); (try clear hi)))
                   go_ret
                   exact ⟨er_, hb_ HB.out⟩
                  ·
                   rw [if_neg c112] at H
                   have c112b0 : (t696 == t681) = false := beq_eq_false_iff_ne.mpr c112
                   have c112b1 : (t696 != t681) = true := bne_iff_ne.mpr c112
                   obtain rfl := Option.some.inj H
                   have hnb119 := NB670_646.out
                   have hnc119 := NB646_670.out
                   have hnb120 := NB670_658.out
                   have hnc120 := NB658_670.out
                   have hnb121 := NB670_664.out
                   have hnc121 := NB664_670.out
                   have hnb122 := NB670_694.out
                   have hnc122 := NB694_670.out
                   have hcz123_0 : wc.cell? ⟨gb670, 0, none⟩ = some (.int .i64 t665) := (blk_cell BK670.out 0).trans rfl
                   have hcz123_1 : wc.cell? ⟨gb670, 1, none⟩ = some (.int .i64 t666) := (blk_cell BK670.out 1).trans rfl
                   have hcz123_2 : wc.cell? ⟨gb670, 2, none⟩ = some (.slice Ao37 t682.length co37) := (blk_cell BK670.out 2).trans rfl
                   have hfz123_0 := blk_frozen BK670.out 0
                   have hfz123_1 := blk_frozen BK670.out 1
                   have hfz123_2 := blk_frozen BK670.out 2
                   go_wp2_with (first | ((with_reducible refine gate_callee (f := 33) rfl ?_); refine goesL_ (some 73) rfl rfl Try.func33 (by kernel_rfl) rfl #[.agg #[.int .i64 t665, .int .i64 t666, .slice Ao37 t682.length co37], .int .i64 1] rfl sm_ ?_; (with_reducible refine (laws_heldRow.calls kj83 t665 t666 _ _ t682 1 t696 _ ?side1 ?side2 A104.out).mono ?_); (case side1 => repeat (first | exact (Kd.R_reads' HO_671002.out).2.2 | (with_reducible refine Kd.C_alloc ?_ _) | (with_reducible refine Kd.C_drewN ?_ _) | (with_reducible refine Kd.C_drew ?_))); (case side2 => exact (Kd.R_reads' HO_671002.out).2.1); rintro e w124 ⟨rfl, hb⟩; refine ⟨_, rfl, ?_⟩; have n0_ := Aside0.mk (Kd.R_below (rq_ HO_659002.out) hb); have n1_ := Aside0.mk (Kd.R_below (rq_ HO_665002.out) hb); have n2_ := Aside0.mk (Kd.R_below (rq_ HO_671002.out) hb); have n3_ := Aside0.mk (Kd.R_below (rq_ HO_695002.out) hb); have n4_ := Aside0.mk (bb_ BK646.out hb); have n5_ := Aside0.mk (bb_ BK658.out hb); have n6_ := Aside0.mk (bb_ BK664.out hb); have n7_ := Aside0.mk (bb_ BK670.out hb); have n8_ := Aside0.mk (bb_ BK694.out hb); have n9_ := Aside0.mk (below_step (hb_ HB.out) hb); clear HO_659002; clear HO_665002; clear HO_671002; clear HO_695002; clear BK646; clear BK658; clear BK664; clear BK670; clear BK694; clear HB; have HO_659002 := n0_; have HO_665002 := n1_; have HO_671002 := n2_; have HO_695002 := n3_; have BK646 := n4_; have BK658 := n5_; have BK664 := n6_; have BK670 := n7_; have BK694 := n8_; have HB := n9_; clear n0_ n1_ n2_ n3_ n4_ n5_ n6_ n7_ n8_ n9_; (try clear hb); (try clear hb2); (try clear hk); (try clear hi)))
                   go_ret
                   exact ⟨er_, hb_ HB.out⟩
end Go.Proofs.Ythmjhhkheohgfaa.Q
