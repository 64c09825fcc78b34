/- Made by a program of ours out of the print of the loaded functions: for each of some functions a plain function, and the walk that shows that a call comes to what it says. No condition but those of each theorem. -/
import Derived.Test.YtiknkolclcdajaaZXRowPack0
import Derived.Test.YtiknkolclcdajaaZXRowPacka
import Derived.Test.YtiknkolclcdajaaZXRowPackb
import Derived.Test.YtiknkolclcdajaaZXRowPackc
import Derived.Test.YtiknkolclcdajaaZXRowPacke
namespace Go.Proofs.Ytiknkolclcdajaa.Q
open Go.RowKit Go.Proofs.YtiknkolclcdajaaW.PrintWords Go.Proofs.YtiknkolclcdajaaW.PrintLast Go.Proofs.YtiknkolclcdajaaW.PrintMore
attribute [local go_sem] max2_int min2_int max_two min_two max_three min_three max_four min_four   -- for this text's walks alone
set_option linter.unusedVariables false
set_option linter.unusedSimpArgs false

/-! ### laws_FnExactRowPack: function 7 -/
mutual
def laws_FnExactRowPack.j0 : Nat → Int → Int → Int → List (S_LItem) → Option (Bool)
 | 0, _, _, _, _ => none
 | k + 1, x1, x1087000, x1087001, x1087002 => (laws_toRow.f k x1087000 x1087001 x1087002).bind fun bt1088 => ((spec_RowPack.f k bt1088.1 bt1088.2.1 bt1088.2.2 x1).bind fun bt1093 => ((laws_toRow.f k x1087000 x1087001 x1087002).bind fun bt1099 => ((impl_RowPack.f k bt1099.1 bt1099.2.1 bt1099.2.2 x1).bind fun bt1105 => ((laws_eqRow.f k bt1105.1 bt1105.2.1 bt1105.2.2 bt1093.1 bt1093.2.1 bt1093.2.2).bind fun t1111 => (if t1111 = true then (laws_FnExactRowPack.j1 k x1 x1087000 x1087001 x1087002 bt1093.1 bt1093.2.1 bt1093.2.2 bt1099.1 bt1099.2.1 bt1099.2.2 bt1105.1 bt1105.2.1 bt1105.2.2) else (some false))))))
def laws_FnExactRowPack.j1 : Nat → Int → Int → Int → List (S_LItem) → Int → Int → List (S_Item) → Int → Int → List (S_Item) → Int → Int → List (S_Item) → Option (Bool)
 | 0, _, _, _, _, _, _, _, _, _, _, _, _, _ => none
 | k + 1, x1, x1087000, x1087001, x1087002, x1099000, x1099001, x1099002, x1105000, x1105001, x1105002, x1111000, x1111001, x1111002 => (laws_toRow.f k x1087000 x1087001 x1087002).bind fun bt1112 => ((laws_eqRow.f k x1105000 x1105001 x1105002 bt1112.1 bt1112.2.1 bt1112.2.2).bind fun t1117 => (if t1117 = true then (laws_FnExactRowPack.j2 k x1 x1087000 x1087001 x1087002 x1099000 x1099001 x1099002 x1105000 x1105001 x1105002 x1111000 x1111001 x1111002) else (some false)))
def laws_FnExactRowPack.j2 : Nat → Int → Int → Int → List (S_LItem) → Int → Int → List (S_Item) → Int → Int → List (S_Item) → Int → Int → List (S_Item) → Option (Bool)
 | 0, _, _, _, _, _, _, _, _, _, _, _, _, _ => none
 | k + 1, x1, x1087000, x1087001, x1087002, x1099000, x1099001, x1099002, x1105000, x1105001, x1105002, x1111000, x1111001, x1111002 => (laws_markRow.f k x1105000 x1105001 x1105002 1).bind fun bt1118 => (if bt1118.1 < 0 then (laws_FnExactRowPack.j3 k x1 true x1087000 x1087001 x1087002 x1099000 x1099001 x1099002 x1111000 x1111001 x1111002) else ((laws_eqRow.f k x1111000 x1111001 x1111002 x1099000 x1099001 x1099002).bind fun t1120 => (laws_FnExactRowPack.j3 k x1 (!t1120) x1087000 x1087001 x1087002 x1099000 x1099001 x1099002 x1111000 x1111001 x1111002)))
def laws_FnExactRowPack.j3 : Nat → Int → Bool → Int → Int → List (S_LItem) → Int → Int → List (S_Item) → Int → Int → List (S_Item) → Option (Bool)
 | 0, _, _, _, _, _, _, _, _, _, _, _ => none
 | k + 1, x1, x46, x1087000, x1087001, x1087002, x1099000, x1099001, x1099002, x1111000, x1111001, x1111002 => if x46 = true then (some false) else (laws_FnExactRowPack.j4 k x1 x1087000 x1087001 x1087002 x1099000 x1099001 x1099002 x1111000 x1111001 x1111002)
def laws_FnExactRowPack.j4 : Nat → Int → Int → Int → List (S_LItem) → Int → Int → List (S_Item) → Int → Int → List (S_Item) → Option (Bool)
 | 0, _, _, _, _, _, _, _, _, _, _ => none
 | k + 1, x1, x1087000, x1087001, x1087002, x1099000, x1099001, x1099002, x1111000, x1111001, x1111002 => (laws_markRow.f k x1111000 x1111001 x1111002 1).bind fun bt1121 => ((laws_heldRow.f k x1111000 x1111001 bt1121.2 1).bind fun t1123 => (if t1123 < 0 then (some false) else (laws_FnExactRowPack.j5 k x1 bt1121.1 t1123 x1087000 x1087001 x1087002 x1099000 x1099001 x1099002 x1111000 x1111001 bt1121.2)))
def laws_FnExactRowPack.j5 : Nat → Int → Int → Int → Int → Int → List (S_LItem) → Int → Int → List (S_Item) → Int → Int → List (S_Item) → Option (Bool)
 | 0, _, _, _, _, _, _, _, _, _, _, _, _ => none
 | k + 1, x1, x10, x11, x1087000, x1087001, x1087002, x1099000, x1099001, x1099002, x1111000, x1111001, x1111002 => if x11 = x10 then (laws_FnExactRowPack.j6 k x1 x10 x1087000 x1087001 x1087002 x1099000 x1099001 x1099002 x1111000 x1111001 x1111002) else (some false)
def laws_FnExactRowPack.j6 : Nat → Int → Int → Int → Int → List (S_LItem) → Int → Int → List (S_Item) → Int → Int → List (S_Item) → Option (Bool)
 | 0, _, _, _, _, _, _, _, _, _, _, _ => none
 | k + 1, x1, x10, x1087000, x1087001, x1087002, x1099000, x1099001, x1099002, x1111000, x1111001, x1111002 => (laws_toRow.f k x1087000 x1087001 x1087002).bind fun bt1124 => ((impl_RowPack.f k bt1124.1 bt1124.2.1 bt1124.2.2 x1).bind fun bt1129 => ((laws_eqRow.f k bt1129.1 bt1129.2.1 bt1129.2.2 x1099000 x1099001 x1099002).bind fun t1135 => (if t1135 = true then (laws_FnExactRowPack.j7 k x10 x1111000 x1111001 x1111002) else (some false))))
def laws_FnExactRowPack.j7 : Nat → Int → Int → Int → List (S_Item) → Option (Bool)
 | 0, _, _, _, _ => none
 | k + 1, x10, x1111000, x1111001, x1111002 => (laws_heldRow.f k x1111000 x1111001 x1111002 1).bind fun t1136 => (if t1136 < 0 then (some false) else (if t1136 = x10 then (some true) else (some false)))
end
def laws_FnExactRowPack.f (k : Nat) (a0_0 : Int) (a0_1 : Int) (l0_2 : List (S_LItem)) (a1 : Int) : Option (Bool) := (laws_szRow.f k a0_0 a0_1 l0_2 1048576).bind fun t1087 => (if t1087 < 0 then (some true) else (laws_FnExactRowPack.j0 k a1 a0_0 a0_1 l0_2))
theorem laws_FnExactRowPack.mono_l : ∀ k, (∀ y0 y1 y2 y3, LeO (laws_FnExactRowPack.j0 k y0 y1 y2 y3) (laws_FnExactRowPack.j0 (k + 1) y0 y1 y2 y3)) ∧ (∀ y0 y1 y2 y3 y4 y5 y6 y7 y8 y9 y10 y11 y12, LeO (laws_FnExactRowPack.j1 k y0 y1 y2 y3 y4 y5 y6 y7 y8 y9 y10 y11 y12) (laws_FnExactRowPack.j1 (k + 1) y0 y1 y2 y3 y4 y5 y6 y7 y8 y9 y10 y11 y12)) ∧ (∀ y0 y1 y2 y3 y4 y5 y6 y7 y8 y9 y10 y11 y12, LeO (laws_FnExactRowPack.j2 k y0 y1 y2 y3 y4 y5 y6 y7 y8 y9 y10 y11 y12) (laws_FnExactRowPack.j2 (k + 1) y0 y1 y2 y3 y4 y5 y6 y7 y8 y9 y10 y11 y12)) ∧ (∀ y0 y1 y2 y3 y4 y5 y6 y7 y8 y9 y10, LeO (laws_FnExactRowPack.j3 k y0 y1 y2 y3 y4 y5 y6 y7 y8 y9 y10) (laws_FnExactRowPack.j3 (k + 1) y0 y1 y2 y3 y4 y5 y6 y7 y8 y9 y10)) ∧ (∀ y0 y1 y2 y3 y4 y5 y6 y7 y8 y9, LeO (laws_FnExactRowPack.j4 k y0 y1 y2 y3 y4 y5 y6 y7 y8 y9) (laws_FnExactRowPack.j4 (k + 1) y0 y1 y2 y3 y4 y5 y6 y7 y8 y9)) ∧ (∀ y0 y1 y2 y3 y4 y5 y6 y7 y8 y9 y10 y11, LeO (laws_FnExactRowPack.j5 k y0 y1 y2 y3 y4 y5 y6 y7 y8 y9 y10 y11) (laws_FnExactRowPack.j5 (k + 1) y0 y1 y2 y3 y4 y5 y6 y7 y8 y9 y10 y11)) ∧ (∀ y0 y1 y2 y3 y4 y5 y6 y7 y8 y9 y10, LeO (laws_FnExactRowPack.j6 k y0 y1 y2 y3 y4 y5 y6 y7 y8 y9 y10) (laws_FnExactRowPack.j6 (k + 1) y0 y1 y2 y3 y4 y5 y6 y7 y8 y9 y10)) ∧ (∀ y0 y1 y2 y3, LeO (laws_FnExactRowPack.j7 k y0 y1 y2 y3) (laws_FnExactRowPack.j7 (k + 1) y0 y1 y2 y3))
 | 0 => ⟨fun _ _ _ _ r h => by simp [laws_FnExactRowPack.j0] at h, fun _ _ _ _ _ _ _ _ _ _ _ _ _ r h => by simp [laws_FnExactRowPack.j1] at h, fun _ _ _ _ _ _ _ _ _ _ _ _ _ r h => by simp [laws_FnExactRowPack.j2] at h, fun _ _ _ _ _ _ _ _ _ _ _ r h => by simp [laws_FnExactRowPack.j3] at h, fun _ _ _ _ _ _ _ _ _ _ r h => by simp [laws_FnExactRowPack.j4] at h, fun _ _ _ _ _ _ _ _ _ _ _ _ r h => by simp [laws_FnExactRowPack.j5] at h, fun _ _ _ _ _ _ _ _ _ _ _ r h => by simp [laws_FnExactRowPack.j6] at h, fun _ _ _ _ r h => by simp [laws_FnExactRowPack.j7] at h⟩
 | k + 1 => by
  obtain ⟨ih0, ih1, ih2, ih3, ih4, ih5, ih6, ih7⟩ := laws_FnExactRowPack.mono_l k
  refine ⟨?_, ?_, ?_, ?_, ?_, ?_, ?_, ?_⟩
  ·
   intro y0 y1 y2 y3
   unfold laws_FnExactRowPack.j0
   repeat' first
   | (with_reducible exact ih0 _ _ _ _)
   | (with_reducible exact ih1 _ _ _ _ _ _ _ _ _ _ _ _ _)
   | (with_reducible exact ih2 _ _ _ _ _ _ _ _ _ _ _ _ _)
   | (with_reducible exact ih3 _ _ _ _ _ _ _ _ _ _ _)
   | (with_reducible exact ih4 _ _ _ _ _ _ _ _ _ _)
   | (with_reducible exact ih5 _ _ _ _ _ _ _ _ _ _ _ _)
   | (with_reducible exact ih6 _ _ _ _ _ _ _ _ _ _ _)
   | (with_reducible exact ih7 _ _ _ _)
   | (with_reducible exact impl_RowPack.mono _ _ _ _ _)
   | (with_reducible exact laws_eqRow.mono _ _ _ _ _ _ _)
   | (with_reducible exact laws_heldRow.mono _ _ _ _ _)
   | (with_reducible exact laws_markRow.mono _ _ _ _ _)
   | (with_reducible exact laws_szRow.mono _ _ _ _ _)
   | (with_reducible exact laws_toRow.mono _ _ _ _)
   | (with_reducible exact spec_RowPack.mono _ _ _ _ _)
   | (with_reducible exact LeO.refl _)
   | (with_reducible exact LeO.none _)
   | (with_reducible refine LeO.ite ?_ ?_)
   | (with_reducible refine LeO.bind ?_ (fun _ => ?_))
   | exact ih0 _ _ _ _
   | exact ih1 _ _ _ _ _ _ _ _ _ _ _ _ _
   | exact ih2 _ _ _ _ _ _ _ _ _ _ _ _ _
   | exact ih3 _ _ _ _ _ _ _ _ _ _ _
   | exact ih4 _ _ _ _ _ _ _ _ _ _
   | exact ih5 _ _ _ _ _ _ _ _ _ _ _ _
   | exact ih6 _ _ _ _ _ _ _ _ _ _ _
   | exact ih7 _ _ _ _
   | exact impl_RowPack.mono _ _ _ _ _
   | exact laws_eqRow.mono _ _ _ _ _ _ _
   | exact laws_heldRow.mono _ _ _ _ _
   | exact laws_markRow.mono _ _ _ _ _
   | exact laws_szRow.mono _ _ _ _ _
   | exact laws_toRow.mono _ _ _ _
   | exact spec_RowPack.mono _ _ _ _ _
   | exact LeO.none _
   | refine LeO.ite ?_ ?_
   | refine LeO.bind ?_ (fun _ => ?_)
  ·
   intro y0 y1 y2 y3 y4 y5 y6 y7 y8 y9 y10 y11 y12
   unfold laws_FnExactRowPack.j1
   repeat' first
   | (with_reducible exact ih0 _ _ _ _)
   | (with_reducible exact ih1 _ _ _ _ _ _ _ _ _ _ _ _ _)
   | (with_reducible exact ih2 _ _ _ _ _ _ _ _ _ _ _ _ _)
   | (with_reducible exact ih3 _ _ _ _ _ _ _ _ _ _ _)
   | (with_reducible exact ih4 _ _ _ _ _ _ _ _ _ _)
   | (with_reducible exact ih5 _ _ _ _ _ _ _ _ _ _ _ _)
   | (with_reducible exact ih6 _ _ _ _ _ _ _ _ _ _ _)
   | (with_reducible exact ih7 _ _ _ _)
   | (with_reducible exact impl_RowPack.mono _ _ _ _ _)
   | (with_reducible exact laws_eqRow.mono _ _ _ _ _ _ _)
   | (with_reducible exact laws_heldRow.mono _ _ _ _ _)
   | (with_reducible exact laws_markRow.mono _ _ _ _ _)
   | (with_reducible exact laws_szRow.mono _ _ _ _ _)
   | (with_reducible exact laws_toRow.mono _ _ _ _)
   | (with_reducible exact spec_RowPack.mono _ _ _ _ _)
   | (with_reducible exact LeO.refl _)
   | (with_reducible exact LeO.none _)
   | (with_reducible refine LeO.ite ?_ ?_)
   | (with_reducible refine LeO.bind ?_ (fun _ => ?_))
   | exact ih0 _ _ _ _
   | exact ih1 _ _ _ _ _ _ _ _ _ _ _ _ _
   | exact ih2 _ _ _ _ _ _ _ _ _ _ _ _ _
   | exact ih3 _ _ _ _ _ _ _ _ _ _ _
   | exact ih4 _ _ _ _ _ _ _ _ _ _
   | exact ih5 _ _ _ _ _ _ _ _ _ _ _ _
   | exact ih6 _ _ _ _ _ _ _ _ _ _ _
   | exact ih7 _ _ _ _
   | exact impl_RowPack.mono _ _ _ _ _
   | exact laws_eqRow.mono _ _ _ _ _ _ _
   | exact laws_heldRow.mono _ _ _ _ _
   | exact laws_markRow.mono _ _ _ _ _
   | exact laws_szRow.mono _ _ _ _ _
   | exact laws_toRow.mono _ _ _ _
   | exact spec_RowPack.mono _ _ _ _ _
   | exact LeO.none _
   | refine LeO.ite ?_ ?_
   | refine LeO.bind ?_ (fun _ => ?_)
  ·
   intro y0 y1 y2 y3 y4 y5 y6 y7 y8 y9 y10 y11 y12
   unfold laws_FnExactRowPack.j2
   repeat' first
   | (with_reducible exact ih0 _ _ _ _)
   | (with_reducible exact ih1 _ _ _ _ _ _ _ _ _ _ _ _ _)
   | (with_reducible exact ih2 _ _ _ _ _ _ _ _ _ _ _ _ _)
   | (with_reducible exact ih3 _ _ _ _ _ _ _ _ _ _ _)
   | (with_reducible exact ih4 _ _ _ _ _ _ _ _ _ _)
   | (with_reducible exact ih5 _ _ _ _ _ _ _ _ _ _ _ _)
   | (with_reducible exact ih6 _ _ _ _ _ _ _ _ _ _ _)
   | (with_reducible exact ih7 _ _ _ _)
   | (with_reducible exact impl_RowPack.mono _ _ _ _ _)
   | (with_reducible exact laws_eqRow.mono _ _ _ _ _ _ _)
   | (with_reducible exact laws_heldRow.mono _ _ _ _ _)
   | (with_reducible exact laws_markRow.mono _ _ _ _ _)
   | (with_reducible exact laws_szRow.mono _ _ _ _ _)
   | (with_reducible exact laws_toRow.mono _ _ _ _)
   | (with_reducible exact spec_RowPack.mono _ _ _ _ _)
   | (with_reducible exact LeO.refl _)
   | (with_reducible exact LeO.none _)
   | (with_reducible refine LeO.ite ?_ ?_)
   | (with_reducible refine LeO.bind ?_ (fun _ => ?_))
   | exact ih0 _ _ _ _
   | exact ih1 _ _ _ _ _ _ _ _ _ _ _ _ _
   | exact ih2 _ _ _ _ _ _ _ _ _ _ _ _ _
   | exact ih3 _ _ _ _ _ _ _ _ _ _ _
   | exact ih4 _ _ _ _ _ _ _ _ _ _
   | exact ih5 _ _ _ _ _ _ _ _ _ _ _ _
   | exact ih6 _ _ _ _ _ _ _ _ _ _ _
   | exact ih7 _ _ _ _
   | exact impl_RowPack.mono _ _ _ _ _
   | exact laws_eqRow.mono _ _ _ _ _ _ _
   | exact laws_heldRow.mono _ _ _ _ _
   | exact laws_markRow.mono _ _ _ _ _
   | exact laws_szRow.mono _ _ _ _ _
   | exact laws_toRow.mono _ _ _ _
   | exact spec_RowPack.mono _ _ _ _ _
   | exact LeO.none _
   | refine LeO.ite ?_ ?_
   | refine LeO.bind ?_ (fun _ => ?_)
  ·
   intro y0 y1 y2 y3 y4 y5 y6 y7 y8 y9 y10
   unfold laws_FnExactRowPack.j3
   repeat' first
   | (with_reducible exact ih0 _ _ _ _)
   | (with_reducible exact ih1 _ _ _ _ _ _ _ _ _ _ _ _ _)
   | (with_reducible exact ih2 _ _ _ _ _ _ _ _ _ _ _ _ _)
   | (with_reducible exact ih3 _ _ _ _ _ _ _ _ _ _ _)
   | (with_reducible exact ih4 _ _ _ _ _ _ _ _ _ _)
   | (with_reducible exact ih5 _ _ _ _ _ _ _ _ _ _ _ _)
   | (with_reducible exact ih6 _ _ _ _ _ _ _ _ _ _ _)
   | (with_reducible exact ih7 _ _ _ _)
   | (with_reducible exact impl_RowPack.mono _ _ _ _ _)
   | (with_reducible exact laws_eqRow.mono _ _ _ _ _ _ _)
   | (with_reducible exact laws_heldRow.mono _ _ _ _ _)
   | (with_reducible exact laws_markRow.mono _ _ _ _ _)
   | (with_reducible exact laws_szRow.mono _ _ _ _ _)
   | (with_reducible exact laws_toRow.mono _ _ _ _)
   | (with_reducible exact spec_RowPack.mono _ _ _ _ _)
   | (with_reducible exact LeO.refl _)
   | (with_reducible exact LeO.none _)
   | (with_reducible refine LeO.ite ?_ ?_)
   | (with_reducible refine LeO.bind ?_ (fun _ => ?_))
   | exact ih0 _ _ _ _
   | exact ih1 _ _ _ _ _ _ _ _ _ _ _ _ _
   | exact ih2 _ _ _ _ _ _ _ _ _ _ _ _ _
   | exact ih3 _ _ _ _ _ _ _ _ _ _ _
   | exact ih4 _ _ _ _ _ _ _ _ _ _
   | exact ih5 _ _ _ _ _ _ _ _ _ _ _ _
   | exact ih6 _ _ _ _ _ _ _ _ _ _ _
   | exact ih7 _ _ _ _
   | exact impl_RowPack.mono _ _ _ _ _
   | exact laws_eqRow.mono _ _ _ _ _ _ _
   | exact laws_heldRow.mono _ _ _ _ _
   | exact laws_markRow.mono _ _ _ _ _
   | exact laws_szRow.mono _ _ _ _ _
   | exact laws_toRow.mono _ _ _ _
   | exact spec_RowPack.mono _ _ _ _ _
   | exact LeO.none _
   | refine LeO.ite ?_ ?_
   | refine LeO.bind ?_ (fun _ => ?_)
  ·
   intro y0 y1 y2 y3 y4 y5 y6 y7 y8 y9
   unfold laws_FnExactRowPack.j4
   repeat' first
   | (with_reducible exact ih0 _ _ _ _)
   | (with_reducible exact ih1 _ _ _ _ _ _ _ _ _ _ _ _ _)
   | (with_reducible exact ih2 _ _ _ _ _ _ _ _ _ _ _ _ _)
   | (with_reducible exact ih3 _ _ _ _ _ _ _ _ _ _ _)
   | (with_reducible exact ih4 _ _ _ _ _ _ _ _ _ _)
   | (with_reducible exact ih5 _ _ _ _ _ _ _ _ _ _ _ _)
   | (with_reducible exact ih6 _ _ _ _ _ _ _ _ _ _ _)
   | (with_reducible exact ih7 _ _ _ _)
   | (with_reducible exact impl_RowPack.mono _ _ _ _ _)
   | (with_reducible exact laws_eqRow.mono _ _ _ _ _ _ _)
   | (with_reducible exact laws_heldRow.mono _ _ _ _ _)
   | (with_reducible exact laws_markRow.mono _ _ _ _ _)
   | (with_reducible exact laws_szRow.mono _ _ _ _ _)
   | (with_reducible exact laws_toRow.mono _ _ _ _)
   | (with_reducible exact spec_RowPack.mono _ _ _ _ _)
   | (with_reducible exact LeO.refl _)
   | (with_reducible exact LeO.none _)
   | (with_reducible refine LeO.ite ?_ ?_)
   | (with_reducible refine LeO.bind ?_ (fun _ => ?_))
   | exact ih0 _ _ _ _
   | exact ih1 _ _ _ _ _ _ _ _ _ _ _ _ _
   | exact ih2 _ _ _ _ _ _ _ _ _ _ _ _ _
   | exact ih3 _ _ _ _ _ _ _ _ _ _ _
   | exact ih4 _ _ _ _ _ _ _ _ _ _
   | exact ih5 _ _ _ _ _ _ _ _ _ _ _ _
   | exact ih6 _ _ _ _ _ _ _ _ _ _ _
   | exact ih7 _ _ _ _
   | exact impl_RowPack.mono _ _ _ _ _
   | exact laws_eqRow.mono _ _ _ _ _ _ _
   | exact laws_heldRow.mono _ _ _ _ _
   | exact laws_markRow.mono _ _ _ _ _
   | exact laws_szRow.mono _ _ _ _ _
   | exact laws_toRow.mono _ _ _ _
   | exact spec_RowPack.mono _ _ _ _ _
   | exact LeO.none _
   | refine LeO.ite ?_ ?_
   | refine LeO.bind ?_ (fun _ => ?_)
  ·
   intro y0 y1 y2 y3 y4 y5 y6 y7 y8 y9 y10 y11
   unfold laws_FnExactRowPack.j5
   repeat' first
   | (with_reducible exact ih0 _ _ _ _)
   | (with_reducible exact ih1 _ _ _ _ _ _ _ _ _ _ _ _ _)
   | (with_reducible exact ih2 _ _ _ _ _ _ _ _ _ _ _ _ _)
   | (with_reducible exact ih3 _ _ _ _ _ _ _ _ _ _ _)
   | (with_reducible exact ih4 _ _ _ _ _ _ _ _ _ _)
   | (with_reducible exact ih5 _ _ _ _ _ _ _ _ _ _ _ _)
   | (with_reducible exact ih6 _ _ _ _ _ _ _ _ _ _ _)
   | (with_reducible exact ih7 _ _ _ _)
   | (with_reducible exact impl_RowPack.mono _ _ _ _ _)
   | (with_reducible exact laws_eqRow.mono _ _ _ _ _ _ _)
   | (with_reducible exact laws_heldRow.mono _ _ _ _ _)
   | (with_reducible exact laws_markRow.mono _ _ _ _ _)
   | (with_reducible exact laws_szRow.mono _ _ _ _ _)
   | (with_reducible exact laws_toRow.mono _ _ _ _)
   | (with_reducible exact spec_RowPack.mono _ _ _ _ _)
   | (with_reducible exact LeO.refl _)
   | (with_reducible exact LeO.none _)
   | (with_reducible refine LeO.ite ?_ ?_)
   | (with_reducible refine LeO.bind ?_ (fun _ => ?_))
   | exact ih0 _ _ _ _
   | exact ih1 _ _ _ _ _ _ _ _ _ _ _ _ _
   | exact ih2 _ _ _ _ _ _ _ _ _ _ _ _ _
   | exact ih3 _ _ _ _ _ _ _ _ _ _ _
   | exact ih4 _ _ _ _ _ _ _ _ _ _
   | exact ih5 _ _ _ _ _ _ _ _ _ _ _ _
   | exact ih6 _ _ _ _ _ _ _ _ _ _ _
   | exact ih7 _ _ _ _
   | exact impl_RowPack.mono _ _ _ _ _
   | exact laws_eqRow.mono _ _ _ _ _ _ _
   | exact laws_heldRow.mono _ _ _ _ _
   | exact laws_markRow.mono _ _ _ _ _
   | exact laws_szRow.mono _ _ _ _ _
   | exact laws_toRow.mono _ _ _ _
   | exact spec_RowPack.mono _ _ _ _ _
   | exact LeO.none _
   | refine LeO.ite ?_ ?_
   | refine LeO.bind ?_ (fun _ => ?_)
  ·
   intro y0 y1 y2 y3 y4 y5 y6 y7 y8 y9 y10
   unfold laws_FnExactRowPack.j6
   repeat' first
   | (with_reducible exact ih0 _ _ _ _)
   | (with_reducible exact ih1 _ _ _ _ _ _ _ _ _ _ _ _ _)
   | (with_reducible exact ih2 _ _ _ _ _ _ _ _ _ _ _ _ _)
   | (with_reducible exact ih3 _ _ _ _ _ _ _ _ _ _ _)
   | (with_reducible exact ih4 _ _ _ _ _ _ _ _ _ _)
   | (with_reducible exact ih5 _ _ _ _ _ _ _ _ _ _ _ _)
   | (with_reducible exact ih6 _ _ _ _ _ _ _ _ _ _ _)
   | (with_reducible exact ih7 _ _ _ _)
   | (with_reducible exact impl_RowPack.mono _ _ _ _ _)
   | (with_reducible exact laws_eqRow.mono _ _ _ _ _ _ _)
   | (with_reducible exact laws_heldRow.mono _ _ _ _ _)
   | (with_reducible exact laws_markRow.mono _ _ _ _ _)
   | (with_reducible exact laws_szRow.mono _ _ _ _ _)
   | (with_reducible exact laws_toRow.mono _ _ _ _)
   | (with_reducible exact spec_RowPack.mono _ _ _ _ _)
   | (with_reducible exact LeO.refl _)
   | (with_reducible exact LeO.none _)
   | (with_reducible refine LeO.ite ?_ ?_)
   | (with_reducible refine LeO.bind ?_ (fun _ => ?_))
   | exact ih0 _ _ _ _
   | exact ih1 _ _ _ _ _ _ _ _ _ _ _ _ _
   | exact ih2 _ _ _ _ _ _ _ _ _ _ _ _ _
   | exact ih3 _ _ _ _ _ _ _ _ _ _ _
   | exact ih4 _ _ _ _ _ _ _ _ _ _
   | exact ih5 _ _ _ _ _ _ _ _ _ _ _ _
   | exact ih6 _ _ _ _ _ _ _ _ _ _ _
   | exact ih7 _ _ _ _
   | exact impl_RowPack.mono _ _ _ _ _
   | exact laws_eqRow.mono _ _ _ _ _ _ _
   | exact laws_heldRow.mono _ _ _ _ _
   | exact laws_markRow.mono _ _ _ _ _
   | exact laws_szRow.mono _ _ _ _ _
   | exact laws_toRow.mono _ _ _ _
   | exact spec_RowPack.mono _ _ _ _ _
   | exact LeO.none _
   | refine LeO.ite ?_ ?_
   | refine LeO.bind ?_ (fun _ => ?_)
  ·
   intro y0 y1 y2 y3
   unfold laws_FnExactRowPack.j7
   repeat' first
   | (with_reducible exact ih0 _ _ _ _)
   | (with_reducible exact ih1 _ _ _ _ _ _ _ _ _ _ _ _ _)
   | (with_reducible exact ih2 _ _ _ _ _ _ _ _ _ _ _ _ _)
   | (with_reducible exact ih3 _ _ _ _ _ _ _ _ _ _ _)
   | (with_reducible exact ih4 _ _ _ _ _ _ _ _ _ _)
   | (with_reducible exact ih5 _ _ _ _ _ _ _ _ _ _ _ _)
   | (with_reducible exact ih6 _ _ _ _ _ _ _ _ _ _ _)
   | (with_reducible exact ih7 _ _ _ _)
   | (with_reducible exact impl_RowPack.mono _ _ _ _ _)
   | (with_reducible exact laws_eqRow.mono _ _ _ _ _ _ _)
   | (with_reducible exact laws_heldRow.mono _ _ _ _ _)
   | (with_reducible exact laws_markRow.mono _ _ _ _ _)
   | (with_reducible exact laws_szRow.mono _ _ _ _ _)
   | (with_reducible exact laws_toRow.mono _ _ _ _)
   | (with_reducible exact spec_RowPack.mono _ _ _ _ _)
   | (with_reducible exact LeO.refl _)
   | (with_reducible exact LeO.none _)
   | (with_reducible refine LeO.ite ?_ ?_)
   | (with_reducible refine LeO.bind ?_ (fun _ => ?_))
   | exact ih0 _ _ _ _
   | exact ih1 _ _ _ _ _ _ _ _ _ _ _ _ _
   | exact ih2 _ _ _ _ _ _ _ _ _ _ _ _ _
   | exact ih3 _ _ _ _ _ _ _ _ _ _ _
   | exact ih4 _ _ _ _ _ _ _ _ _ _
   | exact ih5 _ _ _ _ _ _ _ _ _ _ _ _
   | exact ih6 _ _ _ _ _ _ _ _ _ _ _
   | exact ih7 _ _ _ _
   | exact impl_RowPack.mono _ _ _ _ _
   | exact laws_eqRow.mono _ _ _ _ _ _ _
   | exact laws_heldRow.mono _ _ _ _ _
   | exact laws_markRow.mono _ _ _ _ _
   | exact laws_szRow.mono _ _ _ _ _
   | exact laws_toRow.mono _ _ _ _
   | exact spec_RowPack.mono _ _ _ _ _
   | exact LeO.none _
   | refine LeO.ite ?_ ?_
   | refine LeO.bind ?_ (fun _ => ?_)
theorem laws_FnExactRowPack.mono : ∀ a0 a1 a2 a3 k, LeO (laws_FnExactRowPack.f k a0 a1 a2 a3) (laws_FnExactRowPack.f (k + 1) a0 a1 a2 a3) := by
 intro a0 a1 a2 a3 k
 obtain ⟨ih0, ih1, ih2, ih3, ih4, ih5, ih6, ih7⟩ := laws_FnExactRowPack.mono_l k
 unfold laws_FnExactRowPack.f
 repeat' first
  | (with_reducible exact ih0 _ _ _ _)
  | (with_reducible exact ih1 _ _ _ _ _ _ _ _ _ _ _ _ _)
  | (with_reducible exact ih2 _ _ _ _ _ _ _ _ _ _ _ _ _)
  | (with_reducible exact ih3 _ _ _ _ _ _ _ _ _ _ _)
  | (with_reducible exact ih4 _ _ _ _ _ _ _ _ _ _)
  | (with_reducible exact ih5 _ _ _ _ _ _ _ _ _ _ _ _)
  | (with_reducible exact ih6 _ _ _ _ _ _ _ _ _ _ _)
  | (with_reducible exact ih7 _ _ _ _)
  | (with_reducible exact impl_RowPack.mono _ _ _ _ _)
  | (with_reducible exact laws_eqRow.mono _ _ _ _ _ _ _)
  | (with_reducible exact laws_heldRow.mono _ _ _ _ _)
  | (with_reducible exact laws_markRow.mono _ _ _ _ _)
  | (with_reducible exact laws_szRow.mono _ _ _ _ _)
  | (with_reducible exact laws_toRow.mono _ _ _ _)
  | (with_reducible exact spec_RowPack.mono _ _ _ _ _)
  | (with_reducible exact LeO.refl _)
  | (with_reducible exact LeO.none _)
  | (with_reducible refine LeO.ite ?_ ?_)
  | (with_reducible refine LeO.bind ?_ (fun _ => ?_))
  | exact ih0 _ _ _ _
  | exact ih1 _ _ _ _ _ _ _ _ _ _ _ _ _
  | exact ih2 _ _ _ _ _ _ _ _ _ _ _ _ _
  | exact ih3 _ _ _ _ _ _ _ _ _ _ _
  | exact ih4 _ _ _ _ _ _ _ _ _ _
  | exact ih5 _ _ _ _ _ _ _ _ _ _ _ _
  | exact ih6 _ _ _ _ _ _ _ _ _ _ _
  | exact ih7 _ _ _ _
  | exact impl_RowPack.mono _ _ _ _ _
  | exact laws_eqRow.mono _ _ _ _ _ _ _
  | exact laws_heldRow.mono _ _ _ _ _
  | exact laws_markRow.mono _ _ _ _ _
  | exact laws_szRow.mono _ _ _ _ _
  | exact laws_toRow.mono _ _ _ _
  | exact spec_RowPack.mono _ _ _ _ _
  | exact LeO.none _
  | refine LeO.ite ?_ ?_
  | refine LeO.bind ?_ (fun _ => ?_)
set_option maxHeartbeats 8000000 in
set_option maxRecDepth 100000 in
theorem laws_FnExactRowPack.calls (k : Nat) (a0_0 : Int) (a0_1 : Int) (A0_2 : Option Addr) (c0_2 : Nat) (l0_2 : List (S_LItem)) (a1 : Int) (r : Bool) (w : World) (hr0_2 : Kd.C k_LItem w A0_2 l0_2.length l0_2) (hc0_2 : l0_2.length ≤ c0_2) (h : laws_FnExactRowPack.f k a0_0 a0_1 l0_2 a1 = some r) :
 Calls Try.prog 7 #[.agg #[.int .i64 a0_0, .int .i64 a0_1, .slice A0_2 l0_2.length c0_2], .int .i64 a1] w fun e w' => e = .returned (.bool r) ∧ Below w.heap.size w w' := by
 have hu53 := Try.underlying53
 have hu57 := Try.underlying57
 have HR0_2 := Aside0.mk hr0_2
 have HC0_2 := Aside0.mk hc0_2
 clear hr0_2 hc0_2
 have HB := Aside0.mk (Below.refl w.heap.size w)
 have H : ((laws_szRow.f k a0_0 a0_1 l0_2 1048576).bind fun t1087 => (if t1087 < 0 then (some true) else (laws_FnExactRowPack.j0 k a1 a0_0 a0_1 l0_2))) = some r := h
 clear h
 replace H := Option.bind_eq_some_iff.mp H
 obtain ⟨t1087, A30, H⟩ := H
 replace H : (if t1087 < 0 then (some true) else (laws_FnExactRowPack.j0 k a1 a0_0 a0_1 l0_2)) = some r := H
 have A3 := Aside0.mk A30
 clear A30
 have HC4 := Aside0.mk H
 clear H
 go_enter Try.func7, Try.ntmps7
 go_upto_if 17 with (first | ((with_reducible refine gate_dst (N := 2) rfl ?_); refine box_event ?hg (N := 2) ?hd (cs := #[.int .i64 a0_0, .int .i64 a0_1, .slice A0_2 l0_2.length c0_2]) (t := 53) ?hr ?_; (case hd => rfl); (case hg => rfl); (case hr => first | (go_simp; done) | (go_simp; rfl)); intro gb1086 hg w5 hbox hb; have n0_ := Aside0.mk (below_step (hb_ HB.out) hb); have n1_ := Aside0.mk (hbox); have n2_ := Aside0.mk ((by rw [hg]; exact (below_size (hb_ HB.out)) : w.heap.size ≤ gb1086)); have n3_ := Aside0.mk ((by rw [hg]; exact (below_size (hb_ HB.out)) : w.heap.size ≤ gb1086)); clear HB; have HB := n0_; have BK1086 := n1_; have GW1086 := n2_; have GE1086 := n3_; clear n0_ n1_ n2_ n3_; clear hb hbox hg; have hcz6_0 : w5.cell? ⟨gb1086, 0, none⟩ = some (.int .i64 a0_0) := (blk_cell BK1086.out 0).trans rfl; have hcz6_1 : w5.cell? ⟨gb1086, 1, none⟩ = some (.int .i64 a0_1) := (blk_cell BK1086.out 1).trans rfl; have hcz6_2 : w5.cell? ⟨gb1086, 2, none⟩ = some (.slice A0_2 l0_2.length c0_2) := (blk_cell BK1086.out 2).trans rfl; have hfz6_0 := blk_frozen BK1086.out 0; have hfz6_1 := blk_frozen BK1086.out 1; have hfz6_2 := blk_frozen BK1086.out 2) | ((with_reducible refine gate_callee (f := 29) rfl ?_); refine goesL_ (some 15) rfl rfl Try.func29 (by kernel_rfl) rfl #[.agg #[.int .i64 a0_0, .int .i64 a0_1, .slice A0_2 l0_2.length c0_2], .int .i64 1048576] rfl sm_ ?_; (with_reducible refine (laws_szRow.calls k a0_0 a0_1 _ _ l0_2 1048576 t1087 _ ?side1 ?side2 A3.out).mono ?_); (case side1 => repeat (first | exact (Kd.C_below HR0_2.out HB.out) | (with_reducible refine Kd.C_alloc ?_ _) | (with_reducible refine Kd.C_drewN ?_ _) | (with_reducible refine Kd.C_drew ?_))); (case side2 => exact HC0_2.out); rintro e w7 ⟨rfl, hb⟩; refine ⟨_, rfl, ?_⟩; have n0_ := Aside0.mk (bb_ BK1086.out hb); have n1_ := Aside0.mk (below_step (hb_ HB.out) hb); clear BK1086; clear HB; have BK1086 := n0_; have HB := n1_; clear n0_ n1_; (try clear hb); (try clear hb2); (try clear hk); (try clear hi)))
 (try simp only [Act.put, List.setIfInBounds_toArray, List.set_cons_zero, List.set_cons_succ])
 go_cut [] (fun wc => ∃ (kq : Nat), Aside0 (laws_FnExactRowPack.j0 kq a1 a0_0 a0_1 l0_2 = some r) ∧ Aside0 (kq ≤ k) ∧ Aside0 (wc.heap[gb1086]? = some (.cells #[.int .i64 a0_0, .int .i64 a0_1, (.slice A0_2 l0_2.length c0_2)] 53 (0, 0))) ∧ Aside0 (Below w.heap.size w wc))
 case first =>
  have H := HC4.out
  clear HC4
  by_cases c8 : t1087 < 0
  ·
   rw [if_pos c8] at H
   have c8b0 : decide (t1087 < 0) = true := decide_eq_true c8
   clear c8
   (first | rw [c8b0] | (simp only [i64_w, i32_w]; rw [c8b0]) | rw [c8b4] | rw [c8b3] | skip)
   obtain rfl := Option.some.inj H
   go_wp2
   go_ret
   exact ⟨er_, hb_ HB.out⟩
  ·
   rw [if_neg c8] at H
   have c8b0 : decide (t1087 < 0) = false := decide_eq_false c8
   clear c8
   (first | rw [c8b0] | (simp only [i64_w, i32_w]; rw [c8b0]) | rw [c8b4] | rw [c8b3] | skip)
   have H' := Aside0.mk H
   clear H
   go_wp2
   go_meet
   case rel => exact ⟨_, H', ⟨by first | omega | exact Nat.le_refl _⟩, ⟨bq_ BK1086.out⟩, ⟨hb_ HB.out⟩⟩
 case rest =>
  clear HC4
  (try clear c2); (try clear p2); (try clear c7); (try clear c8); (try clear c8b0); (try clear hcz6_0); (try clear hcz6_1); (try clear hcz6_2); (try clear hfz6_0); (try clear hfz6_1); (try clear hfz6_2)
  obtain ⟨kq, HA, HJ3, BK1086, HB⟩ := hcut
  cases kq with
  | zero => exact absurd HA.out (by simp [laws_FnExactRowPack.j0])
  | succ kj3 =>
   have H := HA.out
   clear HA
   simp only [laws_FnExactRowPack.j0] at H
   replace H := Option.bind_eq_some_iff.mp H
   obtain ⟨⟨t1088, t1089, t1090⟩, A90, H⟩ := H
   replace H : ((spec_RowPack.f kj3 t1088 t1089 t1090 a1).bind fun bt1093 => ((laws_toRow.f kj3 a0_0 a0_1 l0_2).bind fun bt1099 => ((impl_RowPack.f kj3 bt1099.1 bt1099.2.1 bt1099.2.2 a1).bind fun bt1105 => ((laws_eqRow.f kj3 bt1105.1 bt1105.2.1 bt1105.2.2 bt1093.1 bt1093.2.1 bt1093.2.2).bind fun t1111 => (if t1111 = true then (laws_FnExactRowPack.j1 kj3 a1 a0_0 a0_1 l0_2 bt1093.1 bt1093.2.1 bt1093.2.2 bt1099.1 bt1099.2.1 bt1099.2.2 bt1105.1 bt1105.2.1 bt1105.2.2) else (some false)))))) = some r := H
   have A9 := Aside0.mk A90
   clear A90
   replace H := Option.bind_eq_some_iff.mp H
   obtain ⟨⟨t1093, t1094, t1095⟩, A100, H⟩ := H
   replace H : ((laws_toRow.f kj3 a0_0 a0_1 l0_2).bind fun bt1099 => ((impl_RowPack.f kj3 bt1099.1 bt1099.2.1 bt1099.2.2 a1).bind fun bt1105 => ((laws_eqRow.f kj3 bt1105.1 bt1105.2.1 bt1105.2.2 t1093 t1094 t1095).bind fun t1111 => (if t1111 = true then (laws_FnExactRowPack.j1 kj3 a1 a0_0 a0_1 l0_2 t1093 t1094 t1095 bt1099.1 bt1099.2.1 bt1099.2.2 bt1105.1 bt1105.2.1 bt1105.2.2) else (some false))))) = some r := H
   have A10 := Aside0.mk A100
   clear A100
   replace H := Option.bind_eq_some_iff.mp H
   obtain ⟨⟨t1099, t1100, t1101⟩, A110, H⟩ := H
   replace H : ((impl_RowPack.f kj3 t1099 t1100 t1101 a1).bind fun bt1105 => ((laws_eqRow.f kj3 bt1105.1 bt1105.2.1 bt1105.2.2 t1093 t1094 t1095).bind fun t1111 => (if t1111 = true then (laws_FnExactRowPack.j1 kj3 a1 a0_0 a0_1 l0_2 t1093 t1094 t1095 t1099 t1100 t1101 bt1105.1 bt1105.2.1 bt1105.2.2) else (some false)))) = some r := H
   have A11 := Aside0.mk A110
   clear A110
   replace H := Option.bind_eq_some_iff.mp H
   obtain ⟨⟨t1105, t1106, t1107⟩, A120, H⟩ := H
   replace H : ((laws_eqRow.f kj3 t1105 t1106 t1107 t1093 t1094 t1095).bind fun t1111 => (if t1111 = true then (laws_FnExactRowPack.j1 kj3 a1 a0_0 a0_1 l0_2 t1093 t1094 t1095 t1099 t1100 t1101 t1105 t1106 t1107) else (some false))) = some r := H
   have A12 := Aside0.mk A120
   clear A120
   replace H := Option.bind_eq_some_iff.mp H
   obtain ⟨t1111, A130, H⟩ := H
   replace H : (if t1111 = true then (laws_FnExactRowPack.j1 kj3 a1 a0_0 a0_1 l0_2 t1093 t1094 t1095 t1099 t1100 t1101 t1105 t1106 t1107) else (some false)) = some r := H
   have A13 := Aside0.mk A130
   clear A130
   have HC14 := Aside0.mk H
   clear H
   have hcz15_0 : wc.cell? ⟨gb1086, 0, none⟩ = some (.int .i64 a0_0) := (blk_cell BK1086.out 0).trans rfl
   have hcz15_1 : wc.cell? ⟨gb1086, 1, none⟩ = some (.int .i64 a0_1) := (blk_cell BK1086.out 1).trans rfl
   have hcz15_2 : wc.cell? ⟨gb1086, 2, none⟩ = some (.slice A0_2 l0_2.length c0_2) := (blk_cell BK1086.out 2).trans rfl
   have hfz15_0 := blk_frozen BK1086.out 0
   have hfz15_1 := blk_frozen BK1086.out 1
   have hfz15_2 := blk_frozen BK1086.out 2
   go_upto_if 30 with (first | ((with_reducible refine gate_callee (f := 31) rfl ?_); refine goesL_ (some 19) rfl rfl Try.func31 (by kernel_rfl) rfl #[.agg #[.int .i64 a0_0, .int .i64 a0_1, .slice A0_2 l0_2.length c0_2]] rfl sm_ ?_; (with_reducible refine (laws_toRow.calls kj3 a0_0 a0_1 _ _ l0_2 t1088 t1089 t1090 _ ?side1 ?side2 A9.out).mono ?_); (case side1 => repeat (first | exact (Kd.C_below HR0_2.out HB.out) | (with_reducible refine Kd.C_alloc ?_ _) | (with_reducible refine Kd.C_drewN ?_ _) | (with_reducible refine Kd.C_drew ?_))); (case side2 => exact HC0_2.out); rintro e w16 ⟨v1091, rfl, ho0, hb⟩; refine ⟨_, rfl, ?_⟩; have n0_ := Aside0.mk (Kd.R_lower ho0 (below_size (hb_ HB.out))); have n1_ := Aside0.mk (bb_ BK1086.out hb); have n2_ := Aside0.mk (below_step (hb_ HB.out) hb); clear BK1086; clear HB; have HO1092 := n0_; have BK1086 := n1_; have HB := n2_; clear n0_ n1_ n2_; (try clear hb); (try clear hb2); (try clear hk); (try clear hi); (try clear ho0); obtain ⟨Ao17, co17, eo17⟩ := Kd.R_slice HO1092.out; subst eo17) | ((with_reducible refine gate_callee (f := 46) rfl ?_); refine goesL_ (some 21) rfl rfl Try.func46 (by kernel_rfl) rfl #[.agg #[.int .i64 t1088, .int .i64 t1089, .slice Ao17 t1090.length co17], .int .i64 a1] rfl sm_ ?_; (with_reducible refine (spec_RowPack.calls kj3 t1088 t1089 _ _ t1090 a1 t1093 t1094 t1095 _ ?side1 ?side2 A10.out).mono ?_); (case side1 => repeat (first | exact (Kd.R_reads' HO1092.out).2.2 | (with_reducible refine Kd.C_alloc ?_ _) | (with_reducible refine Kd.C_drewN ?_ _) | (with_reducible refine Kd.C_drew ?_))); (case side2 => exact (Kd.R_reads' HO1092.out).2.1); rintro e w18 ⟨v1096, rfl, ho0, hb⟩; refine ⟨_, rfl, ?_⟩; have n0_ := Aside0.mk (Kd.R_elder' (rq_ HO1092.out) (Kd.R_base ho0) hb); have n1_ := Aside0.mk (Kd.R_lower (Kd.R_new' ho0 (Kd.R_lt (rq_ HO1092.out))) (below_size (hb_ HB.out))); have n2_ := Aside0.mk (bb_ BK1086.out hb); have n3_ := Aside0.mk (below_step (hb_ HB.out) hb); clear HO1092; clear BK1086; clear HB; have HO1092 := n0_; have HO1097 := n1_; have BK1086 := n2_; have HB := n3_; clear n0_ n1_ n2_ n3_; (try clear hb); (try clear hb2); (try clear hk); (try clear hi); (try clear ho0)) | ((with_reducible refine gate_dst (N := 6) rfl ?_); refine box_event ?hg (N := 6) ?hd (cs := #[.int .i64 0, .int .i64 0, .slice none 0 0]) (t := 57) ?hr ?_; (case hd => rfl); (case hg => rfl); (case hr => first | (go_simp; done) | (go_simp; rfl)); intro gb1098 hg w19 hbox hb; have n0_ := Aside0.mk (Kd.R_below (rq_ HO1092.out) hb); have n1_ := Aside0.mk (Kd.R_below (rq_ HO1097.out) hb); have n2_ := Aside0.mk (bb_ BK1086.out hb); have n3_ := Aside0.mk (below_step (hb_ HB.out) hb); have n4_ := Aside0.mk (hbox); have n5_ := Aside0.mk ((by rw [hg]; exact (below_size (hb_ HB.out)) : w.heap.size ≤ gb1098)); have n6_ := Aside0.mk ((by rw [hg]; exact (below_size (hb_ HB.out)) : w.heap.size ≤ gb1098)); have n7_ := Aside0.mk ((nl_ BK1086.out hg : gb1086 ≠ gb1098)); have n8_ := Aside0.mk ((ng_ BK1086.out hg : gb1098 ≠ gb1086)); clear HO1092; clear HO1097; clear BK1086; clear HB; have HO1092 := n0_; have HO1097 := n1_; have BK1086 := n2_; have HB := n3_; have BK1098 := n4_; have GW1098 := n5_; have GE1098 := n6_; have NB1086_1098 := n7_; have NB1098_1086 := n8_; clear n0_ n1_ n2_ n3_ n4_ n5_ n6_ n7_ n8_; clear hb hbox hg; have hnb20 := NB1098_1086.out; have hnc20 := NB1086_1098.out; have hcz21_0 : w19.cell? ⟨gb1098, 0, none⟩ = some (.int .i64 0) := (blk_cell BK1098.out 0).trans rfl; have hcz21_1 : w19.cell? ⟨gb1098, 1, none⟩ = some (.int .i64 0) := (blk_cell BK1098.out 1).trans rfl; have hcz21_2 : w19.cell? ⟨gb1098, 2, none⟩ = some (.slice none 0 0) := (blk_cell BK1098.out 2).trans rfl; have hfz21_0 := blk_frozen BK1098.out 0; have hfz21_1 := blk_frozen BK1098.out 1; have hfz21_2 := blk_frozen BK1098.out 2; obtain ⟨Ao22, co22, eo22⟩ := Kd.R_slice HO1097.out; subst eo22; have hcz23_0 : w19.cell? ⟨gb1086, 0, none⟩ = some (.int .i64 a0_0) := (blk_cell BK1086.out 0).trans rfl; have hcz23_1 : w19.cell? ⟨gb1086, 1, none⟩ = some (.int .i64 a0_1) := (blk_cell BK1086.out 1).trans rfl; have hcz23_2 : w19.cell? ⟨gb1086, 2, none⟩ = some (.slice A0_2 l0_2.length c0_2) := (blk_cell BK1086.out 2).trans rfl; have hfz23_0 := blk_frozen BK1086.out 0; have hfz23_1 := blk_frozen BK1086.out 1; have hfz23_2 := blk_frozen BK1086.out 2) | ((with_reducible refine gate_callee (f := 31) rfl ?_); refine goesL_ (some 23) rfl rfl Try.func31 (by kernel_rfl) rfl #[.agg #[.int .i64 a0_0, .int .i64 a0_1, .slice A0_2 l0_2.length c0_2]] rfl sm_ ?_; (with_reducible refine (laws_toRow.calls kj3 a0_0 a0_1 _ _ l0_2 t1099 t1100 t1101 _ ?side1 ?side2 A11.out).mono ?_); (case side1 => exact Kd.C_below HR0_2.out (hb_ HB.out)); (case side2 => exact HC0_2.out); rintro e w24 ⟨v1102, rfl, ho0, hb⟩; refine ⟨_, rfl, ?_⟩; have n0_ := Aside0.mk (Kd.R_elder' (rk_ HO1092.out BK1098.out) (Kd.R_base ho0) hb); have n1_ := Aside0.mk (Kd.R_elder' (rk_ HO1097.out BK1098.out) (Kd.R_base ho0) hb); have n2_ := Aside0.mk (Kd.R_lower (Kd.R_new' (Kd.R_new' ho0 (Kd.R_lt (rk_ HO1092.out BK1098.out))) (Kd.R_lt (rk_ HO1097.out BK1098.out))) (below_size (hb_ HB.out))); have n3_ := Aside0.mk (blk_below (g := gb1086) (o := .cells #[.int .i64 a0_0, .int .i64 a0_1, .slice A0_2 l0_2.length c0_2] 53 (0, 0)) (bf_ NB1086_1098.out BK1086.out) hb); have n4_ := Aside0.mk (blk_below (g := gb1098) (o := .cells #[.int .i64 t1093, .int .i64 t1094, .slice Ao22 t1095.length co22] 57 (0, 0)) (bp_ BK1098.out) hb); have n5_ := Aside0.mk (below_step (hb_ HB.out) hb); clear HO1092; clear HO1097; clear BK1086; clear BK1098; clear HB; have HO1092 := n0_; have HO1097 := n1_; have HO1103 := n2_; have BK1086 := n3_; have BK1098 := n4_; have HB := n5_; clear n0_ n1_ n2_ n3_ n4_ n5_; (try clear hb); (try clear hb2); (try clear hk); (try clear hi); (try clear ho0)) | ((with_reducible refine gate_dst (N := 7) rfl ?_); refine box_event ?hg (N := 7) ?hd (cs := #[.int .i64 0, .int .i64 0, .slice none 0 0]) (t := 57) ?hr ?_; (case hd => rfl); (case hg => rfl); (case hr => first | (go_simp; done) | (go_simp; rfl)); intro gb1104 hg w25 hbox hb; have n0_ := Aside0.mk (Kd.R_below (rq_ HO1092.out) hb); have n1_ := Aside0.mk (Kd.R_below (rq_ HO1097.out) hb); have n2_ := Aside0.mk (Kd.R_below (rq_ HO1103.out) hb); have n3_ := Aside0.mk (bb_ BK1086.out hb); have n4_ := Aside0.mk (bb_ BK1098.out hb); have n5_ := Aside0.mk (below_step (hb_ HB.out) hb); have n6_ := Aside0.mk (hbox); have n7_ := Aside0.mk ((by rw [hg]; exact (below_size (hb_ HB.out)) : w.heap.size ≤ gb1104)); have n8_ := Aside0.mk ((by rw [hg]; exact (below_size (hb_ HB.out)) : w.heap.size ≤ gb1104)); have n9_ := Aside0.mk ((nl_ BK1086.out hg : gb1086 ≠ gb1104)); have n10_ := Aside0.mk ((ng_ BK1086.out hg : gb1104 ≠ gb1086)); have n11_ := Aside0.mk ((nl_ BK1098.out hg : gb1098 ≠ gb1104)); have n12_ := Aside0.mk ((ng_ BK1098.out hg : gb1104 ≠ gb1098)); clear HO1092; clear HO1097; clear HO1103; clear BK1086; clear BK1098; clear HB; have HO1092 := n0_; have HO1097 := n1_; have HO1103 := n2_; have BK1086 := n3_; have BK1098 := n4_; have HB := n5_; have BK1104 := n6_; have GW1104 := n7_; have GE1104 := n8_; have NB1086_1104 := n9_; have NB1104_1086 := n10_; have NB1098_1104 := n11_; have NB1104_1098 := n12_; clear n0_ n1_ n2_ n3_ n4_ n5_ n6_ n7_ n8_ n9_ n10_ n11_ n12_; clear hb hbox hg; have hnb26 := NB1104_1086.out; have hnc26 := NB1086_1104.out; have hnb27 := NB1104_1098.out; have hnc27 := NB1098_1104.out; have hcz28_0 : w25.cell? ⟨gb1104, 0, none⟩ = some (.int .i64 0) := (blk_cell BK1104.out 0).trans rfl; have hcz28_1 : w25.cell? ⟨gb1104, 1, none⟩ = some (.int .i64 0) := (blk_cell BK1104.out 1).trans rfl; have hcz28_2 : w25.cell? ⟨gb1104, 2, none⟩ = some (.slice none 0 0) := (blk_cell BK1104.out 2).trans rfl; have hfz28_0 := blk_frozen BK1104.out 0; have hfz28_1 := blk_frozen BK1104.out 1; have hfz28_2 := blk_frozen BK1104.out 2; obtain ⟨Ao29, co29, eo29⟩ := Kd.R_slice HO1103.out; subst eo29) | ((with_reducible refine gate_callee (f := 47) rfl ?_); refine goesL_ (some 26) rfl rfl Try.func47 (by kernel_rfl) rfl #[.agg #[.int .i64 t1099, .int .i64 t1100, .slice Ao29 t1101.length co29], .int .i64 a1] rfl sm_ ?_; (with_reducible refine (impl_RowPack.calls kj3 t1099 t1100 _ _ t1101 a1 t1105 t1106 t1107 _ ?side1 ?side2 A12.out).mono ?_); (case side1 => refine (Kd.R_reads' (e := 69) (base := w.heap.size) (ok := fun k_ => ((True ∧ some k_ ≠ (.slice Ao17 t1090.length co17 : Value).ownBlock) ∧ some k_ ≠ (.slice Ao22 t1095.length co22 : Value).ownBlock)) (n := t1101.length) (c := co29) ?_).2.2; exact (rk_ HO1103.out BK1104.out)); (case side2 => exact (Kd.R_reads' HO1103.out).2.1); rintro e w30 ⟨v1108, rfl, ho0, hb⟩; refine ⟨_, rfl, ?_⟩; have n0_ := Aside0.mk (Kd.R_elder' (rk_ HO1092.out BK1104.out) (Kd.R_base ho0) hb); have n1_ := Aside0.mk (Kd.R_elder' (rk_ HO1097.out BK1104.out) (Kd.R_base ho0) hb); have n2_ := Aside0.mk (Kd.R_elder' (rk_ HO1103.out BK1104.out) (Kd.R_base ho0) hb); have n3_ := Aside0.mk (Kd.R_lower (Kd.R_new' (Kd.R_new' (Kd.R_new' ho0 (Kd.R_lt (rk_ HO1092.out BK1104.out))) (Kd.R_lt (rk_ HO1097.out BK1104.out))) (Kd.R_lt (rk_ HO1103.out BK1104.out))) (below_size (hb_ HB.out))); have n4_ := Aside0.mk (blk_below (g := gb1086) (o := .cells #[.int .i64 a0_0, .int .i64 a0_1, .slice A0_2 l0_2.length c0_2] 53 (0, 0)) (bf_ NB1086_1104.out BK1086.out) hb); have n5_ := Aside0.mk (blk_below (g := gb1098) (o := .cells #[.int .i64 t1093, .int .i64 t1094, .slice Ao22 t1095.length co22] 57 (0, 0)) (bf_ NB1098_1104.out BK1098.out) hb); have n6_ := Aside0.mk (blk_below (g := gb1104) (o := .cells #[.int .i64 t1099, .int .i64 t1100, .slice Ao29 t1101.length co29] 57 (0, 0)) (bp_ BK1104.out) hb); have n7_ := Aside0.mk (below_step (hb_ HB.out) hb); clear HO1092; clear HO1097; clear HO1103; clear BK1086; clear BK1098; clear BK1104; clear HB; have HO1092 := n0_; have HO1097 := n1_; have HO1103 := n2_; have HO1109 := n3_; have BK1086 := n4_; have BK1098 := n5_; have BK1104 := n6_; have HB := n7_; clear n0_ n1_ n2_ n3_ n4_ n5_ n6_ n7_; (try clear hb); (try clear hb2); (try clear hk); (try clear hi); (try clear ho0)) | ((with_reducible refine gate_dst (N := 8) rfl ?_); refine box_event ?hg (N := 8) ?hd (cs := #[.int .i64 0, .int .i64 0, .slice none 0 0]) (t := 57) ?hr ?_; (case hd => rfl); (case hg => rfl); (case hr => first | (go_simp; done) | (go_simp; rfl)); intro gb1110 hg w31 hbox hb; have n0_ := Aside0.mk (Kd.R_below (rq_ HO1092.out) hb); have n1_ := Aside0.mk (Kd.R_below (rq_ HO1097.out) hb); have n2_ := Aside0.mk (Kd.R_below (rq_ HO1103.out) hb); have n3_ := Aside0.mk (Kd.R_below (rq_ HO1109.out) hb); have n4_ := Aside0.mk (bb_ BK1086.out hb); have n5_ := Aside0.mk (bb_ BK1098.out hb); have n6_ := Aside0.mk (bb_ BK1104.out hb); have n7_ := Aside0.mk (below_step (hb_ HB.out) hb); have n8_ := Aside0.mk (hbox); have n9_ := Aside0.mk ((by rw [hg]; exact (below_size (hb_ HB.out)) : w.heap.size ≤ gb1110)); have n10_ := Aside0.mk ((by rw [hg]; exact (below_size (hb_ HB.out)) : w.heap.size ≤ gb1110)); have n11_ := Aside0.mk ((nl_ BK1086.out hg : gb1086 ≠ gb1110)); have n12_ := Aside0.mk ((ng_ BK1086.out hg : gb1110 ≠ gb1086)); have n13_ := Aside0.mk ((nl_ BK1098.out hg : gb1098 ≠ gb1110)); have n14_ := Aside0.mk ((ng_ BK1098.out hg : gb1110 ≠ gb1098)); have n15_ := Aside0.mk ((nl_ BK1104.out hg : gb1104 ≠ gb1110)); have n16_ := Aside0.mk ((ng_ BK1104.out hg : gb1110 ≠ gb1104)); clear HO1092; clear HO1097; clear HO1103; clear HO1109; clear BK1086; clear BK1098; clear BK1104; clear HB; have HO1092 := n0_; have HO1097 := n1_; have HO1103 := n2_; have HO1109 := n3_; have BK1086 := n4_; have BK1098 := n5_; have BK1104 := n6_; have HB := n7_; have BK1110 := n8_; have GW1110 := n9_; have GE1110 := n10_; have NB1086_1110 := n11_; have NB1110_1086 := n12_; have NB1098_1110 := n13_; have NB1110_1098 := n14_; have NB1104_1110 := n15_; have NB1110_1104 := n16_; clear n0_ n1_ n2_ n3_ n4_ n5_ n6_ n7_ n8_ n9_ n10_ n11_ n12_ n13_ n14_ n15_ n16_; clear hb hbox hg; have hnb32 := NB1110_1086.out; have hnc32 := NB1086_1110.out; have hnb33 := NB1110_1098.out; have hnc33 := NB1098_1110.out; have hnb34 := NB1110_1104.out; have hnc34 := NB1104_1110.out; have hcz35_0 : w31.cell? ⟨gb1110, 0, none⟩ = some (.int .i64 0) := (blk_cell BK1110.out 0).trans rfl; have hcz35_1 : w31.cell? ⟨gb1110, 1, none⟩ = some (.int .i64 0) := (blk_cell BK1110.out 1).trans rfl; have hcz35_2 : w31.cell? ⟨gb1110, 2, none⟩ = some (.slice none 0 0) := (blk_cell BK1110.out 2).trans rfl; have hfz35_0 := blk_frozen BK1110.out 0; have hfz35_1 := blk_frozen BK1110.out 1; have hfz35_2 := blk_frozen BK1110.out 2; obtain ⟨Ao36, co36, eo36⟩ := Kd.R_slice HO1109.out; subst eo36; have hcz37_0 : w31.cell? ⟨gb1098, 0, none⟩ = some (.int .i64 t1093) := (blk_cell BK1098.out 0).trans rfl; have hcz37_1 : w31.cell? ⟨gb1098, 1, none⟩ = some (.int .i64 t1094) := (blk_cell BK1098.out 1).trans rfl; have hcz37_2 : w31.cell? ⟨gb1098, 2, none⟩ = some (.slice Ao22 t1095.length co22) := (blk_cell BK1098.out 2).trans rfl; have hfz37_0 := blk_frozen BK1098.out 0; have hfz37_1 := blk_frozen BK1098.out 1; have hfz37_2 := blk_frozen BK1098.out 2) | ((with_reducible refine gate_callee (f := 33) rfl ?_); refine goesL_ (some 29) rfl rfl Try.func33 (by kernel_rfl) rfl #[.agg #[.int .i64 t1105, .int .i64 t1106, .slice Ao36 t1107.length co36], .agg #[.int .i64 t1093, .int .i64 t1094, .slice Ao22 t1095.length co22]] rfl sm_ ?_; (with_reducible refine (laws_eqRow.calls kj3 t1105 t1106 _ _ t1107 t1093 t1094 _ _ t1095 t1111 _ ?side1 ?side2 ?side3 ?side4 A13.out).mono ?_); (case side1 => refine (Kd.R_reads' (e := 69) (base := w.heap.size) (ok := fun k_ => (((True ∧ some k_ ≠ (.slice Ao17 t1090.length co17 : Value).ownBlock) ∧ some k_ ≠ (.slice Ao22 t1095.length co22 : Value).ownBlock) ∧ some k_ ≠ (.slice Ao29 t1101.length co29 : Value).ownBlock)) (n := t1107.length) (c := co36) ?_).2.2; exact (rk_ HO1109.out BK1110.out)); (case side2 => exact (Kd.R_reads' HO1109.out).2.1); (case side3 => refine (Kd.R_reads' (e := 69) (base := w.heap.size) (ok := fun k_ => (((True ∧ some k_ ≠ (.slice Ao17 t1090.length co17 : Value).ownBlock) ∧ some k_ ≠ (.slice Ao29 t1101.length co29 : Value).ownBlock) ∧ some k_ ≠ (.slice Ao36 t1107.length co36 : Value).ownBlock)) (n := t1095.length) (c := co22) ?_).2.2; exact (rk_ HO1097.out BK1110.out)); (case side4 => exact (Kd.R_reads' HO1097.out).2.1); rintro e w38 ⟨rfl, hb⟩; refine ⟨_, rfl, ?_⟩; have n0_ := Aside0.mk (Kd.R_below (rk_ HO1092.out BK1110.out) hb); have n1_ := Aside0.mk (Kd.R_below (rk_ HO1097.out BK1110.out) hb); have n2_ := Aside0.mk (Kd.R_below (rk_ HO1103.out BK1110.out) hb); have n3_ := Aside0.mk (Kd.R_below (rk_ HO1109.out BK1110.out) hb); have n4_ := Aside0.mk (blk_below (g := gb1086) (o := .cells #[.int .i64 a0_0, .int .i64 a0_1, .slice A0_2 l0_2.length c0_2] 53 (0, 0)) (bf_ NB1086_1110.out BK1086.out) hb); have n5_ := Aside0.mk (blk_below (g := gb1098) (o := .cells #[.int .i64 t1093, .int .i64 t1094, .slice Ao22 t1095.length co22] 57 (0, 0)) (bf_ NB1098_1110.out BK1098.out) hb); have n6_ := Aside0.mk (blk_below (g := gb1104) (o := .cells #[.int .i64 t1099, .int .i64 t1100, .slice Ao29 t1101.length co29] 57 (0, 0)) (bf_ NB1104_1110.out BK1104.out) hb); have n7_ := Aside0.mk (blk_below (g := gb1110) (o := .cells #[.int .i64 t1105, .int .i64 t1106, .slice Ao36 t1107.length co36] 57 (0, 0)) (bp_ BK1110.out) hb); have n8_ := Aside0.mk (below_step (hb_ HB.out) hb); clear HO1092; clear HO1097; clear HO1103; clear HO1109; clear BK1086; clear BK1098; clear BK1104; clear BK1110; clear HB; have HO1092 := n0_; have HO1097 := n1_; have HO1103 := n2_; have HO1109 := n3_; have BK1086 := n4_; have BK1098 := n5_; have BK1104 := n6_; have BK1110 := n7_; have HB := n8_; clear n0_ n1_ n2_ n3_ n4_ n5_ n6_ n7_ n8_; (try clear hb); (try clear hb2); (try clear hk); (try clear hi)))
   (try simp only [Act.put, List.setIfInBounds_toArray, List.set_cons_zero, List.set_cons_succ])
   go_cut [] (fun wc => ∃ (kq : Nat), Aside0 (laws_FnExactRowPack.j1 kq a1 a0_0 a0_1 l0_2 t1093 t1094 t1095 t1099 t1100 t1101 t1105 t1106 t1107 = some r) ∧ Aside0 (kq ≤ kj3) ∧ Aside0 (Kd.R k_Item 69 wc w.heap.size (fun k_ => some k_ ≠ ((.slice Ao29 t1101.length co29) : Value).ownBlock ∧ some k_ ≠ ((.slice Ao36 t1107.length co36) : Value).ownBlock) (.slice Ao22 t1095.length co22) t1095) ∧ Aside0 (Kd.R k_Item 69 wc w.heap.size (fun k_ => some k_ ≠ ((.slice Ao22 t1095.length co22) : Value).ownBlock ∧ some k_ ≠ ((.slice Ao36 t1107.length co36) : Value).ownBlock) (.slice Ao29 t1101.length co29) t1101) ∧ Aside0 (Kd.R k_Item 69 wc w.heap.size (fun k_ => some k_ ≠ ((.slice Ao22 t1095.length co22) : Value).ownBlock ∧ some k_ ≠ ((.slice Ao29 t1101.length co29) : Value).ownBlock) (.slice Ao36 t1107.length co36) t1107) ∧ Aside0 (wc.heap[gb1086]? = some (.cells #[.int .i64 a0_0, .int .i64 a0_1, (.slice A0_2 l0_2.length c0_2)] 53 (0, 0))) ∧ Aside0 (wc.heap[gb1098]? = some (.cells #[.int .i64 t1093, .int .i64 t1094, (.slice Ao22 t1095.length co22)] 57 (0, 0))) ∧ Aside0 (wc.heap[gb1104]? = some (.cells #[.int .i64 t1099, .int .i64 t1100, (.slice Ao29 t1101.length co29)] 57 (0, 0))) ∧ Aside0 (wc.heap[gb1110]? = some (.cells #[.int .i64 t1105, .int .i64 t1106, (.slice Ao36 t1107.length co36)] 57 (0, 0))) ∧ Aside0 (Below w.heap.size w wc))
   case first =>
    have H := HC14.out
    clear HC14
    by_cases c39 : t1111 = true
    ·
     subst c39
     have H1 : (laws_FnExactRowPack.j1 kj3 a1 a0_0 a0_1 l0_2 t1093 t1094 t1095 t1099 t1100 t1101 t1105 t1106 t1107) = some r := by rw [if_pos rfl] at H; exact H
     clear H
     have H := H1
     clear H1
     have H' := Aside0.mk H
     clear H
     go_wp2
     go_meet
     case rel => exact ⟨_, H', ⟨by have := HJ3.out; first | omega | exact Nat.le_refl _⟩, ⟨rm_ HO1097.out⟩, ⟨rm_ HO1103.out⟩, ⟨rm_ HO1109.out⟩, ⟨bq_ BK1086.out⟩, ⟨bq_ BK1098.out⟩, ⟨bq_ BK1104.out⟩, ⟨bq_ BK1110.out⟩, ⟨hb_ HB.out⟩⟩
    ·
     replace c39 := Bool.eq_false_iff.mpr c39
     subst c39
     have H1 : (some false) = some r := by rw [if_neg (show ¬ (false = true) by decide)] at H; exact H
     clear H
     have H := H1
     clear H1
     obtain rfl := Option.some.inj H
     go_wp2
     go_ret
     exact ⟨er_, hb_ HB.out⟩
   case rest =>
    clear HC14
    (try clear c2); (try clear p2); (try clear c3); (try clear c4); (try clear c7); (try clear c8); (try clear c8b0); (try clear c20); (try clear c26); (try clear c27); (try clear c29); (try clear c31); (try clear c32); (try clear c33); (try clear c34); (try clear c39); (try clear hcz15_0); (try clear hcz15_1); (try clear hcz15_2); (try clear hcz21_0); (try clear hcz21_1); (try clear hcz21_2); (try clear hcz23_0); (try clear hcz23_1); (try clear hcz23_2); (try clear hcz28_0); (try clear hcz28_1); (try clear hcz28_2); (try clear hcz35_0); (try clear hcz35_1); (try clear hcz35_2); (try clear hcz37_0); (try clear hcz37_1); (try clear hcz37_2); (try clear hcz6_0); (try clear hcz6_1); (try clear hcz6_2); (try clear hfz15_0); (try clear hfz15_1); (try clear hfz15_2); (try clear hfz21_0); (try clear hfz21_1); (try clear hfz21_2); (try clear hfz23_0); (try clear hfz23_1); (try clear hfz23_2); (try clear hfz28_0); (try clear hfz28_1); (try clear hfz28_2); (try clear hfz35_0); (try clear hfz35_1); (try clear hfz35_2); (try clear hfz37_0); (try clear hfz37_1); (try clear hfz37_2); (try clear hfz6_0); (try clear hfz6_1); (try clear hfz6_2); (try clear p2)
    obtain ⟨kq, HA, HJ13, HO_1099002, HO_1105002, HO_1111002, BK1086, BK1098, BK1104, BK1110, HB⟩ := hcut
    cases kq with
    | zero => exact absurd HA.out (by simp [laws_FnExactRowPack.j1])
    | succ kj13 =>
     have H := HA.out
     clear HA
     simp only [laws_FnExactRowPack.j1] at H
     replace H := Option.bind_eq_some_iff.mp H
     obtain ⟨⟨t1112, t1113, t1114⟩, A400, H⟩ := H
     replace H : ((laws_eqRow.f kj13 t1099 t1100 t1101 t1112 t1113 t1114).bind fun t1117 => (if t1117 = true then (laws_FnExactRowPack.j2 kj13 a1 a0_0 a0_1 l0_2 t1093 t1094 t1095 t1099 t1100 t1101 t1105 t1106 t1107) else (some false))) = some r := H
     have A40 := Aside0.mk A400
     clear A400
     replace H := Option.bind_eq_some_iff.mp H
     obtain ⟨t1117, A410, H⟩ := H
     replace H : (if t1117 = true then (laws_FnExactRowPack.j2 kj13 a1 a0_0 a0_1 l0_2 t1093 t1094 t1095 t1099 t1100 t1101 t1105 t1106 t1107) else (some false)) = some r := H
     have A41 := Aside0.mk A410
     clear A410
     have HC42 := Aside0.mk H
     clear H
     try go_wp2
     have n0_ := Aside0.mk (Kd.R_drew HO_1099002.out)
     have n1_ := Aside0.mk (Kd.R_drew HO_1105002.out)
     have n2_ := Aside0.mk (Kd.R_drew HO_1111002.out)
     have n3_ := Aside0.mk (blk_drew BK1086.out)
     have n4_ := Aside0.mk (blk_drew BK1098.out)
     have n5_ := Aside0.mk (blk_drew BK1104.out)
     have n6_ := Aside0.mk (blk_drew BK1110.out)
     have n7_ := Aside0.mk (below_drew1 HB.out)
     clear HO_1099002; clear HO_1105002
     clear HO_1111002; clear BK1086
     clear BK1098; clear BK1104
     clear BK1110; clear HB
     have HO_1099002 := n0_
     have HO_1105002 := n1_
     have HO_1111002 := n2_
     have BK1086 := n3_
     have BK1098 := n4_
     have BK1104 := n5_
     have BK1110 := n6_
     have HB := n7_
     clear n0_ n1_ n2_ n3_ n4_ n5_ n6_ n7_
     refine start_ (n := 5) (S := fun w' => w'.cell? ⟨gb1104, 0, none⟩ = some (.int .i64 t1099) ∧ w'.cell? ⟨gb1104, 1, none⟩ = some (.int .i64 t1100) ∧ w'.cell? ⟨gb1104, 2, none⟩ = some (.slice Ao29 t1101.length co29) ∧ w'.cell? ⟨gb1086, 0, none⟩ = some (.int .i64 a0_0) ∧ w'.cell? ⟨gb1086, 1, none⟩ = some (.int .i64 a0_1) ∧ w'.cell? ⟨gb1086, 2, none⟩ = some (.slice A0_2 l0_2.length c0_2)) (ds := []) #[false, false, false, false, false] (by kernel_rfl) rfl rfl ⟨(blk_cell BK1104.out 0).trans rfl, (blk_cell BK1104.out 1).trans rfl, (blk_cell BK1104.out 2).trans rfl, (blk_cell BK1086.out 0).trans rfl, (blk_cell BK1086.out 1).trans rfl, (blk_cell BK1086.out 2).trans rfl⟩ (fun hHeld => ?_)
     generalize wc.drew = w43 at HO_1099002 HO_1105002 HO_1111002 BK1086 BK1098 BK1104 BK1110 HB hHeld ⊢
     refine take_ (i := 0) (N := some 31) (v := ?_) (a' := ?_) #[true, false, false, false, false] rfl rfl (by kernel_rfl) (fun _ _ _ h => h) (Or.inl ⟨by rfl, ?_⟩) hHeld ?_ ?_
     rotate_left
     ·
      rintro w' ⟨s0, s1, s2, s3, s4, s5⟩
      go_simp
      with_reducible rfl
     rotate_left; (focus simp only [Act.put, List.setIfInBounds_toArray, List.set_cons_zero, List.set_cons_succ, i64_w, i32_w]; rfl)
     refine take_ (i := 1) (N := some 32) (v := ?_) (a' := ?_) #[true, true, false, false, false] rfl rfl (by kernel_rfl) (fun _ _ _ h => h) (Or.inl ⟨by rfl, ?_⟩) hHeld ?_ ?_
     rotate_left
     ·
      rintro w' ⟨s0, s1, s2, s3, s4, s5⟩
      go_simp
      with_reducible rfl
     rotate_left; (focus simp only [Act.put, List.setIfInBounds_toArray, List.set_cons_zero, List.set_cons_succ, i64_w, i32_w]; rfl)
     refine one_ (i := 2) (N := some 33) #[true, true, true, false, false] rfl rfl (by kernel_rfl) (by decide) (fun K hK => ?_)
     refine goes_ Try.func31 (by kernel_rfl) rfl #[.agg #[.int .i64 a0_0, .int .i64 a0_1, .slice A0_2 l0_2.length c0_2]] (by rfl) rfl rfl sm_ ?_
     with_reducible refine (laws_toRow.calls kj13 a0_0 a0_1 _ _ l0_2 t1112 t1113 t1114 _ ?side1 ?side2 A40.out).mono ?_
     (case side1 => repeat (first | exact (Kd.C_below HR0_2.out HB.out) | (with_reducible refine Kd.C_alloc ?_ _) | (with_reducible refine Kd.C_drewN ?_ _) | (with_reducible refine Kd.C_drew ?_)))
     (case side2 => exact HC0_2.out)
     rintro e w44 ⟨v1115, rfl, ho0, hb⟩
     refine ⟨_, rfl, ?_⟩
     have n0_ := Aside0.mk (Kd.R_elder' (rq_ HO_1099002.out) (Kd.R_base ho0) hb)
     have n1_ := Aside0.mk (Kd.R_elder' (rq_ HO_1105002.out) (Kd.R_base ho0) hb)
     have n2_ := Aside0.mk (Kd.R_elder' (rq_ HO_1111002.out) (Kd.R_base ho0) hb)
     have n3_ := Aside0.mk (Kd.R_lower (Kd.R_new' (Kd.R_new' (Kd.R_new' ho0 (Kd.R_lt (rq_ HO_1099002.out))) (Kd.R_lt (rq_ HO_1105002.out))) (Kd.R_lt (rq_ HO_1111002.out))) (below_size (hb_ HB.out)))
     have n4_ := Aside0.mk (bb_ BK1086.out hb)
     have n5_ := Aside0.mk (bb_ BK1098.out hb)
     have n6_ := Aside0.mk (bb_ BK1104.out hb)
     have n7_ := Aside0.mk (bb_ BK1110.out hb)
     have n8_ := Aside0.mk (below_step (hb_ HB.out) hb)
     clear HO_1099002; clear HO_1105002
     clear HO_1111002; clear BK1086
     clear BK1098; clear BK1104
     clear BK1110; clear HB
     have HO_1099002 := n0_
     have HO_1105002 := n1_
     have HO_1111002 := n2_
     have HO1116 := n3_
     have BK1086 := n4_
     have BK1098 := n5_
     have BK1104 := n6_
     have BK1110 := n7_
     have HB := n8_
     clear n0_ n1_ n2_ n3_ n4_ n5_ n6_ n7_ n8_
     (try clear hb)
     (try clear hb2)
     (try clear hk)
     (try clear hi)
     (try clear ho0)
     obtain ⟨Ao45, co45, eo45⟩ := Kd.R_slice HO1116.out
     (first | subst eo45 | (injection eo45 with f1_ f2_ f3_; have f4_ := f1_.symm; have f5_ := f3_.symm; clear f1_ f2_ f3_; subst f4_; subst f5_))
     refine hK.out _ _ ⟨(blk_cell BK1104.out 0).trans rfl, (blk_cell BK1104.out 1).trans rfl, (blk_cell BK1104.out 2).trans rfl, (blk_cell BK1086.out 0).trans rfl, (blk_cell BK1086.out 1).trans rfl, (blk_cell BK1086.out 2).trans rfl⟩ (fun hHeld => ?_)
     clear hK K
     refine norm_ (a' := ?_) ?_ ?_
     rotate_left
     ·
      show Act.put _ (some 33) _ = _
      simp only [Act.put, List.setIfInBounds_toArray, List.set_cons_zero, List.set_cons_succ, i64_w, i32_w]
      rfl
     refine one_ (i := 3) (N := some 34) #[true, true, true, true, false] rfl rfl (by kernel_rfl) (by decide) (fun K hK => ?_)
     refine goes_ Try.func33 (by kernel_rfl) rfl #[.agg #[.int .i64 t1099, .int .i64 t1100, .slice Ao29 t1101.length co29], .agg #[.int .i64 t1112, .int .i64 t1113, .slice Ao45 t1114.length co45]] (by rfl) rfl rfl sm_ ?_
     with_reducible refine (laws_eqRow.calls kj13 t1099 t1100 _ _ t1101 t1112 t1113 _ _ t1114 t1117 _ ?side1 ?side2 ?side3 ?side4 A41.out).mono ?_
     (case side1 => repeat (first | exact (Kd.R_reads' HO_1105002.out).2.2 | (with_reducible refine Kd.C_alloc ?_ _) | (with_reducible refine Kd.C_drewN ?_ _) | (with_reducible refine Kd.C_drew ?_)))
     (case side2 => exact (Kd.R_reads' HO_1105002.out).2.1)
     (case side3 => repeat (first | exact (Kd.R_reads' HO1116.out).2.2 | (with_reducible refine Kd.C_alloc ?_ _) | (with_reducible refine Kd.C_drewN ?_ _) | (with_reducible refine Kd.C_drew ?_)))
     (case side4 => exact (Kd.R_reads' HO1116.out).2.1)
     rintro e w46 ⟨rfl, hb⟩
     refine ⟨_, rfl, ?_⟩
     have n0_ := Aside0.mk (Kd.R_below (rq_ HO_1099002.out) hb)
     have n1_ := Aside0.mk (Kd.R_below (rq_ HO_1105002.out) hb)
     have n2_ := Aside0.mk (Kd.R_below (rq_ HO_1111002.out) hb)
     have n3_ := Aside0.mk (Kd.R_below (rq_ HO1116.out) hb)
     have n4_ := Aside0.mk (bb_ BK1086.out hb)
     have n5_ := Aside0.mk (bb_ BK1098.out hb)
     have n6_ := Aside0.mk (bb_ BK1104.out hb)
     have n7_ := Aside0.mk (bb_ BK1110.out hb)
     have n8_ := Aside0.mk (below_step (hb_ HB.out) hb)
     clear HO_1099002; clear HO_1105002
     clear HO_1111002; clear HO1116
     clear BK1086; clear BK1098
     clear BK1104; clear BK1110
     clear HB
     have HO_1099002 := n0_
     have HO_1105002 := n1_
     have HO_1111002 := n2_
     have HO1116 := n3_
     have BK1086 := n4_
     have BK1098 := n5_
     have BK1104 := n6_
     have BK1110 := n7_
     have HB := n8_
     clear n0_ n1_ n2_ n3_ n4_ n5_ n6_ n7_ n8_
     (try clear hb)
     (try clear hb2)
     (try clear hk)
     (try clear hi)
     refine hK.out _ _ ⟨(blk_cell BK1104.out 0).trans rfl, (blk_cell BK1104.out 1).trans rfl, (blk_cell BK1104.out 2).trans rfl, (blk_cell BK1086.out 0).trans rfl, (blk_cell BK1086.out 1).trans rfl, (blk_cell BK1086.out 2).trans rfl⟩ (fun hHeld => ?_)
     clear hK K
     refine norm_ (a' := ?_) ?_ ?_
     rotate_left
     ·
      show Act.put _ (some 34) _ = _
      simp only [Act.put, List.setIfInBounds_toArray, List.set_cons_zero, List.set_cons_succ, i64_w, i32_w]
      rfl
     refine pure_ (i := 4) (N := some 35) (v := ?_) (a' := ?_) #[true, true, true, true, true] rfl rfl (by kernel_rfl) (fun _ _ _ h => h) (Or.inl ⟨by rfl, ?_⟩) ?_ ?_; rotate_left; (focus intro w'; go_simp; with_reducible rfl); rotate_left; (focus simp only [Act.put, List.setIfInBounds_toArray, List.set_cons_zero, List.set_cons_succ, i64_w, i32_w]; rfl)
     refine done_ (by kernel_rfl) ?_
     go_upto_if 35 with (fail)
     go_cut [] (fun wc => ∃ (kq : Nat), Aside0 (laws_FnExactRowPack.j2 kq a1 a0_0 a0_1 l0_2 t1093 t1094 t1095 t1099 t1100 t1101 t1105 t1106 t1107 = some r) ∧ Aside0 (kq ≤ kj13) ∧ Aside0 (Kd.R k_Item 69 wc w.heap.size (fun k_ => some k_ ≠ ((.slice Ao29 t1101.length co29) : Value).ownBlock ∧ some k_ ≠ ((.slice Ao36 t1107.length co36) : Value).ownBlock) (.slice Ao22 t1095.length co22) t1095) ∧ Aside0 (Kd.R k_Item 69 wc w.heap.size (fun k_ => some k_ ≠ ((.slice Ao22 t1095.length co22) : Value).ownBlock ∧ some k_ ≠ ((.slice Ao36 t1107.length co36) : Value).ownBlock) (.slice Ao29 t1101.length co29) t1101) ∧ Aside0 (Kd.R k_Item 69 wc w.heap.size (fun k_ => some k_ ≠ ((.slice Ao22 t1095.length co22) : Value).ownBlock ∧ some k_ ≠ ((.slice Ao29 t1101.length co29) : Value).ownBlock) (.slice Ao36 t1107.length co36) t1107) ∧ Aside0 (wc.heap[gb1086]? = some (.cells #[.int .i64 a0_0, .int .i64 a0_1, (.slice A0_2 l0_2.length c0_2)] 53 (0, 0))) ∧ Aside0 (wc.heap[gb1098]? = some (.cells #[.int .i64 t1093, .int .i64 t1094, (.slice Ao22 t1095.length co22)] 57 (0, 0))) ∧ Aside0 (wc.heap[gb1104]? = some (.cells #[.int .i64 t1099, .int .i64 t1100, (.slice Ao29 t1101.length co29)] 57 (0, 0))) ∧ Aside0 (wc.heap[gb1110]? = some (.cells #[.int .i64 t1105, .int .i64 t1106, (.slice Ao36 t1107.length co36)] 57 (0, 0))) ∧ Aside0 (Below w.heap.size w wc))
     case first =>
      have H := HC42.out
      clear HC42
      by_cases c47 : t1117 = true
      ·
       subst c47
       have H1 : (laws_FnExactRowPack.j2 kj13 a1 a0_0 a0_1 l0_2 t1093 t1094 t1095 t1099 t1100 t1101 t1105 t1106 t1107) = some r := by rw [if_pos rfl] at H; exact H
       clear H
       have H := H1
       clear H1
       have H' := Aside0.mk H
       clear H
       go_wp2
       go_meet
       case rel => exact ⟨_, H', ⟨by have := HJ3.out; have := HJ13.out; first | omega | exact Nat.le_refl _⟩, ⟨rm_ HO_1099002.out⟩, ⟨rm_ HO_1105002.out⟩, ⟨rm_ HO_1111002.out⟩, ⟨bq_ BK1086.out⟩, ⟨bq_ BK1098.out⟩, ⟨bq_ BK1104.out⟩, ⟨bq_ BK1110.out⟩, ⟨hb_ HB.out⟩⟩
      ·
       replace c47 := Bool.eq_false_iff.mpr c47
       subst c47
       have H1 : (some false) = some r := by rw [if_neg (show ¬ (false = true) by decide)] at H; exact H
       clear H
       have H := H1
       clear H1
       obtain rfl := Option.some.inj H
       go_wp2
       go_ret
       exact ⟨er_, hb_ HB.out⟩
     case rest =>
      clear HC42
      (try clear c2); (try clear p2); (try clear c3); (try clear c4); (try clear c7); (try clear c8); (try clear c8b0); (try clear c20); (try clear c26); (try clear c27); (try clear c29); (try clear c31); (try clear c32); (try clear c33); (try clear c34); (try clear c39); (try clear c46); (try clear c47); (try clear hcz15_0); (try clear hcz15_1); (try clear hcz15_2); (try clear hcz21_0); (try clear hcz21_1); (try clear hcz21_2); (try clear hcz23_0); (try clear hcz23_1); (try clear hcz23_2); (try clear hcz28_0); (try clear hcz28_1); (try clear hcz28_2); (try clear hcz35_0); (try clear hcz35_1); (try clear hcz35_2); (try clear hcz37_0); (try clear hcz37_1); (try clear hcz37_2); (try clear hcz6_0); (try clear hcz6_1); (try clear hcz6_2); (try clear hfz15_0); (try clear hfz15_1); (try clear hfz15_2); (try clear hfz21_0); (try clear hfz21_1); (try clear hfz21_2); (try clear hfz23_0); (try clear hfz23_1); (try clear hfz23_2); (try clear hfz28_0); (try clear hfz28_1); (try clear hfz28_2); (try clear hfz35_0); (try clear hfz35_1); (try clear hfz35_2); (try clear hfz37_0); (try clear hfz37_1); (try clear hfz37_2); (try clear hfz6_0); (try clear hfz6_1); (try clear hfz6_2); (try clear p2)
      obtain ⟨kq, HA, HJ41, HO_1099002, HO_1105002, HO_1111002, BK1086, BK1098, BK1104, BK1110, HB⟩ := hcut
      cases kq with
      | zero => exact absurd HA.out (by simp [laws_FnExactRowPack.j2])
      | succ kj41 =>
       have H := HA.out
       clear HA
       simp only [laws_FnExactRowPack.j2] at H
       replace H := Option.bind_eq_some_iff.mp H
       obtain ⟨⟨t1118, t1119⟩, A480, H⟩ := H
       replace H : (if t1118 < 0 then (laws_FnExactRowPack.j3 kj41 a1 true a0_0 a0_1 l0_2 t1093 t1094 t1095 t1105 t1106 t1107) else ((laws_eqRow.f kj41 t1105 t1106 t1107 t1093 t1094 t1095).bind fun t1120 => (laws_FnExactRowPack.j3 kj41 a1 (!t1120) a0_0 a0_1 l0_2 t1093 t1094 t1095 t1105 t1106 t1107))) = some r := H
       have A48 := Aside0.mk A480
       clear A480
       have HC49 := Aside0.mk H
       clear H
       have hnb50 := NB1104_1086.out
       have hnc50 := NB1086_1104.out
       have hnb51 := NB1104_1098.out
       have hnc51 := NB1098_1104.out
       have hnb52 := NB1104_1110.out
       have hnc52 := NB1110_1104.out
       have hcz53_0 : wc.cell? ⟨gb1104, 0, none⟩ = some (.int .i64 t1099) := (blk_cell BK1104.out 0).trans rfl
       have hcz53_1 : wc.cell? ⟨gb1104, 1, none⟩ = some (.int .i64 t1100) := (blk_cell BK1104.out 1).trans rfl
       have hcz53_2 : wc.cell? ⟨gb1104, 2, none⟩ = some (.slice Ao29 t1101.length co29) := (blk_cell BK1104.out 2).trans rfl
       have hfz53_0 := blk_frozen BK1104.out 0
       have hfz53_1 := blk_frozen BK1104.out 1
       have hfz53_2 := blk_frozen BK1104.out 2
       go_upto_region 14 with (first | ((with_reducible refine gate_callee (f := 34) rfl ?_); refine goesL_ (some 38) rfl rfl Try.func34 (by kernel_rfl) rfl #[.agg #[.int .i64 t1099, .int .i64 t1100, .slice Ao29 t1101.length co29], .int .i64 1] rfl sm_ ?_; (with_reducible refine (laws_markRow.calls kj41 t1099 t1100 (fun k_ => some k_ = (.slice Ao29 t1101.length co29 : Value).ownBlock) (.slice Ao29 t1101.length co29) t1101 1 t1118 t1119 w _ ?side1 ?side2 A48.out).mono ?_); (case side1 => repeat (first | (with_reducible first | exact HB.out | apply below_alloc | apply pw_below_drewN | apply below_drew1 | refine below_set ?_ GE1086.out | refine below_set ?_ GE1098.out | refine below_set ?_ GE1104.out | refine below_set ?_ GE1110.out) | exact HB.out)); (case side2 => exact Kd.R_tight rfl HO_1105002.out); rintro e w54 ⟨rfl, hy0, hb, hkp⟩; refine ⟨_, rfl, ?_⟩; have n0_ := Aside0.mk (Kd.R_mono (ok' := fun k_ => some k_ ≠ (.slice Ao29 t1101.length co29 : Value).ownBlock ∧ some k_ ≠ (.slice Ao36 t1107.length co36 : Value).ownBlock) (Kd.R_keptB (HO_1099002.out) hkp (fun k_ hk_ hs_ => (hk_.1) hs_)) (fun k_ hk_ => ⟨hk_.1.1, hk_.1.2⟩)); have n1_ := Aside0.mk (Kd.R_reok rfl hy0 (fun k_ e_ => HO_1105002.out.1 k_ e_)); have n2_ := Aside0.mk (Kd.R_mono (ok' := fun k_ => some k_ ≠ (.slice Ao22 t1095.length co22 : Value).ownBlock ∧ some k_ ≠ (.slice Ao29 t1101.length co29 : Value).ownBlock) (Kd.R_keptB (HO_1111002.out) hkp (fun k_ hk_ hs_ => (hk_.2) hs_)) (fun k_ hk_ => ⟨hk_.1.1, hk_.1.2⟩)); have n3_ := Aside0.mk (blk_kept (bq_ BK1086.out) hkp (fun hs_ => (fun e_ => (Kd.R_ne HO_1105002.out BK1086.out (by decide)) e_) hs_)); have n4_ := Aside0.mk (blk_kept (bq_ BK1098.out) hkp (fun hs_ => (fun e_ => (Kd.R_ne HO_1105002.out BK1098.out (by decide)) e_) hs_)); have n5_ := Aside0.mk (blk_kept (bq_ BK1104.out) hkp (fun hs_ => (fun e_ => (Kd.R_ne HO_1105002.out BK1104.out (by decide)) e_) hs_)); have n6_ := Aside0.mk (blk_kept (bq_ BK1110.out) hkp (fun hs_ => (fun e_ => (Kd.R_ne HO_1105002.out BK1110.out (by decide)) e_) hs_)); have n7_ := Aside0.mk (hb); clear HO_1099002; clear HO_1105002; clear HO_1111002; clear BK1086; clear BK1098; clear BK1104; clear BK1110; clear HB; have HO_1099002 := n0_; have HO_1105002 := n1_; have HO_1111002 := n2_; have BK1086 := n3_; have BK1098 := n4_; have BK1104 := n5_; have BK1110 := n6_; have HB := n7_; clear n0_ n1_ n2_ n3_ n4_ n5_ n6_ n7_; (try clear hb); (try clear hkp); (try clear hy0)))
       (try simp only [Act.put, List.setIfInBounds_toArray, List.set_cons_zero, List.set_cons_succ])
       go_cut [46] (fun v46 wc => ∃ (kq : Nat) (x46_48 : Bool), v46 = .bool x46_48 ∧ Aside0 (laws_FnExactRowPack.j3 kq a1 x46_48 a0_0 a0_1 l0_2 t1093 t1094 t1095 t1105 t1106 t1107 = some r) ∧ Aside0 (kq ≤ kj41) ∧ Aside0 (Kd.R k_Item 69 wc w.heap.size (fun k_ => some k_ ≠ ((.slice Ao29 t1101.length co29) : Value).ownBlock ∧ some k_ ≠ ((.slice Ao36 t1107.length co36) : Value).ownBlock) (.slice Ao22 t1095.length co22) t1095) ∧ Aside0 (Kd.R k_Item 69 wc w.heap.size (fun k_ => some k_ ≠ ((.slice Ao22 t1095.length co22) : Value).ownBlock ∧ some k_ ≠ ((.slice Ao36 t1107.length co36) : Value).ownBlock) (.slice Ao29 t1101.length co29) t1119) ∧ Aside0 (Kd.R k_Item 69 wc w.heap.size (fun k_ => some k_ ≠ ((.slice Ao22 t1095.length co22) : Value).ownBlock ∧ some k_ ≠ ((.slice Ao29 t1101.length co29) : Value).ownBlock) (.slice Ao36 t1107.length co36) t1107) ∧ Aside0 (wc.heap[gb1086]? = some (.cells #[.int .i64 a0_0, .int .i64 a0_1, (.slice A0_2 l0_2.length c0_2)] 53 (0, 0))) ∧ Aside0 (wc.heap[gb1098]? = some (.cells #[.int .i64 t1093, .int .i64 t1094, (.slice Ao22 t1095.length co22)] 57 (0, 0))) ∧ Aside0 (wc.heap[gb1104]? = some (.cells #[.int .i64 t1099, .int .i64 t1100, (.slice Ao29 t1101.length co29)] 57 (0, 0))) ∧ Aside0 (wc.heap[gb1110]? = some (.cells #[.int .i64 t1105, .int .i64 t1106, (.slice Ao36 t1107.length co36)] 57 (0, 0))) ∧ Aside0 (Below w.heap.size w wc))
       case first =>
        have H := HC49.out
        clear HC49
        by_cases c55 : t1118 < 0
        ·
         rw [if_pos c55] at H
         have c55b0 : decide (t1118 < 0) = true := decide_eq_true c55
         clear c55
         (first | rw [c55b0] | (simp only [i64_w, i32_w]; rw [c55b0]) | rw [c55b4] | rw [c55b3] | skip)
         have H' := Aside0.mk H
         clear H
         go_wp2
         go_meet
         case rel => exact ⟨_, (true), (by first | rfl | (simp; done) | (simp [*]; done)), H', ⟨by have := HJ3.out; have := HJ13.out; have := HJ41.out; first | omega | exact Nat.le_refl _⟩, ⟨rq_ HO_1099002.out⟩, ⟨rq_ HO_1105002.out⟩, ⟨rq_ HO_1111002.out⟩, ⟨bq_ BK1086.out⟩, ⟨bq_ BK1098.out⟩, ⟨bq_ BK1104.out⟩, ⟨bq_ BK1110.out⟩, ⟨hb_ HB.out⟩⟩
        ·
         rw [if_neg c55] at H
         have c55b0 : decide (t1118 < 0) = false := decide_eq_false c55
         clear c55
         (first | rw [c55b0] | (simp only [i64_w, i32_w]; rw [c55b0]) | rw [c55b4] | rw [c55b3] | skip)
         replace H := Option.bind_eq_some_iff.mp H
         obtain ⟨t1120, A560, H⟩ := H
         replace H : (laws_FnExactRowPack.j3 kj41 a1 (!t1120) a0_0 a0_1 l0_2 t1093 t1094 t1095 t1105 t1106 t1107) = some r := H
         have A56 := Aside0.mk A560
         clear A560
         have H' := Aside0.mk H
         clear H
         have hnb57 := NB1110_1086.out
         have hnc57 := NB1086_1110.out
         have hnb58 := NB1110_1098.out
         have hnc58 := NB1098_1110.out
         have hnb59 := NB1110_1104.out
         have hnc59 := NB1104_1110.out
         have hcz60_0 : w54.cell? ⟨gb1110, 0, none⟩ = some (.int .i64 t1105) := (blk_cell BK1110.out 0).trans rfl
         have hcz60_1 : w54.cell? ⟨gb1110, 1, none⟩ = some (.int .i64 t1106) := (blk_cell BK1110.out 1).trans rfl
         have hcz60_2 : w54.cell? ⟨gb1110, 2, none⟩ = some (.slice Ao36 t1107.length co36) := (blk_cell BK1110.out 2).trans rfl
         have hfz60_0 := blk_frozen BK1110.out 0
         have hfz60_1 := blk_frozen BK1110.out 1
         have hfz60_2 := blk_frozen BK1110.out 2
         have hnb61 := NB1098_1086.out
         have hnc61 := NB1086_1098.out
         have hnb62 := NB1098_1104.out
         have hnc62 := NB1104_1098.out
         have hcz63_0 : w54.cell? ⟨gb1098, 0, none⟩ = some (.int .i64 t1093) := (blk_cell BK1098.out 0).trans rfl
         have hcz63_1 : w54.cell? ⟨gb1098, 1, none⟩ = some (.int .i64 t1094) := (blk_cell BK1098.out 1).trans rfl
         have hcz63_2 : w54.cell? ⟨gb1098, 2, none⟩ = some (.slice Ao22 t1095.length co22) := (blk_cell BK1098.out 2).trans rfl
         have hfz63_0 := blk_frozen BK1098.out 0
         have hfz63_1 := blk_frozen BK1098.out 1
         have hfz63_2 := blk_frozen BK1098.out 2
         go_wp2_with (first | (go_at_call 33; (with_reducible refine (laws_eqRow.calls kj41 t1105 t1106 _ _ t1107 t1093 t1094 _ _ t1095 t1120 _ ?side1 ?side2 ?side3 ?side4 A56.out).mono ?_); (case side1 => repeat (first | exact (Kd.R_reads' HO_1111002.out).2.2 | (with_reducible refine Kd.C_alloc ?_ _) | (with_reducible refine Kd.C_drewN ?_ _) | (with_reducible refine Kd.C_drew ?_))); (case side2 => exact (Kd.R_reads' HO_1111002.out).2.1); (case side3 => repeat (first | exact (Kd.R_reads' HO_1099002.out).2.2 | (with_reducible refine Kd.C_alloc ?_ _) | (with_reducible refine Kd.C_drewN ?_ _) | (with_reducible refine Kd.C_drew ?_))); (case side4 => exact (Kd.R_reads' HO_1099002.out).2.1); rintro e w64 ⟨rfl, hb⟩; have n0_ := Aside0.mk (Kd.R_below (rq_ HO_1099002.out) hb); have n1_ := Aside0.mk (Kd.R_below (rq_ HO_1105002.out) hb); have n2_ := Aside0.mk (Kd.R_below (rq_ HO_1111002.out) hb); have n3_ := Aside0.mk (bb_ BK1086.out hb); have n4_ := Aside0.mk (bb_ BK1098.out hb); have n5_ := Aside0.mk (bb_ BK1104.out hb); have n6_ := Aside0.mk (bb_ BK1110.out hb); have n7_ := Aside0.mk (below_step (hb_ HB.out) hb); clear HO_1099002; clear HO_1105002; clear HO_1111002; clear BK1086; clear BK1098; clear BK1104; clear BK1110; clear HB; have HO_1099002 := n0_; have HO_1105002 := n1_; have HO_1111002 := n2_; have BK1086 := n3_; have BK1098 := n4_; have BK1104 := n5_; have BK1110 := n6_; have HB := n7_; clear n0_ n1_ n2_ n3_ n4_ n5_ n6_ n7_; (try clear hb); (try clear hb2); (try clear hk); (try clear hi)))
         go_meet
         case rel => exact ⟨_, (!t1120), (by first | rfl | (simp; done) | (simp [*]; done)), H', ⟨by have := HJ3.out; have := HJ13.out; have := HJ41.out; first | omega | exact Nat.le_refl _⟩, ⟨rq_ HO_1099002.out⟩, ⟨rq_ HO_1105002.out⟩, ⟨rq_ HO_1111002.out⟩, ⟨bq_ BK1086.out⟩, ⟨bq_ BK1098.out⟩, ⟨bq_ BK1104.out⟩, ⟨bq_ BK1110.out⟩, ⟨hb_ HB.out⟩⟩
       case rest =>
        clear HC49
        (try clear c2); (try clear p2); (try clear c3); (try clear c4); (try clear c5); (try clear c6); (try clear c7); (try clear c8); (try clear c8b0); (try clear c20); (try clear c26); (try clear c27); (try clear c29); (try clear c31); (try clear c32); (try clear c33); (try clear c34); (try clear c39); (try clear c46); (try clear c47); (try clear c50); (try clear c51); (try clear c52); (try clear c55); (try clear c55b0); (try clear c57); (try clear c58); (try clear c59); (try clear c61); (try clear c62); (try clear hcz15_0); (try clear hcz15_1); (try clear hcz15_2); (try clear hcz21_0); (try clear hcz21_1); (try clear hcz21_2); (try clear hcz23_0); (try clear hcz23_1); (try clear hcz23_2); (try clear hcz28_0); (try clear hcz28_1); (try clear hcz28_2); (try clear hcz35_0); (try clear hcz35_1); (try clear hcz35_2); (try clear hcz37_0); (try clear hcz37_1); (try clear hcz37_2); (try clear hcz53_0); (try clear hcz53_1); (try clear hcz53_2); (try clear hcz60_0); (try clear hcz60_1); (try clear hcz60_2); (try clear hcz63_0); (try clear hcz63_1); (try clear hcz63_2); (try clear hcz6_0); (try clear hcz6_1); (try clear hcz6_2); (try clear hfz15_0); (try clear hfz15_1); (try clear hfz15_2); (try clear hfz21_0); (try clear hfz21_1); (try clear hfz21_2); (try clear hfz23_0); (try clear hfz23_1); (try clear hfz23_2); (try clear hfz28_0); (try clear hfz28_1); (try clear hfz28_2); (try clear hfz35_0); (try clear hfz35_1); (try clear hfz35_2); (try clear hfz37_0); (try clear hfz37_1); (try clear hfz37_2); (try clear hfz53_0); (try clear hfz53_1); (try clear hfz53_2); (try clear hfz60_0); (try clear hfz60_1); (try clear hfz60_2); (try clear hfz63_0); (try clear hfz63_1); (try clear hfz63_2); (try clear hfz6_0); (try clear hfz6_1); (try clear hfz6_2); (try clear p2)
        obtain ⟨kq, x46_48, rfl, HA, HJ48, HO_1099002, HO_1105002, HO_1111002, BK1086, BK1098, BK1104, BK1110, HB⟩ := hcut
        have hl1105002_48 := (Kd.R_reads' HO_1105002.out).1
        rw [hl1105002_48] at HO_1105002
        (try simp only [hl1105002_48])
        (try simp only [hl1105002_48] at BK1086)
        (try simp only [hl1105002_48] at BK1098)
        (try simp only [hl1105002_48] at BK1104)
        (try simp only [hl1105002_48] at BK1110)
        (try simp only [hl1105002_48] at HO_1099002)
        (try simp only [hl1105002_48] at HO_1111002)
        cases kq with
        | zero => exact absurd HA.out (by simp [laws_FnExactRowPack.j3])
        | succ kj48 =>
         have H := HA.out
         clear HA
         simp only [laws_FnExactRowPack.j3] at H
         have HC65 := Aside0.mk H
         clear H
         go_upto_if 46 with (fail)
         go_cut [] (fun wc => ∃ (kq : Nat), Aside0 (laws_FnExactRowPack.j4 kq a1 a0_0 a0_1 l0_2 t1093 t1094 t1095 t1105 t1106 t1107 = some r) ∧ Aside0 (kq ≤ kj48) ∧ Aside0 (Kd.R k_Item 69 wc w.heap.size (fun k_ => some k_ ≠ ((.slice Ao29 t1119.length co29) : Value).ownBlock ∧ some k_ ≠ ((.slice Ao36 t1107.length co36) : Value).ownBlock) (.slice Ao22 t1095.length co22) t1095) ∧ Aside0 (Kd.R k_Item 69 wc w.heap.size (fun k_ => some k_ ≠ ((.slice Ao22 t1095.length co22) : Value).ownBlock ∧ some k_ ≠ ((.slice Ao36 t1107.length co36) : Value).ownBlock) (.slice Ao29 t1119.length co29) t1119) ∧ Aside0 (Kd.R k_Item 69 wc w.heap.size (fun k_ => some k_ ≠ ((.slice Ao22 t1095.length co22) : Value).ownBlock ∧ some k_ ≠ ((.slice Ao29 t1119.length co29) : Value).ownBlock) (.slice Ao36 t1107.length co36) t1107) ∧ Aside0 (wc.heap[gb1086]? = some (.cells #[.int .i64 a0_0, .int .i64 a0_1, (.slice A0_2 l0_2.length c0_2)] 53 (0, 0))) ∧ Aside0 (wc.heap[gb1098]? = some (.cells #[.int .i64 t1093, .int .i64 t1094, (.slice Ao22 t1095.length co22)] 57 (0, 0))) ∧ Aside0 (wc.heap[gb1104]? = some (.cells #[.int .i64 t1099, .int .i64 t1100, (.slice Ao29 t1119.length co29)] 57 (0, 0))) ∧ Aside0 (wc.heap[gb1110]? = some (.cells #[.int .i64 t1105, .int .i64 t1106, (.slice Ao36 t1107.length co36)] 57 (0, 0))) ∧ Aside0 (Below w.heap.size w wc))
         case first =>
          have H := HC65.out
          clear HC65
          by_cases c66 : x46_48 = true
          ·
           subst c66
           have H1 : (some false) = some r := by rw [if_pos rfl] at H; exact H
           clear H
           have H := H1
           clear H1
           obtain rfl := Option.some.inj H
           go_wp2
           go_ret
           exact ⟨er_, hb_ HB.out⟩
          ·
           replace c66 := Bool.eq_false_iff.mpr c66
           subst c66
           have H1 : (laws_FnExactRowPack.j4 kj48 a1 a0_0 a0_1 l0_2 t1093 t1094 t1095 t1105 t1106 t1107) = some r := by rw [if_neg (show ¬ (false = true) by decide)] at H; exact H
           clear H
           have H := H1
           clear H1
           have H' := Aside0.mk H
           clear H
           go_wp2
           go_meet
           case rel => exact ⟨_, H', ⟨by have := HJ3.out; have := HJ13.out; have := HJ41.out; have := HJ48.out; first | omega | exact Nat.le_refl _⟩, ⟨by (try simp only [hl1105002_48]); (with_reducible repeat (first | apply Kd.R_alloc | apply Kd.R_drewN | apply Kd.R_drew)); exact HO_1099002.out⟩, ⟨by (try simp only [hl1105002_48]); (with_reducible repeat (first | apply Kd.R_alloc | apply Kd.R_drewN | apply Kd.R_drew)); exact HO_1105002.out⟩, ⟨by (try simp only [hl1105002_48]); (with_reducible repeat (first | apply Kd.R_alloc | apply Kd.R_drewN | apply Kd.R_drew)); exact HO_1111002.out⟩, ⟨by (try simp only [hl1105002_48]); (with_reducible repeat (first | refine blk_drewN ?_ _ | refine blk_drew ?_ | refine blk_alloc ?_ _)); exact BK1086.out⟩, ⟨by (try simp only [hl1105002_48]); (with_reducible repeat (first | refine blk_drewN ?_ _ | refine blk_drew ?_ | refine blk_alloc ?_ _)); exact BK1098.out⟩, ⟨by (try simp only [hl1105002_48]); (with_reducible repeat (first | refine blk_drewN ?_ _ | refine blk_drew ?_ | refine blk_alloc ?_ _)); exact BK1104.out⟩, ⟨by (try simp only [hl1105002_48]); (with_reducible repeat (first | refine blk_drewN ?_ _ | refine blk_drew ?_ | refine blk_alloc ?_ _)); exact BK1110.out⟩, ⟨hb_ HB.out⟩⟩
         case rest =>
          clear HC65
          (try clear c2); (try clear p2); (try clear c3); (try clear c4); (try clear c5); (try clear c6); (try clear c7); (try clear c8); (try clear c8b0); (try clear c20); (try clear c26); (try clear c27); (try clear c29); (try clear c31); (try clear c32); (try clear c33); (try clear c34); (try clear c39); (try clear c46); (try clear c47); (try clear c50); (try clear c51); (try clear c52); (try clear c55); (try clear c55b0); (try clear c57); (try clear c58); (try clear c59); (try clear c61); (try clear c62); (try clear c66); (try clear hcz15_0); (try clear hcz15_1); (try clear hcz15_2); (try clear hcz21_0); (try clear hcz21_1); (try clear hcz21_2); (try clear hcz23_0); (try clear hcz23_1); (try clear hcz23_2); (try clear hcz28_0); (try clear hcz28_1); (try clear hcz28_2); (try clear hcz35_0); (try clear hcz35_1); (try clear hcz35_2); (try clear hcz37_0); (try clear hcz37_1); (try clear hcz37_2); (try clear hcz53_0); (try clear hcz53_1); (try clear hcz53_2); (try clear hcz60_0); (try clear hcz60_1); (try clear hcz60_2); (try clear hcz63_0); (try clear hcz63_1); (try clear hcz63_2); (try clear hcz6_0); (try clear hcz6_1); (try clear hcz6_2); (try clear hfz15_0); (try clear hfz15_1); (try clear hfz15_2); (try clear hfz21_0); (try clear hfz21_1); (try clear hfz21_2); (try clear hfz23_0); (try clear hfz23_1); (try clear hfz23_2); (try clear hfz28_0); (try clear hfz28_1); (try clear hfz28_2); (try clear hfz35_0); (try clear hfz35_1); (try clear hfz35_2); (try clear hfz37_0); (try clear hfz37_1); (try clear hfz37_2); (try clear hfz53_0); (try clear hfz53_1); (try clear hfz53_2); (try clear hfz60_0); (try clear hfz60_1); (try clear hfz60_2); (try clear hfz63_0); (try clear hfz63_1); (try clear hfz63_2); (try clear hfz6_0); (try clear hfz6_1); (try clear hfz6_2); (try clear p2)
          obtain ⟨kq, HA, HJ64, HO_1099002, HO_1105002, HO_1111002, BK1086, BK1098, BK1104, BK1110, HB⟩ := hcut
          cases kq with
          | zero => exact absurd HA.out (by simp [laws_FnExactRowPack.j4])
          | succ kj64 =>
           have H := HA.out
           clear HA
           simp only [laws_FnExactRowPack.j4] at H
           replace H := Option.bind_eq_some_iff.mp H
           obtain ⟨⟨t1121, t1122⟩, A670, H⟩ := H
           replace H : ((laws_heldRow.f kj64 t1105 t1106 t1122 1).bind fun t1123 => (if t1123 < 0 then (some false) else (laws_FnExactRowPack.j5 kj64 a1 t1121 t1123 a0_0 a0_1 l0_2 t1093 t1094 t1095 t1105 t1106 t1122))) = some r := H
           have A67 := Aside0.mk A670
           clear A670
           replace H := Option.bind_eq_some_iff.mp H
           obtain ⟨t1123, A680, H⟩ := H
           replace H : (if t1123 < 0 then (some false) else (laws_FnExactRowPack.j5 kj64 a1 t1121 t1123 a0_0 a0_1 l0_2 t1093 t1094 t1095 t1105 t1106 t1122)) = some r := H
           have A68 := Aside0.mk A680
           clear A680
           have HC69 := Aside0.mk H
           clear H
           have hnb70 := NB1110_1086.out
           have hnc70 := NB1086_1110.out
           have hnb71 := NB1110_1098.out
           have hnc71 := NB1098_1110.out
           have hnb72 := NB1110_1104.out
           have hnc72 := NB1104_1110.out
           have hcz73_0 : wc.cell? ⟨gb1110, 0, none⟩ = some (.int .i64 t1105) := (blk_cell BK1110.out 0).trans rfl
           have hcz73_1 : wc.cell? ⟨gb1110, 1, none⟩ = some (.int .i64 t1106) := (blk_cell BK1110.out 1).trans rfl
           have hcz73_2 : wc.cell? ⟨gb1110, 2, none⟩ = some (.slice Ao36 t1107.length co36) := (blk_cell BK1110.out 2).trans rfl
           have hfz73_0 := blk_frozen BK1110.out 0
           have hfz73_1 := blk_frozen BK1110.out 1
           have hfz73_2 := blk_frozen BK1110.out 2
           go_upto_if 54 with (first | ((with_reducible refine gate_callee (f := 34) rfl ?_); refine goesL_ (some 49) rfl rfl Try.func34 (by kernel_rfl) rfl #[.agg #[.int .i64 t1105, .int .i64 t1106, .slice Ao36 t1107.length co36], .int .i64 1] rfl sm_ ?_; (with_reducible refine (laws_markRow.calls kj64 t1105 t1106 (fun k_ => some k_ = (.slice Ao36 t1107.length co36 : Value).ownBlock) (.slice Ao36 t1107.length co36) t1107 1 t1121 t1122 w _ ?side1 ?side2 A67.out).mono ?_); (case side1 => repeat (first | (with_reducible first | exact HB.out | apply below_alloc | apply pw_below_drewN | apply below_drew1 | refine below_set ?_ GE1086.out | refine below_set ?_ GE1098.out | refine below_set ?_ GE1104.out | refine below_set ?_ GE1110.out) | exact HB.out)); (case side2 => exact Kd.R_tight rfl HO_1111002.out); rintro e w74 ⟨rfl, hy0, hb, hkp⟩; refine ⟨_, rfl, ?_⟩; have n0_ := Aside0.mk (Kd.R_mono (ok' := fun k_ => some k_ ≠ (.slice Ao29 t1119.length co29 : Value).ownBlock ∧ some k_ ≠ (.slice Ao36 t1107.length co36 : Value).ownBlock) (Kd.R_keptB (HO_1099002.out) hkp (fun k_ hk_ hs_ => (hk_.2) hs_)) (fun k_ hk_ => ⟨hk_.1.1, hk_.1.2⟩)); have n1_ := Aside0.mk (Kd.R_mono (ok' := fun k_ => some k_ ≠ (.slice Ao22 t1095.length co22 : Value).ownBlock ∧ some k_ ≠ (.slice Ao36 t1107.length co36 : Value).ownBlock) (Kd.R_keptB (HO_1105002.out) hkp (fun k_ hk_ hs_ => (hk_.2) hs_)) (fun k_ hk_ => ⟨hk_.1.1, hk_.1.2⟩)); have n2_ := Aside0.mk (Kd.R_reok rfl hy0 (fun k_ e_ => HO_1111002.out.1 k_ e_)); have n3_ := Aside0.mk (blk_kept (bq_ BK1086.out) hkp (fun hs_ => (fun e_ => (Kd.R_ne HO_1111002.out BK1086.out (by decide)) e_) hs_)); have n4_ := Aside0.mk (blk_kept (bq_ BK1098.out) hkp (fun hs_ => (fun e_ => (Kd.R_ne HO_1111002.out BK1098.out (by decide)) e_) hs_)); have n5_ := Aside0.mk (blk_kept (bq_ BK1104.out) hkp (fun hs_ => (fun e_ => (Kd.R_ne HO_1111002.out BK1104.out (by decide)) e_) hs_)); have n6_ := Aside0.mk (blk_kept (bq_ BK1110.out) hkp (fun hs_ => (fun e_ => (Kd.R_ne HO_1111002.out BK1110.out (by decide)) e_) hs_)); have n7_ := Aside0.mk (hb); clear HO_1099002; clear HO_1105002; clear HO_1111002; clear BK1086; clear BK1098; clear BK1104; clear BK1110; clear HB; have HO_1099002 := n0_; have HO_1105002 := n1_; have HO_1111002 := n2_; have BK1086 := n3_; have BK1098 := n4_; have BK1104 := n5_; have BK1110 := n6_; have HB := n7_; clear n0_ n1_ n2_ n3_ n4_ n5_ n6_ n7_; (try clear hb); (try clear hkp); (try clear hy0); have hcz75_0 : w74.cell? ⟨gb1110, 0, none⟩ = some (.int .i64 t1105) := (blk_cell BK1110.out 0).trans rfl; have hcz75_1 : w74.cell? ⟨gb1110, 1, none⟩ = some (.int .i64 t1106) := (blk_cell BK1110.out 1).trans rfl; have hcz75_2 : w74.cell? ⟨gb1110, 2, none⟩ = some (.slice Ao36 t1107.length co36) := (blk_cell BK1110.out 2).trans rfl; have hfz75_0 := blk_frozen BK1110.out 0; have hfz75_1 := blk_frozen BK1110.out 1; have hfz75_2 := blk_frozen BK1110.out 2) | ((with_reducible refine gate_callee (f := 35) rfl ?_); refine goesL_ (some 52) rfl rfl Try.func35 (by kernel_rfl) rfl #[.agg #[.int .i64 t1105, .int .i64 t1106, .slice Ao36 t1122.length co36], .int .i64 1] rfl (by (try simp only [List.map_toArray, List.map_cons, List.map_nil]); first | done | (rw [show t1122.length = t1107.length from (Kd.R_reads' HO_1111002.out).1.symm] <;> rfl) | rfl | (simp only [List.length_drop, List.length_take]; rfl)) ?_; (with_reducible refine (laws_heldRow.calls kj64 t1105 t1106 _ _ t1122 1 t1123 _ ?side1 ?side2 A68.out).mono ?_); (case side1 => repeat (first | exact (Kd.R_reads' HO_1111002.out).2.2 | (with_reducible refine Kd.C_alloc ?_ _) | (with_reducible refine Kd.C_drewN ?_ _) | (with_reducible refine Kd.C_drew ?_))); (case side2 => rw [show t1122.length = t1107.length from (Kd.R_reads' HO_1111002.out).1.symm]; exact (Kd.R_reads' HO_1111002.out).2.1); rintro e w76 ⟨rfl, hb⟩; refine ⟨_, rfl, ?_⟩; have n0_ := Aside0.mk (Kd.R_below (rq_ HO_1099002.out) hb); have n1_ := Aside0.mk (Kd.R_below (rq_ HO_1105002.out) hb); have n2_ := Aside0.mk (Kd.R_below (rq_ HO_1111002.out) hb); have n3_ := Aside0.mk (bb_ BK1086.out hb); have n4_ := Aside0.mk (bb_ BK1098.out hb); have n5_ := Aside0.mk (bb_ BK1104.out hb); have n6_ := Aside0.mk (bb_ BK1110.out hb); have n7_ := Aside0.mk (below_step (hb_ HB.out) hb); clear HO_1099002; clear HO_1105002; clear HO_1111002; clear BK1086; clear BK1098; clear BK1104; clear BK1110; clear HB; have HO_1099002 := n0_; have HO_1105002 := n1_; have HO_1111002 := n2_; have BK1086 := n3_; have BK1098 := n4_; have BK1104 := n5_; have BK1110 := n6_; have HB := n7_; clear n0_ n1_ n2_ n3_ n4_ n5_ n6_ n7_; (try clear hb); (try clear hb2); (try clear hk); (try clear hi)))
           (try simp only [Act.put, List.setIfInBounds_toArray, List.set_cons_zero, List.set_cons_succ])
           go_cut [] (fun wc => ∃ (kq : Nat), Aside0 (laws_FnExactRowPack.j5 kq a1 t1121 t1123 a0_0 a0_1 l0_2 t1093 t1094 t1095 t1105 t1106 t1122 = some r) ∧ Aside0 (kq ≤ kj64) ∧ Aside0 (Kd.R k_Item 69 wc w.heap.size (fun k_ => some k_ ≠ ((.slice Ao29 t1119.length co29) : Value).ownBlock ∧ some k_ ≠ ((.slice Ao36 t1107.length co36) : Value).ownBlock) (.slice Ao22 t1095.length co22) t1095) ∧ Aside0 (Kd.R k_Item 69 wc w.heap.size (fun k_ => some k_ ≠ ((.slice Ao22 t1095.length co22) : Value).ownBlock ∧ some k_ ≠ ((.slice Ao36 t1107.length co36) : Value).ownBlock) (.slice Ao29 t1119.length co29) t1119) ∧ Aside0 (Kd.R k_Item 69 wc w.heap.size (fun k_ => some k_ ≠ ((.slice Ao22 t1095.length co22) : Value).ownBlock ∧ some k_ ≠ ((.slice Ao29 t1119.length co29) : Value).ownBlock) (.slice Ao36 t1107.length co36) t1122) ∧ Aside0 (wc.heap[gb1086]? = some (.cells #[.int .i64 a0_0, .int .i64 a0_1, (.slice A0_2 l0_2.length c0_2)] 53 (0, 0))) ∧ Aside0 (wc.heap[gb1098]? = some (.cells #[.int .i64 t1093, .int .i64 t1094, (.slice Ao22 t1095.length co22)] 57 (0, 0))) ∧ Aside0 (wc.heap[gb1104]? = some (.cells #[.int .i64 t1099, .int .i64 t1100, (.slice Ao29 t1119.length co29)] 57 (0, 0))) ∧ Aside0 (wc.heap[gb1110]? = some (.cells #[.int .i64 t1105, .int .i64 t1106, (.slice Ao36 t1107.length co36)] 57 (0, 0))) ∧ Aside0 (Below w.heap.size w wc))
           case first =>
            have H := HC69.out
            clear HC69
            by_cases c77 : t1123 < 0
            ·
             rw [if_pos c77] at H
             have c77b0 : decide (t1123 < 0) = true := decide_eq_true c77
             clear c77
             (first | rw [c77b0] | (simp only [i64_w, i32_w]; rw [c77b0]) | rw [c77b4] | rw [c77b3] | skip)
             obtain rfl := Option.some.inj H
             go_wp2
             go_ret
             exact ⟨er_, hb_ HB.out⟩
            ·
             rw [if_neg c77] at H
             have c77b0 : decide (t1123 < 0) = false := decide_eq_false c77
             clear c77
             (first | rw [c77b0] | (simp only [i64_w, i32_w]; rw [c77b0]) | rw [c77b4] | rw [c77b3] | skip)
             have H' := Aside0.mk H
             clear H
             go_wp2
             go_meet
             case rel => exact ⟨_, H', ⟨by have := HJ3.out; have := HJ13.out; have := HJ41.out; have := HJ48.out; have := HJ64.out; first | omega | exact Nat.le_refl _⟩, ⟨by (try simp only [hl1105002_48]); (with_reducible repeat (first | apply Kd.R_alloc | apply Kd.R_drewN | apply Kd.R_drew)); exact HO_1099002.out⟩, ⟨by (try simp only [hl1105002_48]); (with_reducible repeat (first | apply Kd.R_alloc | apply Kd.R_drewN | apply Kd.R_drew)); exact HO_1105002.out⟩, ⟨by (try simp only [hl1105002_48]); (with_reducible repeat (first | apply Kd.R_alloc | apply Kd.R_drewN | apply Kd.R_drew)); exact HO_1111002.out⟩, ⟨by (try simp only [hl1105002_48]); (with_reducible repeat (first | refine blk_drewN ?_ _ | refine blk_drew ?_ | refine blk_alloc ?_ _)); exact BK1086.out⟩, ⟨by (try simp only [hl1105002_48]); (with_reducible repeat (first | refine blk_drewN ?_ _ | refine blk_drew ?_ | refine blk_alloc ?_ _)); exact BK1098.out⟩, ⟨by (try simp only [hl1105002_48]); (with_reducible repeat (first | refine blk_drewN ?_ _ | refine blk_drew ?_ | refine blk_alloc ?_ _)); exact BK1104.out⟩, ⟨by (try simp only [hl1105002_48]); (with_reducible repeat (first | refine blk_drewN ?_ _ | refine blk_drew ?_ | refine blk_alloc ?_ _)); exact BK1110.out⟩, ⟨hb_ HB.out⟩⟩
           case rest =>
            clear HC69
            (try clear c2); (try clear p2); (try clear c3); (try clear c4); (try clear c5); (try clear c6); (try clear c7); (try clear c8); (try clear c8b0); (try clear c20); (try clear c26); (try clear c27); (try clear c29); (try clear c31); (try clear c32); (try clear c33); (try clear c34); (try clear c35); (try clear c39); (try clear c46); (try clear c47); (try clear c50); (try clear c51); (try clear c52); (try clear c55); (try clear c55b0); (try clear c57); (try clear c58); (try clear c59); (try clear c61); (try clear c62); (try clear c66); (try clear c70); (try clear c71); (try clear c72); (try clear c77); (try clear c77b0); (try clear hcz15_0); (try clear hcz15_1); (try clear hcz15_2); (try clear hcz21_0); (try clear hcz21_1); (try clear hcz21_2); (try clear hcz23_0); (try clear hcz23_1); (try clear hcz23_2); (try clear hcz28_0); (try clear hcz28_1); (try clear hcz28_2); (try clear hcz35_0); (try clear hcz35_1); (try clear hcz35_2); (try clear hcz37_0); (try clear hcz37_1); (try clear hcz37_2); (try clear hcz53_0); (try clear hcz53_1); (try clear hcz53_2); (try clear hcz60_0); (try clear hcz60_1); (try clear hcz60_2); (try clear hcz63_0); (try clear hcz63_1); (try clear hcz63_2); (try clear hcz6_0); (try clear hcz6_1); (try clear hcz6_2); (try clear hcz73_0); (try clear hcz73_1); (try clear hcz73_2); (try clear hcz75_0); (try clear hcz75_1); (try clear hcz75_2); (try clear hfz15_0); (try clear hfz15_1); (try clear hfz15_2); (try clear hfz21_0); (try clear hfz21_1); (try clear hfz21_2); (try clear hfz23_0); (try clear hfz23_1); (try clear hfz23_2); (try clear hfz28_0); (try clear hfz28_1); (try clear hfz28_2); (try clear hfz35_0); (try clear hfz35_1); (try clear hfz35_2); (try clear hfz37_0); (try clear hfz37_1); (try clear hfz37_2); (try clear hfz53_0); (try clear hfz53_1); (try clear hfz53_2); (try clear hfz60_0); (try clear hfz60_1); (try clear hfz60_2); (try clear hfz63_0); (try clear hfz63_1); (try clear hfz63_2); (try clear hfz6_0); (try clear hfz6_1); (try clear hfz6_2); (try clear hfz73_0); (try clear hfz73_1); (try clear hfz73_2); (try clear hfz75_0); (try clear hfz75_1); (try clear hfz75_2); (try clear p2)
            obtain ⟨kq, HA, HJ68, HO_1099002, HO_1105002, HO_1111002, BK1086, BK1098, BK1104, BK1110, HB⟩ := hcut
            have hl1111002_68 := (Kd.R_reads' HO_1111002.out).1
            rw [hl1111002_68] at HO_1111002
            (try simp only [hl1111002_68])
            (try simp only [hl1111002_68] at BK1086)
            (try simp only [hl1111002_68] at BK1098)
            (try simp only [hl1111002_68] at BK1104)
            (try simp only [hl1111002_68] at BK1110)
            (try simp only [hl1111002_68] at HO_1099002)
            (try simp only [hl1111002_68] at HO_1105002)
            cases kq with
            | zero => exact absurd HA.out (by simp [laws_FnExactRowPack.j5])
            | succ kj68 =>
             have H := HA.out
             clear HA
             simp only [laws_FnExactRowPack.j5] at H
             have HC78 := Aside0.mk H
             clear H
             go_upto_if 57 with (fail)
             go_cut [] (fun wc => ∃ (kq : Nat), Aside0 (laws_FnExactRowPack.j6 kq a1 t1121 a0_0 a0_1 l0_2 t1093 t1094 t1095 t1105 t1106 t1122 = some r) ∧ Aside0 (kq ≤ kj68) ∧ Aside0 (Kd.R k_Item 69 wc w.heap.size (fun k_ => some k_ ≠ ((.slice Ao29 t1119.length co29) : Value).ownBlock ∧ some k_ ≠ ((.slice Ao36 t1122.length co36) : Value).ownBlock) (.slice Ao22 t1095.length co22) t1095) ∧ Aside0 (Kd.R k_Item 69 wc w.heap.size (fun k_ => some k_ ≠ ((.slice Ao22 t1095.length co22) : Value).ownBlock ∧ some k_ ≠ ((.slice Ao36 t1122.length co36) : Value).ownBlock) (.slice Ao29 t1119.length co29) t1119) ∧ Aside0 (Kd.R k_Item 69 wc w.heap.size (fun k_ => some k_ ≠ ((.slice Ao22 t1095.length co22) : Value).ownBlock ∧ some k_ ≠ ((.slice Ao29 t1119.length co29) : Value).ownBlock) (.slice Ao36 t1122.length co36) t1122) ∧ Aside0 (wc.heap[gb1086]? = some (.cells #[.int .i64 a0_0, .int .i64 a0_1, (.slice A0_2 l0_2.length c0_2)] 53 (0, 0))) ∧ Aside0 (wc.heap[gb1098]? = some (.cells #[.int .i64 t1093, .int .i64 t1094, (.slice Ao22 t1095.length co22)] 57 (0, 0))) ∧ Aside0 (wc.heap[gb1104]? = some (.cells #[.int .i64 t1099, .int .i64 t1100, (.slice Ao29 t1119.length co29)] 57 (0, 0))) ∧ Aside0 (wc.heap[gb1110]? = some (.cells #[.int .i64 t1105, .int .i64 t1106, (.slice Ao36 t1122.length co36)] 57 (0, 0))) ∧ Aside0 (Below w.heap.size w wc))
             case first =>
              have H := HC78.out
              clear HC78
              by_cases c79 : t1123 = t1121
              ·
               rw [if_pos c79] at H
               have c79b0 : (t1123 == t1121) = true := beq_iff_eq.mpr c79
               have c79b1 : (t1123 != t1121) = false := bne_eq_false_iff_eq.mpr c79
               clear c79
               (first | rw [c79b0] | (simp only [i64_w, i32_w]; rw [c79b0]) | rw [c79b4] | rw [c79b3] | skip)
               have H' := Aside0.mk H
               clear H
               go_wp2
               go_meet
               case rel => exact ⟨_, H', ⟨by have := HJ3.out; have := HJ13.out; have := HJ41.out; have := HJ48.out; have := HJ64.out; have := HJ68.out; first | omega | exact Nat.le_refl _⟩, ⟨by (try simp only [hl1105002_48]); (try simp only [hl1111002_68]); (with_reducible repeat (first | apply Kd.R_alloc | apply Kd.R_drewN | apply Kd.R_drew)); exact HO_1099002.out⟩, ⟨by (try simp only [hl1105002_48]); (try simp only [hl1111002_68]); (with_reducible repeat (first | apply Kd.R_alloc | apply Kd.R_drewN | apply Kd.R_drew)); exact HO_1105002.out⟩, ⟨by (try simp only [hl1105002_48]); (try simp only [hl1111002_68]); (with_reducible repeat (first | apply Kd.R_alloc | apply Kd.R_drewN | apply Kd.R_drew)); exact HO_1111002.out⟩, ⟨by (try simp only [hl1105002_48]); (try simp only [hl1111002_68]); (with_reducible repeat (first | refine blk_drewN ?_ _ | refine blk_drew ?_ | refine blk_alloc ?_ _)); exact BK1086.out⟩, ⟨by (try simp only [hl1105002_48]); (try simp only [hl1111002_68]); (with_reducible repeat (first | refine blk_drewN ?_ _ | refine blk_drew ?_ | refine blk_alloc ?_ _)); exact BK1098.out⟩, ⟨by (try simp only [hl1105002_48]); (try simp only [hl1111002_68]); (with_reducible repeat (first | refine blk_drewN ?_ _ | refine blk_drew ?_ | refine blk_alloc ?_ _)); exact BK1104.out⟩, ⟨by (try simp only [hl1105002_48]); (try simp only [hl1111002_68]); (with_reducible repeat (first | refine blk_drewN ?_ _ | refine blk_drew ?_ | refine blk_alloc ?_ _)); exact BK1110.out⟩, ⟨hb_ HB.out⟩⟩
              ·
               rw [if_neg c79] at H
               have c79b0 : (t1123 == t1121) = false := beq_eq_false_iff_ne.mpr c79
               have c79b1 : (t1123 != t1121) = true := bne_iff_ne.mpr c79
               (first | rw [c79b0] | (simp only [i64_w, i32_w]; rw [c79b0]) | rw [c79b4] | rw [c79b3] | skip)
               obtain rfl := Option.some.inj H
               go_wp2
               go_ret
               exact ⟨er_, hb_ HB.out⟩
             case rest =>
              clear HC78
              (try clear c2); (try clear p2); (try clear c3); (try clear c4); (try clear c5); (try clear c6); (try clear c7); (try clear c8); (try clear c8b0); (try clear c20); (try clear c26); (try clear c27); (try clear c29); (try clear c31); (try clear c32); (try clear c33); (try clear c34); (try clear c35); (try clear c39); (try clear c46); (try clear c47); (try clear c50); (try clear c51); (try clear c52); (try clear c55); (try clear c55b0); (try clear c57); (try clear c58); (try clear c59); (try clear c61); (try clear c62); (try clear c66); (try clear c70); (try clear c71); (try clear c72); (try clear c77); (try clear c77b0); (try clear c79); (try clear c79b0); (try clear c79b1); (try clear hcz15_0); (try clear hcz15_1); (try clear hcz15_2); (try clear hcz21_0); (try clear hcz21_1); (try clear hcz21_2); (try clear hcz23_0); (try clear hcz23_1); (try clear hcz23_2); (try clear hcz28_0); (try clear hcz28_1); (try clear hcz28_2); (try clear hcz35_0); (try clear hcz35_1); (try clear hcz35_2); (try clear hcz37_0); (try clear hcz37_1); (try clear hcz37_2); (try clear hcz53_0); (try clear hcz53_1); (try clear hcz53_2); (try clear hcz60_0); (try clear hcz60_1); (try clear hcz60_2); (try clear hcz63_0); (try clear hcz63_1); (try clear hcz63_2); (try clear hcz6_0); (try clear hcz6_1); (try clear hcz6_2); (try clear hcz73_0); (try clear hcz73_1); (try clear hcz73_2); (try clear hcz75_0); (try clear hcz75_1); (try clear hcz75_2); (try clear hfz15_0); (try clear hfz15_1); (try clear hfz15_2); (try clear hfz21_0); (try clear hfz21_1); (try clear hfz21_2); (try clear hfz23_0); (try clear hfz23_1); (try clear hfz23_2); (try clear hfz28_0); (try clear hfz28_1); (try clear hfz28_2); (try clear hfz35_0); (try clear hfz35_1); (try clear hfz35_2); (try clear hfz37_0); (try clear hfz37_1); (try clear hfz37_2); (try clear hfz53_0); (try clear hfz53_1); (try clear hfz53_2); (try clear hfz60_0); (try clear hfz60_1); (try clear hfz60_2); (try clear hfz63_0); (try clear hfz63_1); (try clear hfz63_2); (try clear hfz6_0); (try clear hfz6_1); (try clear hfz6_2); (try clear hfz73_0); (try clear hfz73_1); (try clear hfz73_2); (try clear hfz75_0); (try clear hfz75_1); (try clear hfz75_2); (try clear p2)
              obtain ⟨kq, HA, HJ77, HO_1099002, HO_1105002, HO_1111002, BK1086, BK1098, BK1104, BK1110, HB⟩ := hcut
              cases kq with
              | zero => exact absurd HA.out (by simp [laws_FnExactRowPack.j6])
              | succ kj77 =>
               have H := HA.out
               clear HA
               simp only [laws_FnExactRowPack.j6] at H
               replace H := Option.bind_eq_some_iff.mp H
               obtain ⟨⟨t1124, t1125, t1126⟩, A800, H⟩ := H
               replace H : ((impl_RowPack.f kj77 t1124 t1125 t1126 a1).bind fun bt1129 => ((laws_eqRow.f kj77 bt1129.1 bt1129.2.1 bt1129.2.2 t1093 t1094 t1095).bind fun t1135 => (if t1135 = true then (laws_FnExactRowPack.j7 kj77 t1121 t1105 t1106 t1122) else (some false)))) = some r := H
               have A80 := Aside0.mk A800
               clear A800
               replace H := Option.bind_eq_some_iff.mp H
               obtain ⟨⟨t1129, t1130, t1131⟩, A810, H⟩ := H
               replace H : ((laws_eqRow.f kj77 t1129 t1130 t1131 t1093 t1094 t1095).bind fun t1135 => (if t1135 = true then (laws_FnExactRowPack.j7 kj77 t1121 t1105 t1106 t1122) else (some false))) = some r := H
               have A81 := Aside0.mk A810
               clear A810
               replace H := Option.bind_eq_some_iff.mp H
               obtain ⟨t1135, A820, H⟩ := H
               replace H : (if t1135 = true then (laws_FnExactRowPack.j7 kj77 t1121 t1105 t1106 t1122) else (some false)) = some r := H
               have A82 := Aside0.mk A820
               clear A820
               have HC83 := Aside0.mk H
               clear H
               have hnb84 := NB1086_1098.out
               have hnc84 := NB1098_1086.out
               have hnb85 := NB1086_1104.out
               have hnc85 := NB1104_1086.out
               have hnb86 := NB1086_1110.out
               have hnc86 := NB1110_1086.out
               have hcz87_0 : wc.cell? ⟨gb1086, 0, none⟩ = some (.int .i64 a0_0) := (blk_cell BK1086.out 0).trans rfl
               have hcz87_1 : wc.cell? ⟨gb1086, 1, none⟩ = some (.int .i64 a0_1) := (blk_cell BK1086.out 1).trans rfl
               have hcz87_2 : wc.cell? ⟨gb1086, 2, none⟩ = some (.slice A0_2 l0_2.length c0_2) := (blk_cell BK1086.out 2).trans rfl
               have hfz87_0 := blk_frozen BK1086.out 0
               have hfz87_1 := blk_frozen BK1086.out 1
               have hfz87_2 := blk_frozen BK1086.out 2
               go_upto_if 65 with (first | ((with_reducible refine gate_callee (f := 31) rfl ?_); refine goesL_ (some 59) rfl rfl Try.func31 (by kernel_rfl) rfl #[.agg #[.int .i64 a0_0, .int .i64 a0_1, .slice A0_2 l0_2.length c0_2]] rfl sm_ ?_; (with_reducible refine (laws_toRow.calls kj77 a0_0 a0_1 _ _ l0_2 t1124 t1125 t1126 _ ?side1 ?side2 A80.out).mono ?_); (case side1 => repeat (first | exact (Kd.C_below HR0_2.out HB.out) | (with_reducible refine Kd.C_alloc ?_ _) | (with_reducible refine Kd.C_drewN ?_ _) | (with_reducible refine Kd.C_drew ?_))); (case side2 => exact HC0_2.out); rintro e w88 ⟨v1127, rfl, ho0, hb⟩; refine ⟨_, rfl, ?_⟩; have n0_ := Aside0.mk (Kd.R_elder' (rq_ HO_1099002.out) (Kd.R_base ho0) hb); have n1_ := Aside0.mk (Kd.R_elder' (rq_ HO_1105002.out) (Kd.R_base ho0) hb); have n2_ := Aside0.mk (Kd.R_elder' (rq_ HO_1111002.out) (Kd.R_base ho0) hb); have n3_ := Aside0.mk (Kd.R_lower (Kd.R_new' (Kd.R_new' (Kd.R_new' ho0 (Kd.R_lt (rq_ HO_1099002.out))) (Kd.R_lt (rq_ HO_1105002.out))) (Kd.R_lt (rq_ HO_1111002.out))) (below_size (hb_ HB.out))); have n4_ := Aside0.mk (bb_ BK1086.out hb); have n5_ := Aside0.mk (bb_ BK1098.out hb); have n6_ := Aside0.mk (bb_ BK1104.out hb); have n7_ := Aside0.mk (bb_ BK1110.out hb); have n8_ := Aside0.mk (below_step (hb_ HB.out) hb); clear HO_1099002; clear HO_1105002; clear HO_1111002; clear BK1086; clear BK1098; clear BK1104; clear BK1110; clear HB; have HO_1099002 := n0_; have HO_1105002 := n1_; have HO_1111002 := n2_; have HO1128 := n3_; have BK1086 := n4_; have BK1098 := n5_; have BK1104 := n6_; have BK1110 := n7_; have HB := n8_; clear n0_ n1_ n2_ n3_ n4_ n5_ n6_ n7_ n8_; (try clear hb); (try clear hb2); (try clear hk); (try clear hi); (try clear ho0); obtain ⟨Ao89, co89, eo89⟩ := Kd.R_slice HO1128.out; subst eo89) | ((with_reducible refine gate_callee (f := 47) rfl ?_); refine goesL_ (some 61) rfl rfl Try.func47 (by kernel_rfl) rfl #[.agg #[.int .i64 t1124, .int .i64 t1125, .slice Ao89 t1126.length co89], .int .i64 a1] rfl sm_ ?_; (with_reducible refine (impl_RowPack.calls kj77 t1124 t1125 _ _ t1126 a1 t1129 t1130 t1131 _ ?side1 ?side2 A81.out).mono ?_); (case side1 => repeat (first | exact (Kd.R_reads' HO1128.out).2.2 | (with_reducible refine Kd.C_alloc ?_ _) | (with_reducible refine Kd.C_drewN ?_ _) | (with_reducible refine Kd.C_drew ?_))); (case side2 => exact (Kd.R_reads' HO1128.out).2.1); rintro e w90 ⟨v1132, rfl, ho0, hb⟩; refine ⟨_, rfl, ?_⟩; have n0_ := Aside0.mk (Kd.R_elder' (rq_ HO_1099002.out) (Kd.R_base ho0) hb); have n1_ := Aside0.mk (Kd.R_elder' (rq_ HO_1105002.out) (Kd.R_base ho0) hb); have n2_ := Aside0.mk (Kd.R_elder' (rq_ HO_1111002.out) (Kd.R_base ho0) hb); have n3_ := Aside0.mk (Kd.R_elder' (rq_ HO1128.out) (Kd.R_base ho0) hb); have n4_ := Aside0.mk (Kd.R_lower (Kd.R_new' (Kd.R_new' (Kd.R_new' (Kd.R_new' ho0 (Kd.R_lt (rq_ HO_1099002.out))) (Kd.R_lt (rq_ HO_1105002.out))) (Kd.R_lt (rq_ HO_1111002.out))) (Kd.R_lt (rq_ HO1128.out))) (below_size (hb_ HB.out))); have n5_ := Aside0.mk (bb_ BK1086.out hb); have n6_ := Aside0.mk (bb_ BK1098.out hb); have n7_ := Aside0.mk (bb_ BK1104.out hb); have n8_ := Aside0.mk (bb_ BK1110.out hb); have n9_ := Aside0.mk (below_step (hb_ HB.out) hb); clear HO_1099002; clear HO_1105002; clear HO_1111002; clear HO1128; clear BK1086; clear BK1098; clear BK1104; clear BK1110; clear HB; have HO_1099002 := n0_; have HO_1105002 := n1_; have HO_1111002 := n2_; have HO1128 := n3_; have HO1133 := n4_; have BK1086 := n5_; have BK1098 := n6_; have BK1104 := n7_; have BK1110 := n8_; have HB := n9_; clear n0_ n1_ n2_ n3_ n4_ n5_ n6_ n7_ n8_ n9_; (try clear hb); (try clear hb2); (try clear hk); (try clear hi); (try clear ho0)) | ((with_reducible refine gate_dst (N := 12) rfl ?_); refine box_event ?hg (N := 12) ?hd (cs := #[.int .i64 0, .int .i64 0, .slice none 0 0]) (t := 57) ?hr ?_; (case hd => rfl); (case hg => rfl); (case hr => first | (go_simp; done) | (go_simp; rfl)); intro gb1134 hg w91 hbox hb; have n0_ := Aside0.mk (Kd.R_below (rq_ HO_1099002.out) hb); have n1_ := Aside0.mk (Kd.R_below (rq_ HO_1105002.out) hb); have n2_ := Aside0.mk (Kd.R_below (rq_ HO_1111002.out) hb); have n3_ := Aside0.mk (Kd.R_below (rq_ HO1128.out) hb); have n4_ := Aside0.mk (Kd.R_below (rq_ HO1133.out) hb); have n5_ := Aside0.mk (bb_ BK1086.out hb); have n6_ := Aside0.mk (bb_ BK1098.out hb); have n7_ := Aside0.mk (bb_ BK1104.out hb); have n8_ := Aside0.mk (bb_ BK1110.out hb); have n9_ := Aside0.mk (below_step (hb_ HB.out) hb); have n10_ := Aside0.mk (hbox); have n11_ := Aside0.mk ((by rw [hg]; exact (below_size (hb_ HB.out)) : w.heap.size ≤ gb1134)); have n12_ := Aside0.mk ((by rw [hg]; exact (below_size (hb_ HB.out)) : w.heap.size ≤ gb1134)); have n13_ := Aside0.mk ((nl_ BK1086.out hg : gb1086 ≠ gb1134)); have n14_ := Aside0.mk ((ng_ BK1086.out hg : gb1134 ≠ gb1086)); have n15_ := Aside0.mk ((nl_ BK1098.out hg : gb1098 ≠ gb1134)); have n16_ := Aside0.mk ((ng_ BK1098.out hg : gb1134 ≠ gb1098)); have n17_ := Aside0.mk ((nl_ BK1104.out hg : gb1104 ≠ gb1134)); have n18_ := Aside0.mk ((ng_ BK1104.out hg : gb1134 ≠ gb1104)); have n19_ := Aside0.mk ((nl_ BK1110.out hg : gb1110 ≠ gb1134)); have n20_ := Aside0.mk ((ng_ BK1110.out hg : gb1134 ≠ gb1110)); clear HO_1099002; clear HO_1105002; clear HO_1111002; clear HO1128; clear HO1133; clear BK1086; clear BK1098; clear BK1104; clear BK1110; clear HB; have HO_1099002 := n0_; have HO_1105002 := n1_; have HO_1111002 := n2_; have HO1128 := n3_; have HO1133 := n4_; have BK1086 := n5_; have BK1098 := n6_; have BK1104 := n7_; have BK1110 := n8_; have HB := n9_; have BK1134 := n10_; have GW1134 := n11_; have GE1134 := n12_; have NB1086_1134 := n13_; have NB1134_1086 := n14_; have NB1098_1134 := n15_; have NB1134_1098 := n16_; have NB1104_1134 := n17_; have NB1134_1104 := n18_; have NB1110_1134 := n19_; have NB1134_1110 := n20_; clear n0_ n1_ n2_ n3_ n4_ n5_ n6_ n7_ n8_ n9_ n10_ n11_ n12_ n13_ n14_ n15_ n16_ n17_ n18_ n19_ n20_; clear hb hbox hg; have hnb92 := NB1134_1086.out; have hnc92 := NB1086_1134.out; have hnb93 := NB1134_1098.out; have hnc93 := NB1098_1134.out; have hnb94 := NB1134_1104.out; have hnc94 := NB1104_1134.out; have hnb95 := NB1134_1110.out; have hnc95 := NB1110_1134.out; have hcz96_0 : w91.cell? ⟨gb1134, 0, none⟩ = some (.int .i64 0) := (blk_cell BK1134.out 0).trans rfl; have hcz96_1 : w91.cell? ⟨gb1134, 1, none⟩ = some (.int .i64 0) := (blk_cell BK1134.out 1).trans rfl; have hcz96_2 : w91.cell? ⟨gb1134, 2, none⟩ = some (.slice none 0 0) := (blk_cell BK1134.out 2).trans rfl; have hfz96_0 := blk_frozen BK1134.out 0; have hfz96_1 := blk_frozen BK1134.out 1; have hfz96_2 := blk_frozen BK1134.out 2; obtain ⟨Ao97, co97, eo97⟩ := Kd.R_slice HO1133.out; subst eo97; have hnb98 := NB1098_1104.out; have hnc98 := NB1104_1098.out; have hnb99 := NB1098_1110.out; have hnc99 := NB1110_1098.out; have hcz100_0 : w91.cell? ⟨gb1098, 0, none⟩ = some (.int .i64 t1093) := (blk_cell BK1098.out 0).trans rfl; have hcz100_1 : w91.cell? ⟨gb1098, 1, none⟩ = some (.int .i64 t1094) := (blk_cell BK1098.out 1).trans rfl; have hcz100_2 : w91.cell? ⟨gb1098, 2, none⟩ = some (.slice Ao22 t1095.length co22) := (blk_cell BK1098.out 2).trans rfl; have hfz100_0 := blk_frozen BK1098.out 0; have hfz100_1 := blk_frozen BK1098.out 1; have hfz100_2 := blk_frozen BK1098.out 2) | ((with_reducible refine gate_callee (f := 33) rfl ?_); refine goesL_ (some 64) rfl rfl Try.func33 (by kernel_rfl) rfl #[.agg #[.int .i64 t1129, .int .i64 t1130, .slice Ao97 t1131.length co97], .agg #[.int .i64 t1093, .int .i64 t1094, .slice Ao22 t1095.length co22]] rfl sm_ ?_; (with_reducible refine (laws_eqRow.calls kj77 t1129 t1130 _ _ t1131 t1093 t1094 _ _ t1095 t1135 _ ?side1 ?side2 ?side3 ?side4 A82.out).mono ?_); (case side1 => refine (Kd.R_reads' (e := 69) (base := w.heap.size) (ok := fun k_ => ((((True ∧ some k_ ≠ (.slice Ao22 t1095.length co22 : Value).ownBlock) ∧ some k_ ≠ (.slice Ao29 t1119.length co29 : Value).ownBlock) ∧ some k_ ≠ (.slice Ao36 t1122.length co36 : Value).ownBlock) ∧ some k_ ≠ (.slice Ao89 t1126.length co89 : Value).ownBlock)) (n := t1131.length) (c := co97) ?_).2.2; exact (rk_ HO1133.out BK1134.out)); (case side2 => exact (Kd.R_reads' HO1133.out).2.1); (case side3 => refine (Kd.R_reads' (e := 69) (base := w.heap.size) (ok := fun k_ => (((some k_ ≠ (.slice Ao29 t1119.length co29 : Value).ownBlock ∧ some k_ ≠ (.slice Ao36 t1122.length co36 : Value).ownBlock) ∧ some k_ ≠ (.slice Ao89 t1126.length co89 : Value).ownBlock) ∧ some k_ ≠ (.slice Ao97 t1131.length co97 : Value).ownBlock)) (n := t1095.length) (c := co22) ?_).2.2; exact (rk_ HO_1099002.out BK1134.out)); (case side4 => exact (Kd.R_reads' HO_1099002.out).2.1); rintro e w101 ⟨rfl, hb⟩; refine ⟨_, rfl, ?_⟩; have n0_ := Aside0.mk (Kd.R_below (rk_ HO_1099002.out BK1134.out) hb); have n1_ := Aside0.mk (Kd.R_below (rk_ HO_1105002.out BK1134.out) hb); have n2_ := Aside0.mk (Kd.R_below (rk_ HO_1111002.out BK1134.out) hb); have n3_ := Aside0.mk (Kd.R_below (rk_ HO1128.out BK1134.out) hb); have n4_ := Aside0.mk (Kd.R_below (rk_ HO1133.out BK1134.out) hb); have n5_ := Aside0.mk (blk_below (g := gb1086) (o := .cells #[.int .i64 a0_0, .int .i64 a0_1, .slice A0_2 l0_2.length c0_2] 53 (0, 0)) (bf_ NB1086_1134.out BK1086.out) hb); have n6_ := Aside0.mk (blk_below (g := gb1098) (o := .cells #[.int .i64 t1093, .int .i64 t1094, .slice Ao22 t1095.length co22] 57 (0, 0)) (bf_ NB1098_1134.out BK1098.out) hb); have n7_ := Aside0.mk (blk_below (g := gb1104) (o := .cells #[.int .i64 t1099, .int .i64 t1100, .slice Ao29 t1119.length co29] 57 (0, 0)) (bf_ NB1104_1134.out BK1104.out) hb); have n8_ := Aside0.mk (blk_below (g := gb1110) (o := .cells #[.int .i64 t1105, .int .i64 t1106, .slice Ao36 t1122.length co36] 57 (0, 0)) (bf_ NB1110_1134.out BK1110.out) hb); have n9_ := Aside0.mk (blk_below (g := gb1134) (o := .cells #[.int .i64 t1129, .int .i64 t1130, .slice Ao97 t1131.length co97] 57 (0, 0)) (bp_ BK1134.out) hb); have n10_ := Aside0.mk (below_step (hb_ HB.out) hb); clear HO_1099002; clear HO_1105002; clear HO_1111002; clear HO1128; clear HO1133; clear BK1086; clear BK1098; clear BK1104; clear BK1110; clear BK1134; clear HB; have HO_1099002 := n0_; have HO_1105002 := n1_; have HO_1111002 := n2_; have HO1128 := n3_; have HO1133 := n4_; have BK1086 := n5_; have BK1098 := n6_; have BK1104 := n7_; have BK1110 := n8_; have BK1134 := n9_; have HB := n10_; clear n0_ n1_ n2_ n3_ n4_ n5_ n6_ n7_ n8_ n9_ n10_; (try clear hb); (try clear hb2); (try clear hk); (try clear hi)))
               (try simp only [Act.put, List.setIfInBounds_toArray, List.set_cons_zero, List.set_cons_succ])
               go_cut [] (fun wc => ∃ (kq : Nat), Aside0 (laws_FnExactRowPack.j7 kq t1121 t1105 t1106 t1122 = some r) ∧ Aside0 (kq ≤ kj77) ∧ Aside0 (Kd.R k_Item 69 wc w.heap.size (fun k_ => some k_ ≠ ((.slice Ao29 t1119.length co29) : Value).ownBlock ∧ some k_ ≠ ((.slice Ao36 t1122.length co36) : Value).ownBlock ∧ some k_ ≠ ((.slice Ao97 t1131.length co97) : Value).ownBlock) (.slice Ao22 t1095.length co22) t1095) ∧ Aside0 (Kd.R k_Item 69 wc w.heap.size (fun k_ => some k_ ≠ ((.slice Ao22 t1095.length co22) : Value).ownBlock ∧ some k_ ≠ ((.slice Ao36 t1122.length co36) : Value).ownBlock ∧ some k_ ≠ ((.slice Ao97 t1131.length co97) : Value).ownBlock) (.slice Ao29 t1119.length co29) t1119) ∧ Aside0 (Kd.R k_Item 69 wc w.heap.size (fun k_ => some k_ ≠ ((.slice Ao22 t1095.length co22) : Value).ownBlock ∧ some k_ ≠ ((.slice Ao29 t1119.length co29) : Value).ownBlock ∧ some k_ ≠ ((.slice Ao97 t1131.length co97) : Value).ownBlock) (.slice Ao36 t1122.length co36) t1122) ∧ Aside0 (Kd.R k_Item 69 wc w.heap.size (fun k_ => some k_ ≠ ((.slice Ao22 t1095.length co22) : Value).ownBlock ∧ some k_ ≠ ((.slice Ao29 t1119.length co29) : Value).ownBlock ∧ some k_ ≠ ((.slice Ao36 t1122.length co36) : Value).ownBlock) (.slice Ao97 t1131.length co97) t1131) ∧ Aside0 (wc.heap[gb1086]? = some (.cells #[.int .i64 a0_0, .int .i64 a0_1, (.slice A0_2 l0_2.length c0_2)] 53 (0, 0))) ∧ Aside0 (wc.heap[gb1098]? = some (.cells #[.int .i64 t1093, .int .i64 t1094, (.slice Ao22 t1095.length co22)] 57 (0, 0))) ∧ Aside0 (wc.heap[gb1104]? = some (.cells #[.int .i64 t1099, .int .i64 t1100, (.slice Ao29 t1119.length co29)] 57 (0, 0))) ∧ Aside0 (wc.heap[gb1110]? = some (.cells #[.int .i64 t1105, .int .i64 t1106, (.slice Ao36 t1122.length co36)] 57 (0, 0))) ∧ Aside0 (wc.heap[gb1134]? = some (.cells #[.int .i64 t1129, .int .i64 t1130, (.slice Ao97 t1131.length co97)] 57 (0, 0))) ∧ Aside0 (Below w.heap.size w wc))
               case first =>
                have H := HC83.out
                clear HC83
                by_cases c102 : t1135 = true
                ·
                 subst c102
                 have H1 : (laws_FnExactRowPack.j7 kj77 t1121 t1105 t1106 t1122) = some r := by rw [if_pos rfl] at H; exact H
                 clear H
                 have H := H1
                 clear H1
                 have H' := Aside0.mk H
                 clear H
                 go_wp2
                 go_meet
                 case rel => exact ⟨_, H', ⟨by have := HJ3.out; have := HJ13.out; have := HJ41.out; have := HJ48.out; have := HJ64.out; have := HJ68.out; have := HJ77.out; first | omega | exact Nat.le_refl _⟩, ⟨by (try simp only [hl1105002_48]); (try simp only [hl1111002_68]); (with_reducible repeat (first | apply Kd.R_alloc | apply Kd.R_drewN | apply Kd.R_drew)); exact Kd.R_mono HO_1099002.out (fun _ hk => ⟨hk.1.1.1, ⟨hk.1.1.2, hk.2⟩⟩)⟩, ⟨by (try simp only [hl1105002_48]); (try simp only [hl1111002_68]); (with_reducible repeat (first | apply Kd.R_alloc | apply Kd.R_drewN | apply Kd.R_drew)); exact Kd.R_mono HO_1105002.out (fun _ hk => ⟨hk.1.1.1, ⟨hk.1.1.2, hk.2⟩⟩)⟩, ⟨by (try simp only [hl1105002_48]); (try simp only [hl1111002_68]); (with_reducible repeat (first | apply Kd.R_alloc | apply Kd.R_drewN | apply Kd.R_drew)); exact Kd.R_mono HO_1111002.out (fun _ hk => ⟨hk.1.1.1, ⟨hk.1.1.2, hk.2⟩⟩)⟩, ⟨by (try simp only [hl1105002_48]); (try simp only [hl1111002_68]); (with_reducible repeat (first | apply Kd.R_alloc | apply Kd.R_drewN | apply Kd.R_drew)); exact Kd.R_mono HO1133.out (fun _ hk => ⟨hk.1.1.1.2, ⟨hk.1.1.2, hk.1.2⟩⟩)⟩, ⟨by (try simp only [hl1105002_48]); (try simp only [hl1111002_68]); (with_reducible repeat (first | refine blk_drewN ?_ _ | refine blk_drew ?_ | refine blk_alloc ?_ _)); exact BK1086.out⟩, ⟨by (try simp only [hl1105002_48]); (try simp only [hl1111002_68]); (with_reducible repeat (first | refine blk_drewN ?_ _ | refine blk_drew ?_ | refine blk_alloc ?_ _)); exact BK1098.out⟩, ⟨by (try simp only [hl1105002_48]); (try simp only [hl1111002_68]); (with_reducible repeat (first | refine blk_drewN ?_ _ | refine blk_drew ?_ | refine blk_alloc ?_ _)); exact BK1104.out⟩, ⟨by (try simp only [hl1105002_48]); (try simp only [hl1111002_68]); (with_reducible repeat (first | refine blk_drewN ?_ _ | refine blk_drew ?_ | refine blk_alloc ?_ _)); exact BK1110.out⟩, ⟨by (try simp only [hl1105002_48]); (try simp only [hl1111002_68]); (with_reducible repeat (first | refine blk_drewN ?_ _ | refine blk_drew ?_ | refine blk_alloc ?_ _)); exact BK1134.out⟩, ⟨hb_ HB.out⟩⟩
                ·
                 replace c102 := Bool.eq_false_iff.mpr c102
                 subst c102
                 have H1 : (some false) = some r := by rw [if_neg (show ¬ (false = true) by decide)] at H; exact H
                 clear H
                 have H := H1
                 clear H1
                 obtain rfl := Option.some.inj H
                 go_wp2
                 go_ret
                 exact ⟨er_, hb_ HB.out⟩
               case rest =>
                clear HC83
                (try clear c1); (try clear c2); (try clear p2); (try clear c3); (try clear c4); (try clear c5); (try clear c6); (try clear c7); (try clear c8); (try clear c8b0); (try clear c9); (try clear c10); (try clear c20); (try clear c26); (try clear c27); (try clear c29); (try clear c31); (try clear c32); (try clear c33); (try clear c34); (try clear c35); (try clear c39); (try clear c46); (try clear c47); (try clear c50); (try clear c51); (try clear c52); (try clear c55); (try clear c55b0); (try clear c57); (try clear c58); (try clear c59); (try clear c61); (try clear c62); (try clear c66); (try clear c70); (try clear c71); (try clear c72); (try clear c77); (try clear c77b0); (try clear c79); (try clear c79b0); (try clear c79b1); (try clear c84); (try clear c85); (try clear c86); (try clear c92); (try clear c93); (try clear c94); (try clear c95); (try clear c98); (try clear c99); (try clear c102); (try clear hcz100_0); (try clear hcz100_1); (try clear hcz100_2); (try clear hcz15_0); (try clear hcz15_1); (try clear hcz15_2); (try clear hcz21_0); (try clear hcz21_1); (try clear hcz21_2); (try clear hcz23_0); (try clear hcz23_1); (try clear hcz23_2); (try clear hcz28_0); (try clear hcz28_1); (try clear hcz28_2); (try clear hcz35_0); (try clear hcz35_1); (try clear hcz35_2); (try clear hcz37_0); (try clear hcz37_1); (try clear hcz37_2); (try clear hcz53_0); (try clear hcz53_1); (try clear hcz53_2); (try clear hcz60_0); (try clear hcz60_1); (try clear hcz60_2); (try clear hcz63_0); (try clear hcz63_1); (try clear hcz63_2); (try clear hcz6_0); (try clear hcz6_1); (try clear hcz6_2); (try clear hcz73_0); (try clear hcz73_1); (try clear hcz73_2); (try clear hcz75_0); (try clear hcz75_1); (try clear hcz75_2); (try clear hcz87_0); (try clear hcz87_1); (try clear hcz87_2); (try clear hcz96_0); (try clear hcz96_1); (try clear hcz96_2); (try clear hfz100_0); (try clear hfz100_1); (try clear hfz100_2); (try clear hfz15_0); (try clear hfz15_1); (try clear hfz15_2); (try clear hfz21_0); (try clear hfz21_1); (try clear hfz21_2); (try clear hfz23_0); (try clear hfz23_1); (try clear hfz23_2); (try clear hfz28_0); (try clear hfz28_1); (try clear hfz28_2); (try clear hfz35_0); (try clear hfz35_1); (try clear hfz35_2); (try clear hfz37_0); (try clear hfz37_1); (try clear hfz37_2); (try clear hfz53_0); (try clear hfz53_1); (try clear hfz53_2); (try clear hfz60_0); (try clear hfz60_1); (try clear hfz60_2); (try clear hfz63_0); (try clear hfz63_1); (try clear hfz63_2); (try clear hfz6_0); (try clear hfz6_1); (try clear hfz6_2); (try clear hfz73_0); (try clear hfz73_1); (try clear hfz73_2); (try clear hfz75_0); (try clear hfz75_1); (try clear hfz75_2); (try clear hfz87_0); (try clear hfz87_1); (try clear hfz87_2); (try clear hfz96_0); (try clear hfz96_1); (try clear hfz96_2); (try clear p2)
                obtain ⟨kq, HA, HJ82, HO_1099002, HO_1105002, HO_1111002, HO_1135002, BK1086, BK1098, BK1104, BK1110, BK1134, HB⟩ := hcut
                cases kq with
                | zero => exact absurd HA.out (by simp [laws_FnExactRowPack.j7])
                | succ kj82 =>
                 have H := HA.out
                 clear HA
                 simp only [laws_FnExactRowPack.j7] at H
                 replace H := Option.bind_eq_some_iff.mp H
                 obtain ⟨t1136, A1030, H⟩ := H
                 replace H : (if t1136 < 0 then (some false) else (if t1136 = t1121 then (some true) else (some false))) = some r := H
                 have A103 := Aside0.mk A1030
                 clear A1030
                 by_cases c104 : t1136 < 0
                 ·
                  rw [if_pos c104] at H
                  have c104b0 : decide (t1136 < 0) = true := decide_eq_true c104
                  clear c104
                  obtain rfl := Option.some.inj H
                  have hnb105 := NB1110_1086.out
                  have hnc105 := NB1086_1110.out
                  have hnb106 := NB1110_1098.out
                  have hnc106 := NB1098_1110.out
                  have hnb107 := NB1110_1104.out
                  have hnc107 := NB1104_1110.out
                  have hnb108 := NB1110_1134.out
                  have hnc108 := NB1134_1110.out
                  have hcz109_0 : wc.cell? ⟨gb1110, 0, none⟩ = some (.int .i64 t1105) := (blk_cell BK1110.out 0).trans rfl
                  have hcz109_1 : wc.cell? ⟨gb1110, 1, none⟩ = some (.int .i64 t1106) := (blk_cell BK1110.out 1).trans rfl
                  have hcz109_2 : wc.cell? ⟨gb1110, 2, none⟩ = some (.slice Ao36 t1122.length co36) := (blk_cell BK1110.out 2).trans rfl
                  have hfz109_0 := blk_frozen BK1110.out 0
                  have hfz109_1 := blk_frozen BK1110.out 1
                  have hfz109_2 := blk_frozen BK1110.out 2
                  go_wp2_with (first | ((with_reducible refine gate_callee (f := 35) rfl ?_); refine goesL_ (some 68) rfl rfl Try.func35 (by kernel_rfl) rfl #[.agg #[.int .i64 t1105, .int .i64 t1106, .slice Ao36 t1122.length co36], .int .i64 1] rfl sm_ ?_; (with_reducible refine (laws_heldRow.calls kj82 t1105 t1106 _ _ t1122 1 t1136 _ ?side1 ?side2 A103.out).mono ?_); (case side1 => repeat (first | exact (Kd.R_reads' HO_1111002.out).2.2 | (with_reducible refine Kd.C_alloc ?_ _) | (with_reducible refine Kd.C_drewN ?_ _) | (with_reducible refine Kd.C_drew ?_))); (case side2 => exact (Kd.R_reads' HO_1111002.out).2.1); rintro e w110 ⟨rfl, hb⟩; refine ⟨_, rfl, ?_⟩; have n0_ := Aside0.mk (Kd.R_below (rq_ HO_1099002.out) hb); have n1_ := Aside0.mk (Kd.R_below (rq_ HO_1105002.out) hb); have n2_ := Aside0.mk (Kd.R_below (rq_ HO_1111002.out) hb); have n3_ := Aside0.mk (Kd.R_below (rq_ HO_1135002.out) hb); have n4_ := Aside0.mk (bb_ BK1086.out hb); have n5_ := Aside0.mk (bb_ BK1098.out hb); have n6_ := Aside0.mk (bb_ BK1104.out hb); have n7_ := Aside0.mk (bb_ BK1110.out hb); have n8_ := Aside0.mk (bb_ BK1134.out hb); have n9_ := Aside0.mk (below_step (hb_ HB.out) hb); clear HO_1099002; clear HO_1105002; clear HO_1111002; clear HO_1135002; clear BK1086; clear BK1098; clear BK1104; clear BK1110; clear BK1134; clear HB; have HO_1099002 := n0_; have HO_1105002 := n1_; have HO_1111002 := n2_; have HO_1135002 := n3_; have BK1086 := n4_; have BK1098 := n5_; have BK1104 := n6_; have BK1110 := n7_; have BK1134 := n8_; have HB := n9_; clear n0_ n1_ n2_ n3_ n4_ n5_ n6_ n7_ n8_ n9_; (try clear hb); (try clear hb2); (try clear hk); (try clear hi)))
                  go_ret
                  exact ⟨er_, hb_ HB.out⟩
                 ·
                  rw [if_neg c104] at H
                  have c104b0 : decide (t1136 < 0) = false := decide_eq_false c104
                  clear c104
                  by_cases c111 : t1136 = t1121
                  ·
                   rw [if_pos c111] at H
                   have c111b0 : (t1136 == t1121) = true := beq_iff_eq.mpr c111
                   have c111b1 : (t1136 != t1121) = false := bne_eq_false_iff_eq.mpr c111
                   clear c111
                   obtain rfl := Option.some.inj H
                   have hnb112 := NB1110_1086.out
                   have hnc112 := NB1086_1110.out
                   have hnb113 := NB1110_1098.out
                   have hnc113 := NB1098_1110.out
                   have hnb114 := NB1110_1104.out
                   have hnc114 := NB1104_1110.out
                   have hnb115 := NB1110_1134.out
                   have hnc115 := NB1134_1110.out
                   have hcz116_0 : wc.cell? ⟨gb1110, 0, none⟩ = some (.int .i64 t1105) := (blk_cell BK1110.out 0).trans rfl
                   have hcz116_1 : wc.cell? ⟨gb1110, 1, none⟩ = some (.int .i64 t1106) := (blk_cell BK1110.out 1).trans rfl
                   have hcz116_2 : wc.cell? ⟨gb1110, 2, none⟩ = some (.slice Ao36 t1122.length co36) := (blk_cell BK1110.out 2).trans rfl
                   have hfz116_0 := blk_frozen BK1110.out 0
                   have hfz116_1 := blk_frozen BK1110.out 1
                   have hfz116_2 := blk_frozen BK1110.out 2
                   go_wp2_with (first | ((with_reducible refine gate_callee (f := 35) rfl ?_); refine goesL_ (some 68) rfl rfl Try.func35 (by kernel_rfl) rfl #[.agg #[.int .i64 t1105, .int .i64 t1106, .slice Ao36 t1122.length co36], .int .i64 1] rfl sm_ ?_; (with_reducible refine (laws_heldRow.calls kj82 t1105 t1106 _ _ t1122 1 t1136 _ ?side1 ?side2 A103.out).mono ?_); (case side1 => repeat (first | exact (Kd.R_reads' HO_1111002.out).2.2 | (with_reducible refine Kd.C_alloc ?_ _) | (with_reducible refine Kd.C_drewN ?_ _) | (with_reducible refine Kd.C_drew ?_))); (case side2 => exact (Kd.R_reads' HO_1111002.out).2.1); rintro e w117 ⟨rfl, hb⟩; refine ⟨_, rfl, ?_⟩; have n0_ := Aside0.mk (Kd.R_below (rq_ HO_1099002.out) hb); have n1_ := Aside0.mk (Kd.R_below (rq_ HO_1105002.out) hb); have n2_ := Aside0.mk (Kd.R_below (rq_ HO_1111002.out) hb); have n3_ := Aside0.mk (Kd.R_below (rq_ HO_1135002.out) hb); have n4_ := Aside0.mk (bb_ BK1086.out hb); have n5_ := Aside0.mk (bb_ BK1098.out hb); have n6_ := Aside0.mk (bb_ BK1104.out hb); have n7_ := Aside0.mk (bb_ BK1110.out hb); have n8_ := Aside0.mk (bb_ BK1134.out hb); have n9_ := Aside0.mk (below_step (hb_ HB.out) hb); clear HO_1099002; clear HO_1105002; clear HO_1111002; clear HO_1135002; clear BK1086; clear BK1098; clear BK1104; clear BK1110; clear BK1134; clear HB; have HO_1099002 := n0_; have HO_1105002 := n1_; have HO_1111002 := n2_; have HO_1135002 := n3_; have BK1086 := n4_; have BK1098 := n5_; have BK1104 := n6_; have BK1110 := n7_; have BK1134 := n8_; have HB := n9_; clear n0_ n1_ n2_ n3_ n4_ n5_ n6_ n7_ n8_ n9_; (try clear hb); (try clear hb2); (try clear hk); (try clear hi)))
                   go_ret
                   exact ⟨er_, hb_ HB.out⟩
                  ·
                   rw [if_neg c111] at H
                   have c111b0 : (t1136 == t1121) = false := beq_eq_false_iff_ne.mpr c111
                   have c111b1 : (t1136 != t1121) = true := bne_iff_ne.mpr c111
                   obtain rfl := Option.some.inj H
                   have hnb118 := NB1110_1086.out
                   have hnc118 := NB1086_1110.out
                   have hnb119 := NB1110_1098.out
                   have hnc119 := NB1098_1110.out
                   have hnb120 := NB1110_1104.out
                   have hnc120 := NB1104_1110.out
                   have hnb121 := NB1110_1134.out
                   have hnc121 := NB1134_1110.out
                   have hcz122_0 : wc.cell? ⟨gb1110, 0, none⟩ = some (.int .i64 t1105) := (blk_cell BK1110.out 0).trans rfl
                   have hcz122_1 : wc.cell? ⟨gb1110, 1, none⟩ = some (.int .i64 t1106) := (blk_cell BK1110.out 1).trans rfl
                   have hcz122_2 : wc.cell? ⟨gb1110, 2, none⟩ = some (.slice Ao36 t1122.length co36) := (blk_cell BK1110.out 2).trans rfl
                   have hfz122_0 := blk_frozen BK1110.out 0
                   have hfz122_1 := blk_frozen BK1110.out 1
                   have hfz122_2 := blk_frozen BK1110.out 2
                   go_wp2_with (first | ((with_reducible refine gate_callee (f := 35) rfl ?_); refine goesL_ (some 68) rfl rfl Try.func35 (by kernel_rfl) rfl #[.agg #[.int .i64 t1105, .int .i64 t1106, .slice Ao36 t1122.length co36], .int .i64 1] rfl sm_ ?_; (with_reducible refine (laws_heldRow.calls kj82 t1105 t1106 _ _ t1122 1 t1136 _ ?side1 ?side2 A103.out).mono ?_); (case side1 => repeat (first | exact (Kd.R_reads' HO_1111002.out).2.2 | (with_reducible refine Kd.C_alloc ?_ _) | (with_reducible refine Kd.C_drewN ?_ _) | (with_reducible refine Kd.C_drew ?_))); (case side2 => exact (Kd.R_reads' HO_1111002.out).2.1); rintro e w123 ⟨rfl, hb⟩; refine ⟨_, rfl, ?_⟩; have n0_ := Aside0.mk (Kd.R_below (rq_ HO_1099002.out) hb); have n1_ := Aside0.mk (Kd.R_below (rq_ HO_1105002.out) hb); have n2_ := Aside0.mk (Kd.R_below (rq_ HO_1111002.out) hb); have n3_ := Aside0.mk (Kd.R_below (rq_ HO_1135002.out) hb); have n4_ := Aside0.mk (bb_ BK1086.out hb); have n5_ := Aside0.mk (bb_ BK1098.out hb); have n6_ := Aside0.mk (bb_ BK1104.out hb); have n7_ := Aside0.mk (bb_ BK1110.out hb); have n8_ := Aside0.mk (bb_ BK1134.out hb); have n9_ := Aside0.mk (below_step (hb_ HB.out) hb); clear HO_1099002; clear HO_1105002; clear HO_1111002; clear HO_1135002; clear BK1086; clear BK1098; clear BK1104; clear BK1110; clear BK1134; clear HB; have HO_1099002 := n0_; have HO_1105002 := n1_; have HO_1111002 := n2_; have HO_1135002 := n3_; have BK1086 := n4_; have BK1098 := n5_; have BK1104 := n6_; have BK1110 := n7_; have BK1134 := n8_; have HB := n9_; clear n0_ n1_ n2_ n3_ n4_ n5_ n6_ n7_ n8_ n9_; (try clear hb); (try clear hb2); (try clear hk); (try clear hi)))
                   go_ret
                   exact ⟨er_, hb_ HB.out⟩
end Go.Proofs.Ytiknkolclcdajaa.Q
