/- Made by a program of ours out of the print of the loaded functions: for each of some functions a plain function, and the walk that shows that a call comes to what it says. No condition but those of each theorem. -/
import Derived.Test.YtiknkolclcdajaaZXRowPack0
import Derived.Test.YtiknkolclcdajaaZXRowPacka
import Derived.Test.YtiknkolclcdajaaZXRowPackb
namespace Go.Proofs.Ytiknkolclcdajaa.Q
open Go.RowKit Go.Proofs.YtiknkolclcdajaaW.PrintWords Go.Proofs.YtiknkolclcdajaaW.PrintLast Go.Proofs.YtiknkolclcdajaaW.PrintMore
attribute [local go_sem] max2_int min2_int max_two min_two max_three min_three max_four min_four   -- for this text's walks alone
set_option linter.unusedVariables false
set_option linter.unusedSimpArgs false

/-! ### spec_RowPack: function 46 -/
abbrev spec_RowPack.m0 : Array Bool := #[false, false, false, false, false, false, false, false, false, false, false, false, false, false, false, false, false, false, false, false, false]
abbrev spec_RowPack.m1 : Array Bool := #[true, false, false, false, false, false, false, false, false, false, false, false, false, false, false, false, false, false, false, false, false]
abbrev spec_RowPack.m2 : Array Bool := #[true, true, false, false, false, false, false, false, false, false, false, false, false, false, false, false, false, false, false, false, false]
abbrev spec_RowPack.m3 : Array Bool := #[true, true, true, false, false, false, false, false, false, false, false, false, false, false, false, false, false, false, false, false, false]
abbrev spec_RowPack.m4 : Array Bool := #[true, true, true, true, false, false, false, false, false, false, false, false, false, false, false, false, false, false, false, false, false]
abbrev spec_RowPack.m5 : Array Bool := #[true, true, true, true, true, true, false, false, false, false, false, false, false, false, false, false, false, false, false, false, false]
abbrev spec_RowPack.m6 : Array Bool := #[true, true, true, true, true, true, true, false, false, false, false, false, false, false, false, false, false, false, false, false, false]
abbrev spec_RowPack.m7 : Array Bool := #[true, true, true, true, true, true, true, true, false, false, false, false, false, false, false, false, false, false, false, false, false]
abbrev spec_RowPack.m8 : Array Bool := #[true, true, true, true, true, true, true, true, true, false, false, false, false, false, false, false, false, false, false, false, false]
abbrev spec_RowPack.m9 : Array Bool := #[true, true, true, true, true, true, true, true, true, true, false, false, false, false, false, false, false, false, false, false, false]
abbrev spec_RowPack.m10 : Array Bool := #[true, true, true, true, true, true, true, true, true, true, true, false, false, false, false, false, false, false, false, false, false]
abbrev spec_RowPack.m11 : Array Bool := #[true, true, true, true, true, true, true, true, true, true, true, true, false, false, false, false, false, false, false, false, false]
abbrev spec_RowPack.m12 : Array Bool := #[true, true, true, true, true, true, true, true, true, true, true, true, true, false, false, false, false, false, false, false, false]
abbrev spec_RowPack.m13 : Array Bool := #[true, true, true, true, true, true, true, true, true, true, true, true, true, true, false, false, false, false, false, false, false]
abbrev spec_RowPack.m14 : Array Bool := #[true, true, true, true, true, true, true, true, true, true, true, true, true, true, true, false, false, false, false, false, false]
abbrev spec_RowPack.m15 : Array Bool := #[true, true, true, true, true, true, true, true, true, true, true, true, true, true, true, true, false, false, false, false, false]
abbrev spec_RowPack.m16 : Array Bool := #[true, true, true, true, true, true, true, true, true, true, true, true, true, true, true, true, true, false, false, false, false]
abbrev spec_RowPack.m17 : Array Bool := #[true, true, true, true, true, true, true, true, true, true, true, true, true, true, true, true, true, true, false, false, false]
abbrev spec_RowPack.m18 : Array Bool := #[true, true, true, true, true, true, true, true, true, true, true, true, true, true, true, true, true, true, true, false, false]
abbrev spec_RowPack.m19 : Array Bool := #[true, true, true, true, true, true, true, true, true, true, true, true, true, true, true, true, true, true, true, true, false]
abbrev spec_RowPack.m20 : Array Bool := #[true, true, true, true, true, true, true, true, true, true, true, true, true, true, true, true, true, true, true, true, true]
abbrev spec_RowPack.m21 : Array Bool := #[true, true, true, true, false, true, false, false, false, false, false, false, false, false, false, false, false, false, false, false, false]
mutual
def spec_RowPack.j0 : Nat → Int → Bool → Int → Int → List (S_Item) → Option (Int × Int × (List (S_Item)))
 | 0, _, _, _, _, _ => none
 | k + 1, x1, x14, x1028000, x1028001, x1028002 => if x14 = true then ((spec_l3Copy.f x1028000 x1028001 x1028002).bind fun bt1030 => (some (bt1030.1, bt1030.2.1, bt1030.2.2))) else (spec_RowPack.j1 k x1 x1028000 x1028001 x1028002)
def spec_RowPack.j1 : Nat → Int → Int → Int → List (S_Item) → Option (Int × Int × (List (S_Item)))
 | 0, _, _, _, _ => none
 | k + 1, x1, x1028000, x1028001, x1028002 => spec_RowPack.l0 k x1 0 x1028000 x1028001 x1028002 x1028000 x1028001 ([] : List (S_Item))
def spec_RowPack.l0 : Nat → Int → Int → Int → Int → List (S_Item) → Int → Int → List (S_Item) → Option (Int × Int × (List (S_Item)))
 | 0, _, _, _, _, _, _, _, _ => none
 | k + 1, x1, x6, x1028000, x1028001, x1028002, x1036000, x1036001, x1036002 => if x6 < (x1028002.length : Int) then (spec_RowPack.j3 k x1 x6 x1028000 x1028001 x1028002 x1036000 x1036001 x1036002) else (some (x1036000, x1036001, x1036002))
def spec_RowPack.j3 : Nat → Int → Int → Int → Int → List (S_Item) → Int → Int → List (S_Item) → Option (Int × Int × (List (S_Item)))
 | 0, _, _, _, _, _, _, _, _ => none
 | k + 1, x1, x6, x1028000, x1028001, x1028002, x1036000, x1036001, x1036002 => if 0 ≤ x6 then (if x6 < (x1028002.length : Int) then (if ((rd_Item x1028002 x6).f1).toList = ([] : List UInt8) then (spec_RowPack.j4 k x1 x6 true x1028000 x1028001 x1028002 x1036000 x1036001 x1036002 ((rd_Item x1028002 x6).f0) ((rd_Item x1028002 x6).f1) ((rd_Item x1028002 x6).f2) ((rd_Item x1028002 x6).f3) ((rd_Item x1028002 x6).f4)) else ((spec_l3Behind.f k x1028000 x1028001 x1028002 x6).bind fun t1038 => (if t1038 = true then (if x1 = 0 then (none) else (spec_RowPack.j4 k x1 x6 ((wrap64 (Int.tdiv ((rd_Item x1028002 x6).f0) x1)) == (wrap64 (Int.tdiv (wrap64 (x1028001 - 1)) x1))) x1028000 x1028001 x1028002 x1036000 x1036001 x1036002 ((rd_Item x1028002 x6).f0) ((rd_Item x1028002 x6).f1) ((rd_Item x1028002 x6).f2) ((rd_Item x1028002 x6).f3) ((rd_Item x1028002 x6).f4))) else (spec_RowPack.j4 k x1 x6 true x1028000 x1028001 x1028002 x1036000 x1036001 x1036002 ((rd_Item x1028002 x6).f0) ((rd_Item x1028002 x6).f1) ((rd_Item x1028002 x6).f2) ((rd_Item x1028002 x6).f3) ((rd_Item x1028002 x6).f4))))) else (none)) else (none)
def spec_RowPack.j4 : Nat → Int → Int → Bool → Int → Int → List (S_Item) → Int → Int → List (S_Item) → Int → ByteArray → ByteArray → Int → Int → Option (Int × Int × (List (S_Item)))
 | 0, _, _, _, _, _, _, _, _, _, _, _, _, _, _ => none
 | k + 1, x1, x6, x54, x1028000, x1028001, x1028002, x1036000, x1036001, x1036002, x1038000, x1038001, x1038002, x1038003, x1038004 => if x54 = true then (if x1036002.length < 2513169434916 then (spec_RowPack.l0 k x1 (wrap64 (x6 + 1)) x1028000 x1028001 x1028002 x1036000 x1036001 (x1036002 ++ [(⟨x1038000, x1038001, x1038002, x1038003, x1038004⟩ : S_Item)])) else (none)) else (spec_RowPack.l0 k x1 (wrap64 (x6 + 1)) x1028000 x1028001 x1028002 x1036000 x1036001 x1036002)
end
def spec_RowPack.f (k : Nat) (a0_0 : Int) (a0_1 : Int) (l0_2 : List (S_Item)) (a1 : Int) : Option (Int × Int × (List (S_Item))) := if a1 < 1 then (spec_RowPack.j0 k a1 true a0_0 a0_1 l0_2) else ((spec_RowOk.f k a0_0 a0_1 l0_2).bind fun t1029 => (spec_RowPack.j0 k a1 (!t1029) a0_0 a0_1 l0_2))
theorem spec_RowPack.mono_l : ∀ k, (∀ y0 y1 y2 y3 y4, LeO (spec_RowPack.j0 k y0 y1 y2 y3 y4) (spec_RowPack.j0 (k + 1) y0 y1 y2 y3 y4)) ∧ (∀ y0 y1 y2 y3, LeO (spec_RowPack.j1 k y0 y1 y2 y3) (spec_RowPack.j1 (k + 1) y0 y1 y2 y3)) ∧ (∀ y0 y1 y2 y3 y4 y5 y6 y7, LeO (spec_RowPack.l0 k y0 y1 y2 y3 y4 y5 y6 y7) (spec_RowPack.l0 (k + 1) y0 y1 y2 y3 y4 y5 y6 y7)) ∧ (∀ y0 y1 y2 y3 y4 y5 y6 y7, LeO (spec_RowPack.j3 k y0 y1 y2 y3 y4 y5 y6 y7) (spec_RowPack.j3 (k + 1) y0 y1 y2 y3 y4 y5 y6 y7)) ∧ (∀ y0 y1 y2 y3 y4 y5 y6 y7 y8 y9 y10 y11 y12 y13, LeO (spec_RowPack.j4 k y0 y1 y2 y3 y4 y5 y6 y7 y8 y9 y10 y11 y12 y13) (spec_RowPack.j4 (k + 1) y0 y1 y2 y3 y4 y5 y6 y7 y8 y9 y10 y11 y12 y13))
 | 0 => ⟨fun _ _ _ _ _ r h => by simp [spec_RowPack.j0] at h, fun _ _ _ _ r h => by simp [spec_RowPack.j1] at h, fun _ _ _ _ _ _ _ _ r h => by simp [spec_RowPack.l0] at h, fun _ _ _ _ _ _ _ _ r h => by simp [spec_RowPack.j3] at h, fun _ _ _ _ _ _ _ _ _ _ _ _ _ _ r h => by simp [spec_RowPack.j4] at h⟩
 | k + 1 => by
  obtain ⟨ih0, ih1, ih2, ih3, ih4⟩ := spec_RowPack.mono_l k
  refine ⟨?_, ?_, ?_, ?_, ?_⟩
  ·
   intro y0 y1 y2 y3 y4
   unfold spec_RowPack.j0
   repeat' first
   | (with_reducible exact ih0 _ _ _ _ _)
   | (with_reducible exact ih1 _ _ _ _)
   | (with_reducible exact ih2 _ _ _ _ _ _ _ _)
   | (with_reducible exact ih3 _ _ _ _ _ _ _ _)
   | (with_reducible exact ih4 _ _ _ _ _ _ _ _ _ _ _ _ _ _)
   | (with_reducible exact spec_RowOk.mono _ _ _ _)
   | (with_reducible exact spec_l3Behind.mono _ _ _ _ _)
   | (with_reducible exact LeO.refl _)
   | (with_reducible exact LeO.none _)
   | (with_reducible refine LeO.ite ?_ ?_)
   | (with_reducible refine LeO.bind ?_ (fun _ => ?_))
   | exact ih0 _ _ _ _ _
   | exact ih1 _ _ _ _
   | exact ih2 _ _ _ _ _ _ _ _
   | exact ih3 _ _ _ _ _ _ _ _
   | exact ih4 _ _ _ _ _ _ _ _ _ _ _ _ _ _
   | exact spec_RowOk.mono _ _ _ _
   | exact spec_l3Behind.mono _ _ _ _ _
   | exact LeO.none _
   | refine LeO.ite ?_ ?_
   | refine LeO.bind ?_ (fun _ => ?_)
  ·
   intro y0 y1 y2 y3
   unfold spec_RowPack.j1
   repeat' first
   | (with_reducible exact ih0 _ _ _ _ _)
   | (with_reducible exact ih1 _ _ _ _)
   | (with_reducible exact ih2 _ _ _ _ _ _ _ _)
   | (with_reducible exact ih3 _ _ _ _ _ _ _ _)
   | (with_reducible exact ih4 _ _ _ _ _ _ _ _ _ _ _ _ _ _)
   | (with_reducible exact spec_RowOk.mono _ _ _ _)
   | (with_reducible exact spec_l3Behind.mono _ _ _ _ _)
   | (with_reducible exact LeO.refl _)
   | (with_reducible exact LeO.none _)
   | (with_reducible refine LeO.ite ?_ ?_)
   | (with_reducible refine LeO.bind ?_ (fun _ => ?_))
   | exact ih0 _ _ _ _ _
   | exact ih1 _ _ _ _
   | exact ih2 _ _ _ _ _ _ _ _
   | exact ih3 _ _ _ _ _ _ _ _
   | exact ih4 _ _ _ _ _ _ _ _ _ _ _ _ _ _
   | exact spec_RowOk.mono _ _ _ _
   | exact spec_l3Behind.mono _ _ _ _ _
   | exact LeO.none _
   | refine LeO.ite ?_ ?_
   | refine LeO.bind ?_ (fun _ => ?_)
  ·
   intro y0 y1 y2 y3 y4 y5 y6 y7
   unfold spec_RowPack.l0
   repeat' first
   | (with_reducible exact ih0 _ _ _ _ _)
   | (with_reducible exact ih1 _ _ _ _)
   | (with_reducible exact ih2 _ _ _ _ _ _ _ _)
   | (with_reducible exact ih3 _ _ _ _ _ _ _ _)
   | (with_reducible exact ih4 _ _ _ _ _ _ _ _ _ _ _ _ _ _)
   | (with_reducible exact spec_RowOk.mono _ _ _ _)
   | (with_reducible exact spec_l3Behind.mono _ _ _ _ _)
   | (with_reducible exact LeO.refl _)
   | (with_reducible exact LeO.none _)
   | (with_reducible refine LeO.ite ?_ ?_)
   | (with_reducible refine LeO.bind ?_ (fun _ => ?_))
   | exact ih0 _ _ _ _ _
   | exact ih1 _ _ _ _
   | exact ih2 _ _ _ _ _ _ _ _
   | exact ih3 _ _ _ _ _ _ _ _
   | exact ih4 _ _ _ _ _ _ _ _ _ _ _ _ _ _
   | exact spec_RowOk.mono _ _ _ _
   | exact spec_l3Behind.mono _ _ _ _ _
   | exact LeO.none _
   | refine LeO.ite ?_ ?_
   | refine LeO.bind ?_ (fun _ => ?_)
  ·
   intro y0 y1 y2 y3 y4 y5 y6 y7
   unfold spec_RowPack.j3
   repeat' first
   | (with_reducible exact ih0 _ _ _ _ _)
   | (with_reducible exact ih1 _ _ _ _)
   | (with_reducible exact ih2 _ _ _ _ _ _ _ _)
   | (with_reducible exact ih3 _ _ _ _ _ _ _ _)
   | (with_reducible exact ih4 _ _ _ _ _ _ _ _ _ _ _ _ _ _)
   | (with_reducible exact spec_RowOk.mono _ _ _ _)
   | (with_reducible exact spec_l3Behind.mono _ _ _ _ _)
   | (with_reducible exact LeO.refl _)
   | (with_reducible exact LeO.none _)
   | (with_reducible refine LeO.ite ?_ ?_)
   | (with_reducible refine LeO.bind ?_ (fun _ => ?_))
   | exact ih0 _ _ _ _ _
   | exact ih1 _ _ _ _
   | exact ih2 _ _ _ _ _ _ _ _
   | exact ih3 _ _ _ _ _ _ _ _
   | exact ih4 _ _ _ _ _ _ _ _ _ _ _ _ _ _
   | exact spec_RowOk.mono _ _ _ _
   | exact spec_l3Behind.mono _ _ _ _ _
   | exact LeO.none _
   | refine LeO.ite ?_ ?_
   | refine LeO.bind ?_ (fun _ => ?_)
  ·
   intro y0 y1 y2 y3 y4 y5 y6 y7 y8 y9 y10 y11 y12 y13
   unfold spec_RowPack.j4
   repeat' first
   | (with_reducible exact ih0 _ _ _ _ _)
   | (with_reducible exact ih1 _ _ _ _)
   | (with_reducible exact ih2 _ _ _ _ _ _ _ _)
   | (with_reducible exact ih3 _ _ _ _ _ _ _ _)
   | (with_reducible exact ih4 _ _ _ _ _ _ _ _ _ _ _ _ _ _)
   | (with_reducible exact spec_RowOk.mono _ _ _ _)
   | (with_reducible exact spec_l3Behind.mono _ _ _ _ _)
   | (with_reducible exact LeO.refl _)
   | (with_reducible exact LeO.none _)
   | (with_reducible refine LeO.ite ?_ ?_)
   | (with_reducible refine LeO.bind ?_ (fun _ => ?_))
   | exact ih0 _ _ _ _ _
   | exact ih1 _ _ _ _
   | exact ih2 _ _ _ _ _ _ _ _
   | exact ih3 _ _ _ _ _ _ _ _
   | exact ih4 _ _ _ _ _ _ _ _ _ _ _ _ _ _
   | exact spec_RowOk.mono _ _ _ _
   | exact spec_l3Behind.mono _ _ _ _ _
   | exact LeO.none _
   | refine LeO.ite ?_ ?_
   | refine LeO.bind ?_ (fun _ => ?_)
theorem spec_RowPack.mono : ∀ a0 a1 a2 a3 k, LeO (spec_RowPack.f k a0 a1 a2 a3) (spec_RowPack.f (k + 1) a0 a1 a2 a3) := by
 intro a0 a1 a2 a3 k
 obtain ⟨ih0, ih1, ih2, ih3, ih4⟩ := spec_RowPack.mono_l k
 unfold spec_RowPack.f
 repeat' first
  | (with_reducible exact ih0 _ _ _ _ _)
  | (with_reducible exact ih1 _ _ _ _)
  | (with_reducible exact ih2 _ _ _ _ _ _ _ _)
  | (with_reducible exact ih3 _ _ _ _ _ _ _ _)
  | (with_reducible exact ih4 _ _ _ _ _ _ _ _ _ _ _ _ _ _)
  | (with_reducible exact spec_RowOk.mono _ _ _ _)
  | (with_reducible exact spec_l3Behind.mono _ _ _ _ _)
  | (with_reducible exact LeO.refl _)
  | (with_reducible exact LeO.none _)
  | (with_reducible refine LeO.ite ?_ ?_)
  | (with_reducible refine LeO.bind ?_ (fun _ => ?_))
  | exact ih0 _ _ _ _ _
  | exact ih1 _ _ _ _
  | exact ih2 _ _ _ _ _ _ _ _
  | exact ih3 _ _ _ _ _ _ _ _
  | exact ih4 _ _ _ _ _ _ _ _ _ _ _ _ _ _
  | exact spec_RowOk.mono _ _ _ _
  | exact spec_l3Behind.mono _ _ _ _ _
  | exact LeO.none _
  | refine LeO.ite ?_ ?_
  | refine LeO.bind ?_ (fun _ => ?_)
def spec_RowPack.T8 : Bool × List (List Nat × List Nat) := (true, [([], []), ([0], [0]), ([1], [1]), ([2], [2]), ([3], [3]), ([3], [3]), ([4, 5, 3, 3], [3, 4, 5]), ([6, 3], [3, 6]), ([3, 7], [3, 7]), ([8, 6], [8]), ([9], [9]), ([10, 9], [9, 10]), ([9], [9]), ([11, 12, 9], [9, 11, 12]), ([9], [9]), ([14, 9], [9, 14]), ([15, 9], [9, 15]), ([9], [9]), ([16, 17, 9], [9, 16, 17]), ([13, 18, 9], [9, 13, 18]), ([9, 19], [9, 19])])
def spec_RowPack.B8 : List Nat := [0, 1, 3, 7, 15, 15, 63, 127, 255, 511, 1023, 2047, 1023, 8191, 1023, 17407, 50175, 1023, 246783, 524287, 1048575]
theorem spec_RowPack.tab8 : rtab .any (opsOf Try.f46 8) = spec_RowPack.T8 := by kernel_rfl
theorem spec_RowPack.bits8 : waitsOk spec_RowPack.T8.2 spec_RowPack.B8 = true := by kernel_rfl
set_option maxHeartbeats 8000000 in
set_option maxRecDepth 100000 in
theorem spec_RowPack.calls (k : Nat) (a0_0 : Int) (a0_1 : Int) (A0_2 : Option Addr) (c0_2 : Nat) (l0_2 : List (S_Item)) (a1 : Int) (r1 : Int) (r2 : Int) (r3 : List (S_Item)) (w : World) (hr0_2 : Kd.C k_Item w A0_2 l0_2.length l0_2) (hc0_2 : l0_2.length ≤ c0_2) (h : spec_RowPack.f k a0_0 a0_1 l0_2 a1 = some (r1, r2, r3)) :
 Calls Try.prog 46 #[.agg #[.int .i64 a0_0, .int .i64 a0_1, .slice A0_2 l0_2.length c0_2], .int .i64 a1] w fun e w' => ∃ v2_ : Value, e = .returned (.agg #[.int .i64 r1, .int .i64 r2, v2_]) ∧ Kd.R k_Item 69 w' w.heap.size (fun _ => True) v2_ r3 ∧ Below w.heap.size w w' := by
 have hu57 := Try.underlying57
 have hu69 := Try.underlying69
 have HR0_2 := Aside0.mk hr0_2
 have HC0_2 := Aside0.mk hc0_2
 clear hr0_2 hc0_2
 have HB := Aside0.mk (Below.refl w.heap.size w)
 have H : (if a1 < 1 then (spec_RowPack.j0 k a1 true a0_0 a0_1 l0_2) else ((spec_RowOk.f k a0_0 a0_1 l0_2).bind fun t1029 => (spec_RowPack.j0 k a1 (!t1029) a0_0 a0_1 l0_2))) = some (r1, r2, r3) := h
 clear h
 have HC3 := Aside0.mk H
 clear H
 go_enter Try.func46, Try.ntmps46
 go_upto_region 1 with (first | ((with_reducible refine gate_dst (N := 2) rfl ?_); refine box_event ?hg (N := 2) ?hd (cs := #[.int .i64 a0_0, .int .i64 a0_1, .slice A0_2 l0_2.length c0_2]) (t := 57) ?hr ?_; (case hd => rfl); (case hg => rfl); (case hr => first | (go_simp; done) | (go_simp; rfl)); intro gb1027 hg w4 hbox hb; have n0_ := Aside0.mk (below_step (hb_ HB.out) hb); have n1_ := Aside0.mk (hbox); have n2_ := Aside0.mk ((by rw [hg]; exact (below_size (hb_ HB.out)) : w.heap.size ≤ gb1027)); have n3_ := Aside0.mk ((by rw [hg]; exact (below_size (hb_ HB.out)) : w.heap.size ≤ gb1027)); clear HB; have HB := n0_; have BK1027 := n1_; have GW1027 := n2_; have GE1027 := n3_; clear n0_ n1_ n2_ n3_; clear hb hbox hg) | ((with_reducible refine gate_dst (N := 4) rfl ?_); refine box_event ?hg (N := 4) ?hd (cs := #[.int .i64 0, .int .i64 0, .slice none 0 0]) (t := 57) ?hr ?_; (case hd => rfl); (case hg => rfl); (case hr => first | (go_simp; done) | (go_simp; rfl)); intro gb1028 hg w5 hbox hb; have n0_ := Aside0.mk (bb_ BK1027.out hb); have n1_ := Aside0.mk (below_step (hb_ HB.out) hb); have n2_ := Aside0.mk (hbox); have n3_ := Aside0.mk ((by rw [hg]; exact (below_size (hb_ HB.out)) : w.heap.size ≤ gb1028)); have n4_ := Aside0.mk ((by rw [hg]; exact (below_size (hb_ HB.out)) : w.heap.size ≤ gb1028)); have n5_ := Aside0.mk ((nl_ BK1027.out hg : gb1027 ≠ gb1028)); have n6_ := Aside0.mk ((ng_ BK1027.out hg : gb1028 ≠ gb1027)); clear BK1027; clear HB; have BK1027 := n0_; have HB := n1_; have BK1028 := n2_; have GW1028 := n3_; have GE1028 := n4_; have NB1027_1028 := n5_; have NB1028_1027 := n6_; clear n0_ n1_ n2_ n3_ n4_ n5_ n6_; clear hb hbox hg))
 (try simp only [Act.put, List.setIfInBounds_toArray, List.set_cons_zero, List.set_cons_succ])
 go_cut [14] (fun v14 wc => ∃ (kq : Nat) (x14_2 : Bool), v14 = .bool x14_2 ∧ Aside0 (spec_RowPack.j0 kq a1 x14_2 a0_0 a0_1 l0_2 = some (r1, r2, r3)) ∧ Aside0 (kq ≤ k) ∧ Aside0 (wc.heap[gb1027]? = some (.cells #[.int .i64 a0_0, .int .i64 a0_1, (.slice A0_2 l0_2.length c0_2)] 57 (0, 0))) ∧ Aside0 (wc.heap[gb1028]? = some (.cells #[.int .i64 0, .int .i64 0, (.slice none 0 0)] 57 (0, 0))) ∧ Aside0 (Below w.heap.size w wc))
 case first =>
  have H := HC3.out
  clear HC3
  by_cases c6 : a1 < 1
  ·
   rw [if_pos c6] at H
   have c6b0 : decide (a1 < 1) = true := decide_eq_true c6
   clear c6
   (first | rw [c6b0] | (simp only [i64_w, i32_w]; rw [c6b0]) | rw [c6b4] | rw [c6b3] | skip)
   have H' := Aside0.mk H
   clear H
   go_wp2
   go_meet
   case rel => exact ⟨_, (true), (by first | rfl | (simp; done) | (simp [*]; done)), H', ⟨by first | omega | exact Nat.le_refl _⟩, ⟨bq_ BK1027.out⟩, ⟨bq_ BK1028.out⟩, ⟨hb_ HB.out⟩⟩
  ·
   rw [if_neg c6] at H
   have c6b0 : decide (a1 < 1) = false := decide_eq_false c6
   clear c6
   (first | rw [c6b0] | (simp only [i64_w, i32_w]; rw [c6b0]) | rw [c6b4] | rw [c6b3] | skip)
   replace H := Option.bind_eq_some_iff.mp H
   obtain ⟨t1029, A70, H⟩ := H
   replace H : (spec_RowPack.j0 k a1 (!t1029) a0_0 a0_1 l0_2) = some (r1, r2, r3) := H
   have A7 := Aside0.mk A70
   clear A70
   have H' := Aside0.mk H
   clear H
   have hnb8 := NB1027_1028.out
   have hnc8 := NB1028_1027.out
   have hcz9_0 : w5.cell? ⟨gb1027, 0, none⟩ = some (.int .i64 a0_0) := (blk_cell BK1027.out 0).trans rfl
   have hcz9_1 : w5.cell? ⟨gb1027, 1, none⟩ = some (.int .i64 a0_1) := (blk_cell BK1027.out 1).trans rfl
   have hcz9_2 : w5.cell? ⟨gb1027, 2, none⟩ = some (.slice A0_2 l0_2.length c0_2) := (blk_cell BK1027.out 2).trans rfl
   have hfz9_0 := blk_frozen BK1027.out 0
   have hfz9_1 := blk_frozen BK1027.out 1
   have hfz9_2 := blk_frozen BK1027.out 2
   go_wp2_with (first | (go_at_call 45; (with_reducible refine (spec_RowOk.calls k a0_0 a0_1 _ _ l0_2 t1029 _ ?side1 ?side2 A7.out).mono ?_); (case side1 => repeat (first | exact (Kd.C_below HR0_2.out HB.out) | (with_reducible refine Kd.C_alloc ?_ _) | (with_reducible refine Kd.C_drewN ?_ _) | (with_reducible refine Kd.C_drew ?_))); (case side2 => exact HC0_2.out); rintro e w10 ⟨rfl, hb⟩; have n0_ := Aside0.mk (bb_ BK1027.out hb); have n1_ := Aside0.mk (bb_ BK1028.out hb); have n2_ := Aside0.mk (below_step (hb_ HB.out) hb); clear BK1027; clear BK1028; clear HB; have BK1027 := n0_; have BK1028 := n1_; have HB := n2_; clear n0_ n1_ n2_; (try clear hb); (try clear hb2); (try clear hk); (try clear hi)))
   go_meet
   case rel => exact ⟨_, (!t1029), (by first | rfl | (simp; done) | (simp [*]; done)), H', ⟨by first | omega | exact Nat.le_refl _⟩, ⟨bq_ BK1027.out⟩, ⟨bq_ BK1028.out⟩, ⟨hb_ HB.out⟩⟩
 case rest =>
  clear HC3
  (try clear p2); (try clear c4); (try clear c6); (try clear c6b0); (try clear c8); (try clear hcz9_0); (try clear hcz9_1); (try clear hcz9_2); (try clear hfz9_0); (try clear hfz9_1); (try clear hfz9_2)
  obtain ⟨kq, x14_2, rfl, HA, HJ2, BK1027, BK1028, HB⟩ := hcut
  cases kq with
  | zero => exact absurd HA.out (by simp [spec_RowPack.j0])
  | succ kj2 =>
   have H := HA.out
   clear HA
   simp only [spec_RowPack.j0] at H
   have HC11 := Aside0.mk H
   clear H
   go_upto_if 14 with (fail)
   go_cut [] (fun wc => ∃ (kq : Nat) (x1029000_10 : Int) (x1029001_10 : Int), Aside0 (spec_RowPack.j1 kq a1 a0_0 a0_1 l0_2 = some (r1, r2, r3)) ∧ Aside0 (kq ≤ kj2) ∧ Aside0 (wc.heap[gb1027]? = some (.cells #[.int .i64 a0_0, .int .i64 a0_1, (.slice A0_2 l0_2.length c0_2)] 57 (0, 0))) ∧ Aside0 (wc.heap[gb1028]? = some (.cells #[.int .i64 x1029000_10, .int .i64 x1029001_10, (.slice none 0 0)] 57 (0, 0))) ∧ Aside0 (Below w.heap.size w wc))
   case first =>
    have H := HC11.out
    clear HC11
    by_cases c12 : x14_2 = true
    ·
     subst c12
     have H1 : ((spec_l3Copy.f a0_0 a0_1 l0_2).bind fun bt1030 => (some (bt1030.1, bt1030.2.1, bt1030.2.2))) = some (r1, r2, r3) := by rw [if_pos rfl] at H; exact H
     clear H
     have H := H1
     clear H1
     replace H := Option.bind_eq_some_iff.mp H
     obtain ⟨⟨t1030, t1031, t1032⟩, A130, H⟩ := H
     replace H : (some (t1030, t1031, t1032)) = some (r1, r2, r3) := H
     have A13 := Aside0.mk A130
     clear A130
     simp only [Option.some.injEq, Prod.mk.injEq] at H
     obtain ⟨rfl, rfl, rfl⟩ := H
     have hnb14 := NB1027_1028.out
     have hnc14 := NB1028_1027.out
     have hcz15_0 : wc.cell? ⟨gb1027, 0, none⟩ = some (.int .i64 a0_0) := (blk_cell BK1027.out 0).trans rfl
     have hcz15_1 : wc.cell? ⟨gb1027, 1, none⟩ = some (.int .i64 a0_1) := (blk_cell BK1027.out 1).trans rfl
     have hcz15_2 : wc.cell? ⟨gb1027, 2, none⟩ = some (.slice A0_2 l0_2.length c0_2) := (blk_cell BK1027.out 2).trans rfl
     have hfz15_0 := blk_frozen BK1027.out 0
     have hfz15_1 := blk_frozen BK1027.out 1
     have hfz15_2 := blk_frozen BK1027.out 2
     go_wp2_with (first | ((with_reducible refine gate_callee (f := 95) rfl ?_); refine goesL_ (some 16) rfl rfl Try.func95 (by kernel_rfl) rfl #[.agg #[.int .i64 a0_0, .int .i64 a0_1, .slice A0_2 l0_2.length c0_2]] rfl sm_ ?_; (with_reducible refine (spec_l3Copy.calls a0_0 a0_1 _ _ l0_2 t1030 t1031 t1032 _ ?side1 ?side2 A13.out).mono ?_); (case side1 => repeat (first | exact (Kd.C_below HR0_2.out HB.out) | (with_reducible refine Kd.C_alloc ?_ _) | (with_reducible refine Kd.C_drewN ?_ _) | (with_reducible refine Kd.C_drew ?_))); (case side2 => exact HC0_2.out); rintro e w16 ⟨v1033, rfl, ho0, hb⟩; refine ⟨_, rfl, ?_⟩; have n0_ := Aside0.mk (Kd.R_lower ho0 (below_size (hb_ HB.out))); have n1_ := Aside0.mk (bb_ BK1027.out hb); have n2_ := Aside0.mk (bb_ BK1028.out hb); have n3_ := Aside0.mk (below_step (hb_ HB.out) hb); clear BK1027; clear BK1028; clear HB; have HO1034 := n0_; have BK1027 := n1_; have BK1028 := n2_; have HB := n3_; clear n0_ n1_ n2_ n3_; (try clear hb); (try clear hb2); (try clear hk); (try clear hi); (try clear ho0); have hcz17_0 : w16.cell? ⟨gb1028, 0, none⟩ = some (.int .i64 0) := (blk_cell BK1028.out 0).trans rfl; have hcz17_1 : w16.cell? ⟨gb1028, 1, none⟩ = some (.int .i64 0) := (blk_cell BK1028.out 1).trans rfl; have hcz17_2 : w16.cell? ⟨gb1028, 2, none⟩ = some (.slice none 0 0) := (blk_cell BK1028.out 2).trans rfl; have hfz17_0 := blk_frozen BK1028.out 0; have hfz17_1 := blk_frozen BK1028.out 1; have hfz17_2 := blk_frozen BK1028.out 2; obtain ⟨Ao18, co18, eo18⟩ := Kd.R_slice HO1034.out; subst eo18))
     refine bodyPost_ret (results_cell_row rfl _ _ gb1028 57 #[.int .i64 t1030, .int .i64 t1031, .slice Ao18 t1032.length co18] (0, 0) _ rfl (bp_ BK1028.out) Try.underlying57 rfl (by kernel_rfl)) rfl ?_
     exact ⟨_, er_, by (with_reducible repeat (first | apply Kd.R_alloc | apply Kd.R_drewN | apply Kd.R_drew)); exact Kd.R_mono (Kd.R_far (p := ⟨gb1028, 2, none⟩) (Kd.R_far (p := ⟨gb1028, 1, none⟩) (Kd.R_far (p := ⟨gb1028, 0, none⟩) (Kd.R_types HO1034.out BK1028.out (by decide)) (fun _ hk => hk.2) (.int .i64 t1030)) (fun _ hk => hk.2) (.int .i64 t1031)) (fun _ hk => hk.2) (.slice Ao18 t1032.length co18)) (fun _ hk => trivial), hb_ HB.out⟩
    ·
     replace c12 := Bool.eq_false_iff.mpr c12
     subst c12
     have H1 : (spec_RowPack.j1 kj2 a1 a0_0 a0_1 l0_2) = some (r1, r2, r3) := by rw [if_neg (show ¬ (false = true) by decide)] at H; exact H
     clear H
     have H := H1
     clear H1
     have H' := Aside0.mk H
     clear H
     go_wp2
     go_meet
     case rel => exact ⟨_, (0), (0), H', ⟨by have := HJ2.out; first | omega | exact Nat.le_refl _⟩, ⟨bq_ BK1027.out⟩, ⟨bq_ BK1028.out⟩, ⟨hb_ HB.out⟩⟩
   case rest =>
    clear HC11
    (try clear c1); (try clear p2); (try clear c4); (try clear c6); (try clear c6b0); (try clear c8); (try clear c9); (try clear c12); (try clear c14); (try clear hcz15_0); (try clear hcz15_1); (try clear hcz15_2); (try clear hcz17_0); (try clear hcz17_1); (try clear hcz17_2); (try clear hcz9_0); (try clear hcz9_1); (try clear hcz9_2); (try clear hfz15_0); (try clear hfz15_1); (try clear hfz15_2); (try clear hfz17_0); (try clear hfz17_1); (try clear hfz17_2); (try clear hfz9_0); (try clear hfz9_1); (try clear hfz9_2); (try clear p2)
    obtain ⟨kq, x1029000_10, x1029001_10, HA, HJ10, BK1027, BK1028, HB⟩ := hcut
    cases kq with
    | zero => exact absurd HA.out (by simp [spec_RowPack.j1])
    | succ kj10 =>
     have H := HA.out
     clear HA
     simp only [spec_RowPack.j1] at H
     have H' := Aside0.mk H
     clear H
     have hnb19 := NB1027_1028.out
     have hnc19 := NB1028_1027.out
     have hcz20_0 : wc.cell? ⟨gb1027, 0, none⟩ = some (.int .i64 a0_0) := (blk_cell BK1027.out 0).trans rfl
     have hcz20_1 : wc.cell? ⟨gb1027, 1, none⟩ = some (.int .i64 a0_1) := (blk_cell BK1027.out 1).trans rfl
     have hcz20_2 : wc.cell? ⟨gb1027, 2, none⟩ = some (.slice A0_2 l0_2.length c0_2) := (blk_cell BK1027.out 2).trans rfl
     have hfz20_0 := blk_frozen BK1027.out 0
     have hfz20_1 := blk_frozen BK1027.out 1
     have hfz20_2 := blk_frozen BK1027.out 2
     go_wp2_with (first | ((with_reducible refine gate_dst (N := 5) rfl ?_); refine box_event ?hg (N := 5) ?hd (cs := #[.int .i64 0, .int .i64 0, .slice none 0 0]) (t := 57) ?hr ?_; (case hd => rfl); (case hg => rfl); (case hr => first | (go_simp; done) | (go_simp; rfl)); intro gb1035 hg w21 hbox hb; have n0_ := Aside0.mk (bb_ BK1027.out hb); have n1_ := Aside0.mk (bb_ BK1028.out hb); have n2_ := Aside0.mk (below_step (hb_ HB.out) hb); have n3_ := Aside0.mk (hbox); have n4_ := Aside0.mk ((by rw [hg]; exact (below_size (hb_ HB.out)) : w.heap.size ≤ gb1035)); have n5_ := Aside0.mk ((by rw [hg]; exact (below_size (hb_ HB.out)) : w.heap.size ≤ gb1035)); have n6_ := Aside0.mk ((nl_ BK1027.out hg : gb1027 ≠ gb1035)); have n7_ := Aside0.mk ((ng_ BK1027.out hg : gb1035 ≠ gb1027)); have n8_ := Aside0.mk ((nl_ BK1028.out hg : gb1028 ≠ gb1035)); have n9_ := Aside0.mk ((ng_ BK1028.out hg : gb1035 ≠ gb1028)); clear BK1027; clear BK1028; clear HB; have BK1027 := n0_; have BK1028 := n1_; have HB := n2_; have BK1035 := n3_; have GW1035 := n4_; have GE1035 := n5_; have NB1027_1035 := n6_; have NB1035_1027 := n7_; have NB1028_1035 := n8_; have NB1035_1028 := n9_; clear n0_ n1_ n2_ n3_ n4_ n5_ n6_ n7_ n8_ n9_; clear hb hbox hg; have hnb22 := NB1035_1027.out; have hnc22 := NB1027_1035.out; have hnb23 := NB1035_1028.out; have hnc23 := NB1028_1035.out; have hcz24_0 : w21.cell? ⟨gb1035, 0, none⟩ = some (.int .i64 0) := (blk_cell BK1035.out 0).trans rfl; have hcz24_1 : w21.cell? ⟨gb1035, 1, none⟩ = some (.int .i64 0) := (blk_cell BK1035.out 1).trans rfl; have hcz24_2 : w21.cell? ⟨gb1035, 2, none⟩ = some (.slice none 0 0) := (blk_cell BK1035.out 2).trans rfl; have hfz24_0 := blk_frozen BK1035.out 0; have hfz24_1 := blk_frozen BK1035.out 1; have hfz24_2 := blk_frozen BK1035.out 2))
     go_loopg [6] kj10 (fun kq v6 w' => ∃ (x6_3 : Int) (x1036002_3 : List (S_Item)) (u1036002 : Value), v6 = .int .i64 x6_3 ∧ Aside0 (spec_RowPack.l0 kq a1 x6_3 a0_0 a0_1 l0_2 a0_0 a0_1 x1036002_3 = some (r1, r2, r3)) ∧ Aside0 (kq ≤ kj10) ∧ Aside0 (Kd.R k_Item 69 w' w.heap.size (fun _ => True) u1036002 x1036002_3) ∧ Aside0 (w'.heap[gb1027]? = some (.cells #[.int .i64 a0_0, .int .i64 a0_1, (.slice A0_2 l0_2.length c0_2)] 57 (0, 0))) ∧ Aside0 (w'.heap[gb1028]? = some (.cells #[.int .i64 x1029000_10, .int .i64 x1029001_10, (.slice none 0 0)] 57 (0, 0))) ∧ Aside0 (w'.heap[gb1035]? = some (.cells #[.int .i64 a0_0, .int .i64 a0_1, u1036002] 57 (0, 0))) ∧ Aside0 (Below w.heap.size w w'))
     case atStart => exact ⟨(0), (([] : List (S_Item))), (.slice none 0 0), (by first | rfl | (simp; done) | (simp [*]; done)), H', ⟨Nat.le_refl _⟩, ⟨by first | exact Kd.R_nil _ _ _ _ _ | exact Kd.N_nil _ _ _ _ _ | exact Kd.V_nil _ _ _ _ _ | exact Kd.Q_nil _ _ _ _ _ | exact Kd.S_nil _ _ _ _ _⟩, ⟨by (with_reducible repeat (first | refine blk_drewN ?_ _ | refine blk_drew ?_ | refine blk_alloc ?_ _)); refine blk_far ?_ NB1027_1035.out _; (with_reducible repeat (first | refine blk_drewN ?_ _ | refine blk_drew ?_ | refine blk_alloc ?_ _)); refine blk_far ?_ NB1027_1035.out _; (with_reducible repeat (first | refine blk_drewN ?_ _ | refine blk_drew ?_ | refine blk_alloc ?_ _)); refine blk_far ?_ NB1027_1035.out _; (with_reducible repeat (first | refine blk_drewN ?_ _ | refine blk_drew ?_ | refine blk_alloc ?_ _)); exact BK1027.out⟩, ⟨by (with_reducible repeat (first | refine blk_drewN ?_ _ | refine blk_drew ?_ | refine blk_alloc ?_ _)); refine blk_far ?_ NB1028_1035.out _; (with_reducible repeat (first | refine blk_drewN ?_ _ | refine blk_drew ?_ | refine blk_alloc ?_ _)); refine blk_far ?_ NB1028_1035.out _; (with_reducible repeat (first | refine blk_drewN ?_ _ | refine blk_drew ?_ | refine blk_alloc ?_ _)); refine blk_far ?_ NB1028_1035.out _; (with_reducible repeat (first | refine blk_drewN ?_ _ | refine blk_drew ?_ | refine blk_alloc ?_ _)); exact BK1028.out⟩, ⟨by (with_reducible repeat (first | refine blk_drewN ?_ _ | refine blk_drew ?_ | refine blk_alloc ?_ _)); refine blk_put (cs := #[.int .i64 a0_0, .int .i64 a0_1, .slice none 0 0]) ?_ 2 _ rfl; (with_reducible repeat (first | refine blk_drewN ?_ _ | refine blk_drew ?_ | refine blk_alloc ?_ _)); refine blk_put (cs := #[.int .i64 a0_0, .int .i64 0, .slice none 0 0]) ?_ 1 _ rfl; (with_reducible repeat (first | refine blk_drewN ?_ _ | refine blk_drew ?_ | refine blk_alloc ?_ _)); refine blk_put (cs := #[.int .i64 0, .int .i64 0, .slice none 0 0]) ?_ 0 _ rfl; (with_reducible repeat (first | refine blk_drewN ?_ _ | refine blk_drew ?_ | refine blk_alloc ?_ _)); exact BK1035.out⟩, ⟨hb_ HB.out⟩⟩
     case round =>
      clear H'
      (try clear c1); (try clear c2); (try clear p2); (try clear c4); (try clear c6); (try clear c6b0); (try clear c8); (try clear c9); (try clear c12); (try clear c14); (try clear c19); (try clear c22); (try clear c23); (try clear hcz15_0); (try clear hcz15_1); (try clear hcz15_2); (try clear hcz17_0); (try clear hcz17_1); (try clear hcz17_2); (try clear hcz20_0); (try clear hcz20_1); (try clear hcz20_2); (try clear hcz24_0); (try clear hcz24_1); (try clear hcz24_2); (try clear hcz9_0); (try clear hcz9_1); (try clear hcz9_2); (try clear hfz15_0); (try clear hfz15_1); (try clear hfz15_2); (try clear hfz17_0); (try clear hfz17_1); (try clear hfz17_2); (try clear hfz20_0); (try clear hfz20_1); (try clear hfz20_2); (try clear hfz24_0); (try clear hfz24_1); (try clear hfz24_2); (try clear hfz9_0); (try clear hfz9_1); (try clear hfz9_2); (try clear p2)
      obtain ⟨x6_3, x1036002_3, u1036002, rfl, HA, HK3, HO_1036002, BK1027, BK1028, BK1035, HB⟩ := hrel
      cases gk with
      | zero => exact absurd HA.out (by simp [spec_RowPack.l0])
      | succ k3 =>
       have H := HA.out
       clear HA
       simp only [spec_RowPack.l0] at H
       have HC25 := Aside0.mk H
       clear H
       have hnb26 := NB1027_1028.out
       have hnc26 := NB1028_1027.out
       have hnb27 := NB1027_1035.out
       have hnc27 := NB1035_1027.out
       have hcz28_0 : wr.cell? ⟨gb1027, 0, none⟩ = some (.int .i64 a0_0) := (blk_cell BK1027.out 0).trans rfl
       have hcz28_1 : wr.cell? ⟨gb1027, 1, none⟩ = some (.int .i64 a0_1) := (blk_cell BK1027.out 1).trans rfl
       have hcz28_2 : wr.cell? ⟨gb1027, 2, none⟩ = some (.slice A0_2 l0_2.length c0_2) := (blk_cell BK1027.out 2).trans rfl
       have hfz28_0 := blk_frozen BK1027.out 0
       have hfz28_1 := blk_frozen BK1027.out 1
       have hfz28_2 := blk_frozen BK1027.out 2
       go_upto_if 26 with (fail)
       go_cut [] (fun wc => ∃ (kq : Nat), Aside0 (spec_RowPack.j3 kq a1 x6_3 a0_0 a0_1 l0_2 a0_0 a0_1 x1036002_3 = some (r1, r2, r3)) ∧ Aside0 (kq ≤ k3) ∧ Aside0 (Kd.R k_Item 69 wc w.heap.size (fun _ => True) u1036002 x1036002_3) ∧ Aside0 (wc.heap[gb1027]? = some (.cells #[.int .i64 a0_0, .int .i64 a0_1, (.slice A0_2 l0_2.length c0_2)] 57 (0, 0))) ∧ Aside0 (wc.heap[gb1028]? = some (.cells #[.int .i64 x1029000_10, .int .i64 x1029001_10, (.slice none 0 0)] 57 (0, 0))) ∧ Aside0 (wc.heap[gb1035]? = some (.cells #[.int .i64 a0_0, .int .i64 a0_1, u1036002] 57 (0, 0))) ∧ Aside0 (Below w.heap.size w wc))
       case first =>
        have H := HC25.out
        clear HC25
        by_cases c29 : x6_3 < (l0_2.length : Int)
        ·
         rw [if_pos c29] at H
         have c29b0 : decide (x6_3 < (l0_2.length : Int)) = true := decide_eq_true c29
         clear c29
         (first | rw [c29b0] | (simp only [i64_w, i32_w]; rw [c29b0]) | rw [c29b4] | rw [c29b3] | skip)
         have H' := Aside0.mk H
         clear H
         go_wp2
         go_meet
         case rel => exact ⟨_, H', ⟨by have := HJ2.out; have := HJ10.out; have := HK3.out; first | omega | exact Nat.le_refl _⟩, ⟨rq_ HO_1036002.out⟩, ⟨bq_ BK1027.out⟩, ⟨bq_ BK1028.out⟩, ⟨bq_ BK1035.out⟩, ⟨hb_ HB.out⟩⟩
        ·
         rw [if_neg c29] at H
         have c29b0 : decide (x6_3 < (l0_2.length : Int)) = false := decide_eq_false c29
         clear c29
         (first | rw [c29b0] | (simp only [i64_w, i32_w]; rw [c29b0]) | rw [c29b4] | rw [c29b3] | skip)
         simp only [Option.some.injEq, Prod.mk.injEq] at H
         obtain ⟨rfl, rfl, rfl⟩ := H
         have hnb30 := NB1035_1027.out
         have hnc30 := NB1027_1035.out
         have hnb31 := NB1035_1028.out
         have hnc31 := NB1028_1035.out
         have hcz32_0 : wr.cell? ⟨gb1035, 0, none⟩ = some (.int .i64 a0_0) := (blk_cell BK1035.out 0).trans rfl
         have hcz32_1 : wr.cell? ⟨gb1035, 1, none⟩ = some (.int .i64 a0_1) := (blk_cell BK1035.out 1).trans rfl
         have hcz32_2 : wr.cell? ⟨gb1035, 2, none⟩ = some (u1036002) := (blk_cell BK1035.out 2).trans rfl
         have hfz32_0 := blk_frozen BK1035.out 0
         have hfz32_1 := blk_frozen BK1035.out 1
         have hfz32_2 := blk_frozen BK1035.out 2
         have hnb33 := NB1028_1027.out
         have hnc33 := NB1027_1028.out
         have hcz34_0 : wr.cell? ⟨gb1028, 0, none⟩ = some (.int .i64 x1029000_10) := (blk_cell BK1028.out 0).trans rfl
         have hcz34_1 : wr.cell? ⟨gb1028, 1, none⟩ = some (.int .i64 x1029001_10) := (blk_cell BK1028.out 1).trans rfl
         have hcz34_2 : wr.cell? ⟨gb1028, 2, none⟩ = some (.slice none 0 0) := (blk_cell BK1028.out 2).trans rfl
         have hfz34_0 := blk_frozen BK1028.out 0
         have hfz34_1 := blk_frozen BK1028.out 1
         have hfz34_2 := blk_frozen BK1028.out 2
         obtain ⟨Ao35, co35, eo35⟩ := Kd.R_slice HO_1036002.out
         subst eo35
         go_wp2
         refine bodyPost_ret (results_cell_row rfl _ _ gb1028 57 #[.int .i64 a0_0, .int .i64 a0_1, .slice Ao35 x1036002_3.length co35] (0, 0) _ rfl (bp_ BK1028.out) Try.underlying57 rfl (by kernel_rfl)) rfl ?_
         exact ⟨_, er_, by (with_reducible repeat (first | apply Kd.R_alloc | apply Kd.R_drewN | apply Kd.R_drew)); exact Kd.R_mono (Kd.R_far (p := ⟨gb1028, 2, none⟩) (Kd.R_far (p := ⟨gb1028, 1, none⟩) (Kd.R_far (p := ⟨gb1028, 0, none⟩) (Kd.R_types HO_1036002.out BK1028.out (by decide)) (fun _ hk => hk.2) (.int .i64 a0_0)) (fun _ hk => hk.2) (.int .i64 a0_1)) (fun _ hk => hk.2) (.slice Ao35 x1036002_3.length co35)) (fun _ hk => trivial), hb_ HB.out⟩
       case rest =>
        clear HC25
        (try clear c1); (try clear c2); (try clear p2); (try clear c3); (try clear c4); (try clear c6); (try clear c6b0); (try clear c8); (try clear c9); (try clear c12); (try clear c14); (try clear c19); (try clear c22); (try clear c23); (try clear c26); (try clear c27); (try clear c29); (try clear c29b0); (try clear c30); (try clear c31); (try clear c33); (try clear hcz15_0); (try clear hcz15_1); (try clear hcz15_2); (try clear hcz17_0); (try clear hcz17_1); (try clear hcz17_2); (try clear hcz20_0); (try clear hcz20_1); (try clear hcz20_2); (try clear hcz24_0); (try clear hcz24_1); (try clear hcz24_2); (try clear hcz28_0); (try clear hcz28_1); (try clear hcz28_2); (try clear hcz32_0); (try clear hcz32_1); (try clear hcz32_2); (try clear hcz34_0); (try clear hcz34_1); (try clear hcz34_2); (try clear hcz9_0); (try clear hcz9_1); (try clear hcz9_2); (try clear hfz15_0); (try clear hfz15_1); (try clear hfz15_2); (try clear hfz17_0); (try clear hfz17_1); (try clear hfz17_2); (try clear hfz20_0); (try clear hfz20_1); (try clear hfz20_2); (try clear hfz24_0); (try clear hfz24_1); (try clear hfz24_2); (try clear hfz28_0); (try clear hfz28_1); (try clear hfz28_2); (try clear hfz32_0); (try clear hfz32_1); (try clear hfz32_2); (try clear hfz34_0); (try clear hfz34_1); (try clear hfz34_2); (try clear hfz9_0); (try clear hfz9_1); (try clear hfz9_2); (try clear p2)
        obtain ⟨kq, HA, HJ24, HO_1036002, BK1027, BK1028, BK1035, HB⟩ := hcut
        cases kq with
        | zero => exact absurd HA.out (by simp [spec_RowPack.j3])
        | succ kj24 =>
         have H := HA.out
         clear HA
         simp only [spec_RowPack.j3] at H
         by_cases c36 : 0 ≤ x6_3
         ·
          rw [if_pos c36] at H
          have c36b0 : decide (0 ≤ x6_3) = true := decide_eq_true c36
          clear c36
          by_cases c37 : x6_3 < (l0_2.length : Int)
          ·
           rw [if_pos c37] at H
           have c37b0 : decide (x6_3 < (l0_2.length : Int)) = true := decide_eq_true c37
           clear c37
           have HC38 := Aside0.mk H
           clear H
           have hnb39 := NB1027_1028.out
           have hnc39 := NB1028_1027.out
           have hnb40 := NB1027_1035.out
           have hnc40 := NB1035_1027.out
           have hcz41_0 : wc.cell? ⟨gb1027, 0, none⟩ = some (.int .i64 a0_0) := (blk_cell BK1027.out 0).trans rfl
           have hcz41_1 : wc.cell? ⟨gb1027, 1, none⟩ = some (.int .i64 a0_1) := (blk_cell BK1027.out 1).trans rfl
           have hcz41_2 : wc.cell? ⟨gb1027, 2, none⟩ = some (.slice A0_2 l0_2.length c0_2) := (blk_cell BK1027.out 2).trans rfl
           have hfz41_0 := blk_frozen BK1027.out 0
           have hfz41_1 := blk_frozen BK1027.out 1
           have hfz41_2 := blk_frozen BK1027.out 2
           have p1036 : 0 ≤ (x6_3 : Int) := of_decide_eq_true (by first | (with_reducible assumption) | assumption)
           have q1036 : x6_3 < (l0_2.length : Int) := of_decide_eq_true (by first | (with_reducible assumption) | assumption)
           obtain ⟨ad1036, e1036, hx1036_0, hx1036_1, hx1036_2, hx1036_3, hx1036_4⟩ := at_Item HR0_2.out x6_3 p1036 q1036
           cases e1036
           replace hx1036_0 := (HB.out.cell (World.block_lt_of_cell? w _ hx1036_0)).trans hx1036_0
           replace hx1036_1 := (HB.out.cell (World.block_lt_of_cell? w _ hx1036_1)).trans hx1036_1
           replace hx1036_2 := (HB.out.cell (World.block_lt_of_cell? w _ hx1036_2)).trans hx1036_2
           replace hx1036_3 := (HB.out.cell (World.block_lt_of_cell? w _ hx1036_3)).trans hx1036_3
           replace hx1036_4 := (HB.out.cell (World.block_lt_of_cell? w _ hx1036_4)).trans hx1036_4
           replace p1036 := eq_true p1036
           replace q1036 := eq_true q1036
           go_upto_region 8 with (first | ((with_reducible refine gate_dst (N := 7) rfl ?_); refine box_event ?hg (N := 7) ?hd (cs := #[.int .i64 0, .string (⟨#[]⟩ : ByteArray), .string (⟨#[]⟩ : ByteArray), .int .i64 0, .int .i64 0]) (t := 69) ?hr ?_; (case hd => rfl); (case hg => rfl); (case hr => first | (go_simp; done) | (go_simp; rfl)); intro gb1037 hg w42 hbox hb; have n0_ := Aside0.mk (Kd.R_below (Kd.R_elderB (rq_ HO_1036002.out) gb1037 (Nat.le_of_eq hg.symm)) hb); have n1_ := Aside0.mk (bb_ BK1027.out hb); have n2_ := Aside0.mk (bb_ BK1028.out hb); have n3_ := Aside0.mk (bb_ BK1035.out hb); have n4_ := Aside0.mk (below_step (hb_ HB.out) hb); have n5_ := Aside0.mk (hbox); have n6_ := Aside0.mk ((by rw [hg]; exact (below_size (hb_ HB.out)) : w.heap.size ≤ gb1037)); have n7_ := Aside0.mk ((by rw [hg]; exact (below_size (hb_ HB.out)) : w.heap.size ≤ gb1037)); have n8_ := Aside0.mk ((nl_ BK1027.out hg : gb1027 ≠ gb1037)); have n9_ := Aside0.mk ((ng_ BK1027.out hg : gb1037 ≠ gb1027)); have n10_ := Aside0.mk ((nl_ BK1028.out hg : gb1028 ≠ gb1037)); have n11_ := Aside0.mk ((ng_ BK1028.out hg : gb1037 ≠ gb1028)); have n12_ := Aside0.mk ((nl_ BK1035.out hg : gb1035 ≠ gb1037)); have n13_ := Aside0.mk ((ng_ BK1035.out hg : gb1037 ≠ gb1035)); clear HO_1036002; clear BK1027; clear BK1028; clear BK1035; clear HB; have HO_1036002 := n0_; have BK1027 := n1_; have BK1028 := n2_; have BK1035 := n3_; have HB := n4_; have BK1037 := n5_; have GW1037 := n6_; have GE1037 := n7_; have NB1027_1037 := n8_; have NB1037_1027 := n9_; have NB1028_1037 := n10_; have NB1037_1028 := n11_; have NB1035_1037 := n12_; have NB1037_1035 := n13_; clear n0_ n1_ n2_ n3_ n4_ n5_ n6_ n7_ n8_ n9_ n10_ n11_ n12_ n13_; clear hb hbox hg; have hnb43 := NB1037_1027.out; have hnc43 := NB1027_1037.out; have hnb44 := NB1037_1028.out; have hnc44 := NB1028_1037.out; have hnb45 := NB1037_1035.out; have hnc45 := NB1035_1037.out; have hcz46_0 : w42.cell? ⟨gb1037, 0, none⟩ = some (.int .i64 0) := (blk_cell BK1037.out 0).trans rfl; have hcz46_1 : w42.cell? ⟨gb1037, 1, none⟩ = some (.string (⟨#[]⟩ : ByteArray)) := (blk_cell BK1037.out 1).trans rfl; have hcz46_2 : w42.cell? ⟨gb1037, 2, none⟩ = some (.string (⟨#[]⟩ : ByteArray)) := (blk_cell BK1037.out 2).trans rfl; have hcz46_3 : w42.cell? ⟨gb1037, 3, none⟩ = some (.int .i64 0) := (blk_cell BK1037.out 3).trans rfl; have hcz46_4 : w42.cell? ⟨gb1037, 4, none⟩ = some (.int .i64 0) := (blk_cell BK1037.out 4).trans rfl; have hfz46_0 := blk_frozen BK1037.out 0; have hfz46_1 := blk_frozen BK1037.out 1; have hfz46_2 := blk_frozen BK1037.out 2; have hfz46_3 := blk_frozen BK1037.out 3; have hfz46_4 := blk_frozen BK1037.out 4))
           (try simp only [Act.put, List.setIfInBounds_toArray, List.set_cons_zero, List.set_cons_succ])
           go_cut [54] (fun v54 wc => ∃ (kq : Nat) (x54_37 : Bool), v54 = .bool x54_37 ∧ Aside0 (spec_RowPack.j4 kq a1 x6_3 x54_37 a0_0 a0_1 l0_2 a0_0 a0_1 x1036002_3 ((rd_Item l0_2 x6_3).f0) ((rd_Item l0_2 x6_3).f1) ((rd_Item l0_2 x6_3).f2) ((rd_Item l0_2 x6_3).f3) ((rd_Item l0_2 x6_3).f4) = some (r1, r2, r3)) ∧ Aside0 (kq ≤ kj24) ∧ Aside0 (Kd.R k_Item 69 wc w.heap.size (fun k_ => k_ ≠ gb1037) u1036002 x1036002_3) ∧ Aside0 (wc.heap[gb1027]? = some (.cells #[.int .i64 a0_0, .int .i64 a0_1, (.slice (some ad1036) l0_2.length c0_2)] 57 (0, 0))) ∧ Aside0 (wc.heap[gb1028]? = some (.cells #[.int .i64 x1029000_10, .int .i64 x1029001_10, (.slice none 0 0)] 57 (0, 0))) ∧ Aside0 (wc.heap[gb1035]? = some (.cells #[.int .i64 a0_0, .int .i64 a0_1, u1036002] 57 (0, 0))) ∧ Aside0 (wc.heap[gb1037]? = some (.cells #[.int .i64 ((rd_Item l0_2 x6_3).f0), .string ((rd_Item l0_2 x6_3).f1), .string ((rd_Item l0_2 x6_3).f2), .int .i64 ((rd_Item l0_2 x6_3).f3), .int .i64 ((rd_Item l0_2 x6_3).f4)] 69 (0, 0))) ∧ Aside0 (Below w.heap.size w wc))
           case first =>
            have H := HC38.out
            clear HC38
            by_cases c47 : ((rd_Item l0_2 x6_3).f1).toList = ([] : List UInt8)
            ·
             rw [if_pos c47] at H
             have c47b0 : (((rd_Item l0_2 x6_3).f1).toList == ([] : List UInt8)) = true := beq_iff_eq.mpr c47
             have c47b1 : (((rd_Item l0_2 x6_3).f1).toList != ([] : List UInt8)) = false := bne_eq_false_iff_eq.mpr c47
             clear c47
             (first | rw [c47b0] | (simp only [i64_w, i32_w]; rw [c47b0]) | rw [c47b4] | rw [c47b3] | skip)
             have H' := Aside0.mk H
             clear H
             try go_wp2
             have n0_ : Aside0 (Kd.R k_Item 69 (((((w42.setCell ⟨gb1037, 0, none⟩ (.int .i64 ((rd_Item l0_2 x6_3).f0))).setCell ⟨gb1037, 1, none⟩ (.string ((rd_Item l0_2 x6_3).f1))).setCell ⟨gb1037, 2, none⟩ (.string ((rd_Item l0_2 x6_3).f2))).setCell ⟨gb1037, 3, none⟩ (.int .i64 ((rd_Item l0_2 x6_3).f3))).setCell ⟨gb1037, 4, none⟩ (.int .i64 ((rd_Item l0_2 x6_3).f4))) w.heap.size (fun k_ => k_ ≠ gb1037) u1036002 x1036002_3) := ⟨by (with_reducible repeat (first | apply Kd.R_alloc | apply Kd.R_drewN | apply Kd.R_drew)); exact Kd.R_mono (Kd.R_far (p := ⟨gb1037, 4, none⟩) (Kd.R_far (p := ⟨gb1037, 3, none⟩) (Kd.R_far (p := ⟨gb1037, 2, none⟩) (Kd.R_far (p := ⟨gb1037, 1, none⟩) (Kd.R_far (p := ⟨gb1037, 0, none⟩) (Kd.R_mono HO_1036002.out (fun k_ hk => (⟨hk, hk.2⟩ : _ ∧ k_ ≠ gb1037))) (fun _ hk => hk.2) (.int .i64 ((rd_Item l0_2 x6_3).f0))) (fun _ hk => hk.2) (.string ((rd_Item l0_2 x6_3).f1))) (fun _ hk => hk.2) (.string ((rd_Item l0_2 x6_3).f2))) (fun _ hk => hk.2) (.int .i64 ((rd_Item l0_2 x6_3).f3))) (fun _ hk => hk.2) (.int .i64 ((rd_Item l0_2 x6_3).f4))) (fun _ hk => hk.1.2)⟩
             have n1_ : Aside0 ((((((w42.setCell ⟨gb1037, 0, none⟩ (.int .i64 ((rd_Item l0_2 x6_3).f0))).setCell ⟨gb1037, 1, none⟩ (.string ((rd_Item l0_2 x6_3).f1))).setCell ⟨gb1037, 2, none⟩ (.string ((rd_Item l0_2 x6_3).f2))).setCell ⟨gb1037, 3, none⟩ (.int .i64 ((rd_Item l0_2 x6_3).f3))).setCell ⟨gb1037, 4, none⟩ (.int .i64 ((rd_Item l0_2 x6_3).f4))).heap[gb1027]? = some (.cells #[.int .i64 a0_0, .int .i64 a0_1, .slice (some ad1036) l0_2.length c0_2] 57 (0, 0))) := ⟨by (with_reducible repeat (first | refine blk_drewN ?_ _ | refine blk_drew ?_ | refine blk_alloc ?_ _)); refine blk_far ?_ NB1027_1037.out _; (with_reducible repeat (first | refine blk_drewN ?_ _ | refine blk_drew ?_ | refine blk_alloc ?_ _)); refine blk_far ?_ NB1027_1037.out _; (with_reducible repeat (first | refine blk_drewN ?_ _ | refine blk_drew ?_ | refine blk_alloc ?_ _)); refine blk_far ?_ NB1027_1037.out _; (with_reducible repeat (first | refine blk_drewN ?_ _ | refine blk_drew ?_ | refine blk_alloc ?_ _)); refine blk_far ?_ NB1027_1037.out _; (with_reducible repeat (first | refine blk_drewN ?_ _ | refine blk_drew ?_ | refine blk_alloc ?_ _)); refine blk_far ?_ NB1027_1037.out _; (with_reducible repeat (first | refine blk_drewN ?_ _ | refine blk_drew ?_ | refine blk_alloc ?_ _)); exact BK1027.out⟩
             have n2_ : Aside0 ((((((w42.setCell ⟨gb1037, 0, none⟩ (.int .i64 ((rd_Item l0_2 x6_3).f0))).setCell ⟨gb1037, 1, none⟩ (.string ((rd_Item l0_2 x6_3).f1))).setCell ⟨gb1037, 2, none⟩ (.string ((rd_Item l0_2 x6_3).f2))).setCell ⟨gb1037, 3, none⟩ (.int .i64 ((rd_Item l0_2 x6_3).f3))).setCell ⟨gb1037, 4, none⟩ (.int .i64 ((rd_Item l0_2 x6_3).f4))).heap[gb1028]? = some (.cells #[.int .i64 x1029000_10, .int .i64 x1029001_10, .slice none 0 0] 57 (0, 0))) := ⟨by (with_reducible repeat (first | refine blk_drewN ?_ _ | refine blk_drew ?_ | refine blk_alloc ?_ _)); refine blk_far ?_ NB1028_1037.out _; (with_reducible repeat (first | refine blk_drewN ?_ _ | refine blk_drew ?_ | refine blk_alloc ?_ _)); refine blk_far ?_ NB1028_1037.out _; (with_reducible repeat (first | refine blk_drewN ?_ _ | refine blk_drew ?_ | refine blk_alloc ?_ _)); refine blk_far ?_ NB1028_1037.out _; (with_reducible repeat (first | refine blk_drewN ?_ _ | refine blk_drew ?_ | refine blk_alloc ?_ _)); refine blk_far ?_ NB1028_1037.out _; (with_reducible repeat (first | refine blk_drewN ?_ _ | refine blk_drew ?_ | refine blk_alloc ?_ _)); refine blk_far ?_ NB1028_1037.out _; (with_reducible repeat (first | refine blk_drewN ?_ _ | refine blk_drew ?_ | refine blk_alloc ?_ _)); exact BK1028.out⟩
             have n3_ : Aside0 ((((((w42.setCell ⟨gb1037, 0, none⟩ (.int .i64 ((rd_Item l0_2 x6_3).f0))).setCell ⟨gb1037, 1, none⟩ (.string ((rd_Item l0_2 x6_3).f1))).setCell ⟨gb1037, 2, none⟩ (.string ((rd_Item l0_2 x6_3).f2))).setCell ⟨gb1037, 3, none⟩ (.int .i64 ((rd_Item l0_2 x6_3).f3))).setCell ⟨gb1037, 4, none⟩ (.int .i64 ((rd_Item l0_2 x6_3).f4))).heap[gb1035]? = some (.cells #[.int .i64 a0_0, .int .i64 a0_1, u1036002] 57 (0, 0))) := ⟨by (with_reducible repeat (first | refine blk_drewN ?_ _ | refine blk_drew ?_ | refine blk_alloc ?_ _)); refine blk_far ?_ NB1035_1037.out _; (with_reducible repeat (first | refine blk_drewN ?_ _ | refine blk_drew ?_ | refine blk_alloc ?_ _)); refine blk_far ?_ NB1035_1037.out _; (with_reducible repeat (first | refine blk_drewN ?_ _ | refine blk_drew ?_ | refine blk_alloc ?_ _)); refine blk_far ?_ NB1035_1037.out _; (with_reducible repeat (first | refine blk_drewN ?_ _ | refine blk_drew ?_ | refine blk_alloc ?_ _)); refine blk_far ?_ NB1035_1037.out _; (with_reducible repeat (first | refine blk_drewN ?_ _ | refine blk_drew ?_ | refine blk_alloc ?_ _)); refine blk_far ?_ NB1035_1037.out _; (with_reducible repeat (first | refine blk_drewN ?_ _ | refine blk_drew ?_ | refine blk_alloc ?_ _)); exact BK1035.out⟩
             have n4_ : Aside0 ((((((w42.setCell ⟨gb1037, 0, none⟩ (.int .i64 ((rd_Item l0_2 x6_3).f0))).setCell ⟨gb1037, 1, none⟩ (.string ((rd_Item l0_2 x6_3).f1))).setCell ⟨gb1037, 2, none⟩ (.string ((rd_Item l0_2 x6_3).f2))).setCell ⟨gb1037, 3, none⟩ (.int .i64 ((rd_Item l0_2 x6_3).f3))).setCell ⟨gb1037, 4, none⟩ (.int .i64 ((rd_Item l0_2 x6_3).f4))).heap[gb1037]? = some (.cells #[.int .i64 ((rd_Item l0_2 x6_3).f0), .string ((rd_Item l0_2 x6_3).f1), .string ((rd_Item l0_2 x6_3).f2), .int .i64 ((rd_Item l0_2 x6_3).f3), .int .i64 ((rd_Item l0_2 x6_3).f4)] 69 (0, 0))) := ⟨by (with_reducible repeat (first | refine blk_drewN ?_ _ | refine blk_drew ?_ | refine blk_alloc ?_ _)); refine blk_put (cs := #[.int .i64 ((rd_Item l0_2 x6_3).f0), .string ((rd_Item l0_2 x6_3).f1), .string ((rd_Item l0_2 x6_3).f2), .int .i64 ((rd_Item l0_2 x6_3).f3), .int .i64 0]) ?_ 4 _ rfl; (with_reducible repeat (first | refine blk_drewN ?_ _ | refine blk_drew ?_ | refine blk_alloc ?_ _)); refine blk_put (cs := #[.int .i64 ((rd_Item l0_2 x6_3).f0), .string ((rd_Item l0_2 x6_3).f1), .string ((rd_Item l0_2 x6_3).f2), .int .i64 0, .int .i64 0]) ?_ 3 _ rfl; (with_reducible repeat (first | refine blk_drewN ?_ _ | refine blk_drew ?_ | refine blk_alloc ?_ _)); refine blk_put (cs := #[.int .i64 ((rd_Item l0_2 x6_3).f0), .string ((rd_Item l0_2 x6_3).f1), .string (⟨#[]⟩ : ByteArray), .int .i64 0, .int .i64 0]) ?_ 2 _ rfl; (with_reducible repeat (first | refine blk_drewN ?_ _ | refine blk_drew ?_ | refine blk_alloc ?_ _)); refine blk_put (cs := #[.int .i64 ((rd_Item l0_2 x6_3).f0), .string (⟨#[]⟩ : ByteArray), .string (⟨#[]⟩ : ByteArray), .int .i64 0, .int .i64 0]) ?_ 1 _ rfl; (with_reducible repeat (first | refine blk_drewN ?_ _ | refine blk_drew ?_ | refine blk_alloc ?_ _)); refine blk_put (cs := #[.int .i64 0, .string (⟨#[]⟩ : ByteArray), .string (⟨#[]⟩ : ByteArray), .int .i64 0, .int .i64 0]) ?_ 0 _ rfl; (with_reducible repeat (first | refine blk_drewN ?_ _ | refine blk_drew ?_ | refine blk_alloc ?_ _)); exact BK1037.out⟩
             have n5_ : Aside0 (Below w.heap.size w (((((w42.setCell ⟨gb1037, 0, none⟩ (.int .i64 ((rd_Item l0_2 x6_3).f0))).setCell ⟨gb1037, 1, none⟩ (.string ((rd_Item l0_2 x6_3).f1))).setCell ⟨gb1037, 2, none⟩ (.string ((rd_Item l0_2 x6_3).f2))).setCell ⟨gb1037, 3, none⟩ (.int .i64 ((rd_Item l0_2 x6_3).f3))).setCell ⟨gb1037, 4, none⟩ (.int .i64 ((rd_Item l0_2 x6_3).f4)))) := ⟨hb_ HB.out⟩
             (try clear HO_1036002)
             (try clear BK1027)
             (try clear BK1028)
             (try clear BK1035)
             (try clear BK1037)
             (try clear HB)
             generalize (((((w42.setCell ⟨gb1037, 0, none⟩ (.int .i64 ((rd_Item l0_2 x6_3).f0))).setCell ⟨gb1037, 1, none⟩ (.string ((rd_Item l0_2 x6_3).f1))).setCell ⟨gb1037, 2, none⟩ (.string ((rd_Item l0_2 x6_3).f2))).setCell ⟨gb1037, 3, none⟩ (.int .i64 ((rd_Item l0_2 x6_3).f3))).setCell ⟨gb1037, 4, none⟩ (.int .i64 ((rd_Item l0_2 x6_3).f4))) = w48 at n0_ n1_ n2_ n3_ n4_ n5_ ⊢
             have HO_1036002 := n0_
             have BK1027 := n1_
             have BK1028 := n2_
             have BK1035 := n3_
             have BK1037 := n4_
             have HB := n5_
             clear n0_ n1_ n2_ n3_ n4_ n5_
             have n0_ := Aside0.mk (Kd.R_drew HO_1036002.out)
             have n1_ := Aside0.mk (blk_drew BK1027.out)
             have n2_ := Aside0.mk (blk_drew BK1028.out)
             have n3_ := Aside0.mk (blk_drew BK1035.out)
             have n4_ := Aside0.mk (blk_drew BK1037.out)
             have n5_ := Aside0.mk (below_drew1 HB.out)
             clear HO_1036002; clear BK1027
             clear BK1028; clear BK1035
             clear BK1037; clear HB
             have HO_1036002 := n0_
             have BK1027 := n1_
             have BK1028 := n2_
             have BK1035 := n3_
             have BK1037 := n4_
             have HB := n5_
             clear n0_ n1_ n2_ n3_ n4_ n5_
             refine start_ (n := 21) (S := fun w' => w'.cell? ⟨gb1037, 0, none⟩ = some (.int .i64 ((rd_Item l0_2 x6_3).f0)) ∧ w'.cell? ⟨gb1037, 1, none⟩ = some (.string ((rd_Item l0_2 x6_3).f1)) ∧ w'.cell? ⟨gb1037, 2, none⟩ = some (.string ((rd_Item l0_2 x6_3).f2)) ∧ w'.cell? ⟨gb1037, 3, none⟩ = some (.int .i64 ((rd_Item l0_2 x6_3).f3)) ∧ w'.cell? ⟨gb1037, 4, none⟩ = some (.int .i64 ((rd_Item l0_2 x6_3).f4))) (ds := []) spec_RowPack.m0 (by kernel_rfl) rfl rfl ⟨(blk_cell BK1037.out 0).trans rfl, (blk_cell BK1037.out 1).trans rfl, (blk_cell BK1037.out 2).trans rfl, (blk_cell BK1037.out 3).trans rfl, (blk_cell BK1037.out 4).trans rfl⟩ (fun hHeld => ?_); refine with_tabW spec_RowPack.tab8 spec_RowPack.bits8 (fun HT_ HW_ => ?_)
             generalize w48.drew = w49 at HO_1036002 BK1027 BK1028 BK1035 BK1037 HB hHeld ⊢
             refine pI_ 0 34 HT_ spec_RowPack.m1 rfl rfl ?_
             refine take_ (i := 1) (N := some 35) (v := ?_) (a' := ?_) spec_RowPack.m2 rfl rfl (take_ofW HT_.out HW_.out (by kernel_rfl)) (fun _ _ _ h => h) (Or.inl ⟨by rfl, ?_⟩) hHeld ?_ ?_
             rotate_left
             ·
              rintro w' ⟨s0, s1, s2, s3, s4⟩
              go_simp
              with_reducible rfl
             rotate_left; (focus simp only [Act.put, List.setIfInBounds_toArray, List.set_cons_zero, List.set_cons_succ, i64_w, i32_w]; rfl)
             refine pI_ 2 36 HT_ spec_RowPack.m3 rfl rfl ?_
             refine pI_ 3 37 HT_ spec_RowPack.m4 rfl rfl ?_
             refine pU_ 4 38 HT_ #[true, true, true, true, true, false, false, false, false, false, false, false, false, false, false, false, false, false, false, false, false] rfl rfl ?_
             refine pU_ 5 39 HT_ spec_RowPack.m5 rfl rfl ?_
             refine pU_ 6 40 HT_ spec_RowPack.m6 rfl rfl ?_
             refine pU_ 7 41 HT_ spec_RowPack.m7 rfl rfl ?_
             refine pI_ 8 42 HT_ spec_RowPack.m8 rfl rfl ?_
             refine pI_ 9 43 HT_ spec_RowPack.m9 rfl rfl ?_
             refine pU_ 10 44 HT_ spec_RowPack.m10 rfl rfl ?_
             refine pU_ 11 45 HT_ spec_RowPack.m11 rfl rfl ?_
             refine pU_ 12 46 HT_ spec_RowPack.m12 rfl rfl ?_
             refine pU_ 13 47 HT_ spec_RowPack.m13 rfl rfl ?_
             refine pU_ 14 48 HT_ spec_RowPack.m14 rfl rfl ?_
             refine pU_ 15 49 HT_ spec_RowPack.m15 rfl rfl ?_
             refine pU_ 16 50 HT_ spec_RowPack.m16 rfl rfl ?_
             refine pU_ 17 51 HT_ spec_RowPack.m17 rfl rfl ?_
             refine pU_ 18 52 HT_ spec_RowPack.m18 rfl rfl ?_
             refine pU_ 19 53 HT_ spec_RowPack.m19 rfl rfl ?_
             refine pI_ 20 54 HT_ spec_RowPack.m20 rfl rfl ?_
             refine done_ (done_of HT_.out (by kernel_rfl)) ?_
             try go_wp2
             go_meet
             case rel => exact ⟨_, (true), (by first | rfl | (simp; done) | (simp [*]; done)), H', ⟨by have := HJ2.out; have := HJ10.out; have := HK3.out; have := HJ24.out; first | omega | exact Nat.le_refl _⟩, ⟨rq_ HO_1036002.out⟩, ⟨bq_ BK1027.out⟩, ⟨bq_ BK1028.out⟩, ⟨bq_ BK1035.out⟩, ⟨bq_ BK1037.out⟩, ⟨hb_ HB.out⟩⟩
            ·
             rw [if_neg c47] at H
             have c47b0 : (((rd_Item l0_2 x6_3).f1).toList == ([] : List UInt8)) = false := beq_eq_false_iff_ne.mpr c47
             have c47b1 : (((rd_Item l0_2 x6_3).f1).toList != ([] : List UInt8)) = true := bne_iff_ne.mpr c47
             (first | rw [c47b0] | (simp only [i64_w, i32_w]; rw [c47b0]) | rw [c47b4] | rw [c47b3] | skip)
             replace H := Option.bind_eq_some_iff.mp H
             obtain ⟨t1038, A500, H⟩ := H
             replace H : (if t1038 = true then (if a1 = 0 then (none) else (spec_RowPack.j4 kj24 a1 x6_3 ((wrap64 (Int.tdiv ((rd_Item l0_2 x6_3).f0) a1)) == (wrap64 (Int.tdiv (wrap64 (a0_1 - 1)) a1))) a0_0 a0_1 l0_2 a0_0 a0_1 x1036002_3 ((rd_Item l0_2 x6_3).f0) ((rd_Item l0_2 x6_3).f1) ((rd_Item l0_2 x6_3).f2) ((rd_Item l0_2 x6_3).f3) ((rd_Item l0_2 x6_3).f4))) else (spec_RowPack.j4 kj24 a1 x6_3 true a0_0 a0_1 l0_2 a0_0 a0_1 x1036002_3 ((rd_Item l0_2 x6_3).f0) ((rd_Item l0_2 x6_3).f1) ((rd_Item l0_2 x6_3).f2) ((rd_Item l0_2 x6_3).f3) ((rd_Item l0_2 x6_3).f4))) = some (r1, r2, r3) := H
             have A50 := Aside0.mk A500
             clear A500
             by_cases c51 : t1038 = true
             ·
              subst c51
              have H1 : (if a1 = 0 then (none) else (spec_RowPack.j4 kj24 a1 x6_3 ((wrap64 (Int.tdiv ((rd_Item l0_2 x6_3).f0) a1)) == (wrap64 (Int.tdiv (wrap64 (a0_1 - 1)) a1))) a0_0 a0_1 l0_2 a0_0 a0_1 x1036002_3 ((rd_Item l0_2 x6_3).f0) ((rd_Item l0_2 x6_3).f1) ((rd_Item l0_2 x6_3).f2) ((rd_Item l0_2 x6_3).f3) ((rd_Item l0_2 x6_3).f4))) = some (r1, r2, r3) := by rw [if_pos rfl] at H; exact H
              clear H
              have H := H1
              clear H1
              by_cases c52 : a1 = 0
              ·
               rw [if_pos c52] at H
               exact absurd H (by simp)
              ·
               rw [if_neg c52] at H
               have c52b0 : (a1 == 0) = false := beq_eq_false_iff_ne.mpr c52
               have c52b1 : (a1 != 0) = true := bne_iff_ne.mpr c52
               have H' := Aside0.mk H
               clear H
               try go_wp2
               have n0_ : Aside0 (Kd.R k_Item 69 (((((w42.setCell ⟨gb1037, 0, none⟩ (.int .i64 ((rd_Item l0_2 x6_3).f0))).setCell ⟨gb1037, 1, none⟩ (.string ((rd_Item l0_2 x6_3).f1))).setCell ⟨gb1037, 2, none⟩ (.string ((rd_Item l0_2 x6_3).f2))).setCell ⟨gb1037, 3, none⟩ (.int .i64 ((rd_Item l0_2 x6_3).f3))).setCell ⟨gb1037, 4, none⟩ (.int .i64 ((rd_Item l0_2 x6_3).f4))) w.heap.size (fun k_ => k_ ≠ gb1037) u1036002 x1036002_3) := ⟨by (with_reducible repeat (first | apply Kd.R_alloc | apply Kd.R_drewN | apply Kd.R_drew)); exact Kd.R_mono (Kd.R_far (p := ⟨gb1037, 4, none⟩) (Kd.R_far (p := ⟨gb1037, 3, none⟩) (Kd.R_far (p := ⟨gb1037, 2, none⟩) (Kd.R_far (p := ⟨gb1037, 1, none⟩) (Kd.R_far (p := ⟨gb1037, 0, none⟩) (Kd.R_mono HO_1036002.out (fun k_ hk => (⟨hk, hk.2⟩ : _ ∧ k_ ≠ gb1037))) (fun _ hk => hk.2) (.int .i64 ((rd_Item l0_2 x6_3).f0))) (fun _ hk => hk.2) (.string ((rd_Item l0_2 x6_3).f1))) (fun _ hk => hk.2) (.string ((rd_Item l0_2 x6_3).f2))) (fun _ hk => hk.2) (.int .i64 ((rd_Item l0_2 x6_3).f3))) (fun _ hk => hk.2) (.int .i64 ((rd_Item l0_2 x6_3).f4))) (fun _ hk => hk.1.2)⟩
               have n1_ : Aside0 ((((((w42.setCell ⟨gb1037, 0, none⟩ (.int .i64 ((rd_Item l0_2 x6_3).f0))).setCell ⟨gb1037, 1, none⟩ (.string ((rd_Item l0_2 x6_3).f1))).setCell ⟨gb1037, 2, none⟩ (.string ((rd_Item l0_2 x6_3).f2))).setCell ⟨gb1037, 3, none⟩ (.int .i64 ((rd_Item l0_2 x6_3).f3))).setCell ⟨gb1037, 4, none⟩ (.int .i64 ((rd_Item l0_2 x6_3).f4))).heap[gb1027]? = some (.cells #[.int .i64 a0_0, .int .i64 a0_1, .slice (some ad1036) l0_2.length c0_2] 57 (0, 0))) := ⟨by (with_reducible repeat (first | refine blk_drewN ?_ _ | refine blk_drew ?_ | refine blk_alloc ?_ _)); refine blk_far ?_ NB1027_1037.out _; (with_reducible repeat (first | refine blk_drewN ?_ _ | refine blk_drew ?_ | refine blk_alloc ?_ _)); refine blk_far ?_ NB1027_1037.out _; (with_reducible repeat (first | refine blk_drewN ?_ _ | refine blk_drew ?_ | refine blk_alloc ?_ _)); refine blk_far ?_ NB1027_1037.out _; (with_reducible repeat (first | refine blk_drewN ?_ _ | refine blk_drew ?_ | refine blk_alloc ?_ _)); refine blk_far ?_ NB1027_1037.out _; (with_reducible repeat (first | refine blk_drewN ?_ _ | refine blk_drew ?_ | refine blk_alloc ?_ _)); refine blk_far ?_ NB1027_1037.out _; (with_reducible repeat (first | refine blk_drewN ?_ _ | refine blk_drew ?_ | refine blk_alloc ?_ _)); exact BK1027.out⟩
               have n2_ : Aside0 ((((((w42.setCell ⟨gb1037, 0, none⟩ (.int .i64 ((rd_Item l0_2 x6_3).f0))).setCell ⟨gb1037, 1, none⟩ (.string ((rd_Item l0_2 x6_3).f1))).setCell ⟨gb1037, 2, none⟩ (.string ((rd_Item l0_2 x6_3).f2))).setCell ⟨gb1037, 3, none⟩ (.int .i64 ((rd_Item l0_2 x6_3).f3))).setCell ⟨gb1037, 4, none⟩ (.int .i64 ((rd_Item l0_2 x6_3).f4))).heap[gb1028]? = some (.cells #[.int .i64 x1029000_10, .int .i64 x1029001_10, .slice none 0 0] 57 (0, 0))) := ⟨by (with_reducible repeat (first | refine blk_drewN ?_ _ | refine blk_drew ?_ | refine blk_alloc ?_ _)); refine blk_far ?_ NB1028_1037.out _; (with_reducible repeat (first | refine blk_drewN ?_ _ | refine blk_drew ?_ | refine blk_alloc ?_ _)); refine blk_far ?_ NB1028_1037.out _; (with_reducible repeat (first | refine blk_drewN ?_ _ | refine blk_drew ?_ | refine blk_alloc ?_ _)); refine blk_far ?_ NB1028_1037.out _; (with_reducible repeat (first | refine blk_drewN ?_ _ | refine blk_drew ?_ | refine blk_alloc ?_ _)); refine blk_far ?_ NB1028_1037.out _; (with_reducible repeat (first | refine blk_drewN ?_ _ | refine blk_drew ?_ | refine blk_alloc ?_ _)); refine blk_far ?_ NB1028_1037.out _; (with_reducible repeat (first | refine blk_drewN ?_ _ | refine blk_drew ?_ | refine blk_alloc ?_ _)); exact BK1028.out⟩
               have n3_ : Aside0 ((((((w42.setCell ⟨gb1037, 0, none⟩ (.int .i64 ((rd_Item l0_2 x6_3).f0))).setCell ⟨gb1037, 1, none⟩ (.string ((rd_Item l0_2 x6_3).f1))).setCell ⟨gb1037, 2, none⟩ (.string ((rd_Item l0_2 x6_3).f2))).setCell ⟨gb1037, 3, none⟩ (.int .i64 ((rd_Item l0_2 x6_3).f3))).setCell ⟨gb1037, 4, none⟩ (.int .i64 ((rd_Item l0_2 x6_3).f4))).heap[gb1035]? = some (.cells #[.int .i64 a0_0, .int .i64 a0_1, u1036002] 57 (0, 0))) := ⟨by (with_reducible repeat (first | refine blk_drewN ?_ _ | refine blk_drew ?_ | refine blk_alloc ?_ _)); refine blk_far ?_ NB1035_1037.out _; (with_reducible repeat (first | refine blk_drewN ?_ _ | refine blk_drew ?_ | refine blk_alloc ?_ _)); refine blk_far ?_ NB1035_1037.out _; (with_reducible repeat (first | refine blk_drewN ?_ _ | refine blk_drew ?_ | refine blk_alloc ?_ _)); refine blk_far ?_ NB1035_1037.out _; (with_reducible repeat (first | refine blk_drewN ?_ _ | refine blk_drew ?_ | refine blk_alloc ?_ _)); refine blk_far ?_ NB1035_1037.out _; (with_reducible repeat (first | refine blk_drewN ?_ _ | refine blk_drew ?_ | refine blk_alloc ?_ _)); refine blk_far ?_ NB1035_1037.out _; (with_reducible repeat (first | refine blk_drewN ?_ _ | refine blk_drew ?_ | refine blk_alloc ?_ _)); exact BK1035.out⟩
               have n4_ : Aside0 ((((((w42.setCell ⟨gb1037, 0, none⟩ (.int .i64 ((rd_Item l0_2 x6_3).f0))).setCell ⟨gb1037, 1, none⟩ (.string ((rd_Item l0_2 x6_3).f1))).setCell ⟨gb1037, 2, none⟩ (.string ((rd_Item l0_2 x6_3).f2))).setCell ⟨gb1037, 3, none⟩ (.int .i64 ((rd_Item l0_2 x6_3).f3))).setCell ⟨gb1037, 4, none⟩ (.int .i64 ((rd_Item l0_2 x6_3).f4))).heap[gb1037]? = some (.cells #[.int .i64 ((rd_Item l0_2 x6_3).f0), .string ((rd_Item l0_2 x6_3).f1), .string ((rd_Item l0_2 x6_3).f2), .int .i64 ((rd_Item l0_2 x6_3).f3), .int .i64 ((rd_Item l0_2 x6_3).f4)] 69 (0, 0))) := ⟨by (with_reducible repeat (first | refine blk_drewN ?_ _ | refine blk_drew ?_ | refine blk_alloc ?_ _)); refine blk_put (cs := #[.int .i64 ((rd_Item l0_2 x6_3).f0), .string ((rd_Item l0_2 x6_3).f1), .string ((rd_Item l0_2 x6_3).f2), .int .i64 ((rd_Item l0_2 x6_3).f3), .int .i64 0]) ?_ 4 _ rfl; (with_reducible repeat (first | refine blk_drewN ?_ _ | refine blk_drew ?_ | refine blk_alloc ?_ _)); refine blk_put (cs := #[.int .i64 ((rd_Item l0_2 x6_3).f0), .string ((rd_Item l0_2 x6_3).f1), .string ((rd_Item l0_2 x6_3).f2), .int .i64 0, .int .i64 0]) ?_ 3 _ rfl; (with_reducible repeat (first | refine blk_drewN ?_ _ | refine blk_drew ?_ | refine blk_alloc ?_ _)); refine blk_put (cs := #[.int .i64 ((rd_Item l0_2 x6_3).f0), .string ((rd_Item l0_2 x6_3).f1), .string (⟨#[]⟩ : ByteArray), .int .i64 0, .int .i64 0]) ?_ 2 _ rfl; (with_reducible repeat (first | refine blk_drewN ?_ _ | refine blk_drew ?_ | refine blk_alloc ?_ _)); refine blk_put (cs := #[.int .i64 ((rd_Item l0_2 x6_3).f0), .string (⟨#[]⟩ : ByteArray), .string (⟨#[]⟩ : ByteArray), .int .i64 0, .int .i64 0]) ?_ 1 _ rfl; (with_reducible repeat (first | refine blk_drewN ?_ _ | refine blk_drew ?_ | refine blk_alloc ?_ _)); refine blk_put (cs := #[.int .i64 0, .string (⟨#[]⟩ : ByteArray), .string (⟨#[]⟩ : ByteArray), .int .i64 0, .int .i64 0]) ?_ 0 _ rfl; (with_reducible repeat (first | refine blk_drewN ?_ _ | refine blk_drew ?_ | refine blk_alloc ?_ _)); exact BK1037.out⟩
               have n5_ : Aside0 (Below w.heap.size w (((((w42.setCell ⟨gb1037, 0, none⟩ (.int .i64 ((rd_Item l0_2 x6_3).f0))).setCell ⟨gb1037, 1, none⟩ (.string ((rd_Item l0_2 x6_3).f1))).setCell ⟨gb1037, 2, none⟩ (.string ((rd_Item l0_2 x6_3).f2))).setCell ⟨gb1037, 3, none⟩ (.int .i64 ((rd_Item l0_2 x6_3).f3))).setCell ⟨gb1037, 4, none⟩ (.int .i64 ((rd_Item l0_2 x6_3).f4)))) := ⟨hb_ HB.out⟩
               (try clear HO_1036002)
               (try clear BK1027)
               (try clear BK1028)
               (try clear BK1035)
               (try clear BK1037)
               (try clear HB)
               generalize (((((w42.setCell ⟨gb1037, 0, none⟩ (.int .i64 ((rd_Item l0_2 x6_3).f0))).setCell ⟨gb1037, 1, none⟩ (.string ((rd_Item l0_2 x6_3).f1))).setCell ⟨gb1037, 2, none⟩ (.string ((rd_Item l0_2 x6_3).f2))).setCell ⟨gb1037, 3, none⟩ (.int .i64 ((rd_Item l0_2 x6_3).f3))).setCell ⟨gb1037, 4, none⟩ (.int .i64 ((rd_Item l0_2 x6_3).f4))) = w53 at n0_ n1_ n2_ n3_ n4_ n5_ ⊢
               have HO_1036002 := n0_
               have BK1027 := n1_
               have BK1028 := n2_
               have BK1035 := n3_
               have BK1037 := n4_
               have HB := n5_
               clear n0_ n1_ n2_ n3_ n4_ n5_
               have n0_ := Aside0.mk (Kd.R_drew HO_1036002.out)
               have n1_ := Aside0.mk (blk_drew BK1027.out)
               have n2_ := Aside0.mk (blk_drew BK1028.out)
               have n3_ := Aside0.mk (blk_drew BK1035.out)
               have n4_ := Aside0.mk (blk_drew BK1037.out)
               have n5_ := Aside0.mk (below_drew1 HB.out)
               clear HO_1036002; clear BK1027
               clear BK1028; clear BK1035
               clear BK1037; clear HB
               have HO_1036002 := n0_
               have BK1027 := n1_
               have BK1028 := n2_
               have BK1035 := n3_
               have BK1037 := n4_
               have HB := n5_
               clear n0_ n1_ n2_ n3_ n4_ n5_
               refine start_ (n := 21) (S := fun w' => w'.cell? ⟨gb1037, 0, none⟩ = some (.int .i64 ((rd_Item l0_2 x6_3).f0)) ∧ w'.cell? ⟨gb1037, 1, none⟩ = some (.string ((rd_Item l0_2 x6_3).f1)) ∧ w'.cell? ⟨gb1037, 2, none⟩ = some (.string ((rd_Item l0_2 x6_3).f2)) ∧ w'.cell? ⟨gb1037, 3, none⟩ = some (.int .i64 ((rd_Item l0_2 x6_3).f3)) ∧ w'.cell? ⟨gb1037, 4, none⟩ = some (.int .i64 ((rd_Item l0_2 x6_3).f4)) ∧ w'.cell? ⟨gb1027, 0, none⟩ = some (.int .i64 a0_0) ∧ w'.cell? ⟨gb1027, 1, none⟩ = some (.int .i64 a0_1) ∧ w'.cell? ⟨gb1027, 2, none⟩ = some (.slice (some ad1036) l0_2.length c0_2)) (ds := []) spec_RowPack.m0 (by kernel_rfl) rfl rfl ⟨(blk_cell BK1037.out 0).trans rfl, (blk_cell BK1037.out 1).trans rfl, (blk_cell BK1037.out 2).trans rfl, (blk_cell BK1037.out 3).trans rfl, (blk_cell BK1037.out 4).trans rfl, (blk_cell BK1027.out 0).trans rfl, (blk_cell BK1027.out 1).trans rfl, (blk_cell BK1027.out 2).trans rfl⟩ (fun hHeld => ?_); refine with_tabW spec_RowPack.tab8 spec_RowPack.bits8 (fun HT_ HW_ => ?_)
               generalize w53.drew = w54 at HO_1036002 BK1027 BK1028 BK1035 BK1037 HB hHeld ⊢
               refine pI_ 0 34 HT_ spec_RowPack.m1 rfl rfl ?_
               refine take_ (i := 1) (N := some 35) (v := ?_) (a' := ?_) spec_RowPack.m2 rfl rfl (take_ofW HT_.out HW_.out (by kernel_rfl)) (fun _ _ _ h => h) (Or.inl ⟨by rfl, ?_⟩) hHeld ?_ ?_
               rotate_left
               ·
                rintro w' ⟨s0, s1, s2, s3, s4, s5, s6, s7⟩
                go_simp
                with_reducible rfl
               rotate_left; (focus simp only [Act.put, List.setIfInBounds_toArray, List.set_cons_zero, List.set_cons_succ, i64_w, i32_w]; rfl)
               refine pI_ 2 36 HT_ spec_RowPack.m3 rfl rfl ?_
               refine pI_ 3 37 HT_ spec_RowPack.m4 rfl rfl ?_
               refine pI_ 5 39 HT_ spec_RowPack.m21 rfl rfl ?_
               refine take_ (i := 4) (N := some 38) (v := ?_) (a' := ?_) spec_RowPack.m5 rfl rfl (take_ofW HT_.out HW_.out (by kernel_rfl)) (fun _ _ _ h => h) (Or.inl ⟨by rfl, ?_⟩) hHeld ?_ ?_
               rotate_left
               ·
                rintro w' ⟨s0, s1, s2, s3, s4, s5, s6, s7⟩
                go_simp
                with_reducible rfl
               rotate_left; (focus simp only [Act.put, List.setIfInBounds_toArray, List.set_cons_zero, List.set_cons_succ, i64_w, i32_w]; rfl)
               refine one_ (i := 6) (N := some 40) spec_RowPack.m6 rfl rfl (one_of HT_.out (by kernel_rfl)) (by decide) (fun K hK => ?_)
               refine goes_ Try.func108 (by kernel_rfl) rfl #[.agg #[.int .i64 a0_0, .int .i64 a0_1, .slice (some ad1036) l0_2.length c0_2], .int .i64 x6_3] (by rfl) rfl rfl sm_ ?_
               with_reducible refine (spec_l3Behind.calls kj24 a0_0 a0_1 _ _ l0_2 x6_3 true _ ?side1 ?side2 A50.out).mono ?_
               (case side1 => repeat (first | exact (Kd.C_below HR0_2.out HB.out) | (with_reducible refine Kd.C_alloc ?_ _) | (with_reducible refine Kd.C_drewN ?_ _) | (with_reducible refine Kd.C_drew ?_)))
               (case side2 => exact HC0_2.out)
               rintro e w55 ⟨rfl, hb⟩
               refine ⟨_, rfl, ?_⟩
               have n0_ := Aside0.mk (Kd.R_below (rq_ HO_1036002.out) hb)
               have n1_ := Aside0.mk (bb_ BK1027.out hb)
               have n2_ := Aside0.mk (bb_ BK1028.out hb)
               have n3_ := Aside0.mk (bb_ BK1035.out hb)
               have n4_ := Aside0.mk (bb_ BK1037.out hb)
               have n5_ := Aside0.mk (below_step (hb_ HB.out) hb)
               clear HO_1036002; clear BK1027
               clear BK1028; clear BK1035
               clear BK1037; clear HB
               have HO_1036002 := n0_
               have BK1027 := n1_
               have BK1028 := n2_
               have BK1035 := n3_
               have BK1037 := n4_
               have HB := n5_
               clear n0_ n1_ n2_ n3_ n4_ n5_
               (try clear hb)
               (try clear hb2)
               (try clear hk)
               (try clear hi)
               refine hK.out _ _ ⟨(blk_cell BK1037.out 0).trans rfl, (blk_cell BK1037.out 1).trans rfl, (blk_cell BK1037.out 2).trans rfl, (blk_cell BK1037.out 3).trans rfl, (blk_cell BK1037.out 4).trans rfl, (blk_cell BK1027.out 0).trans rfl, (blk_cell BK1027.out 1).trans rfl, (blk_cell BK1027.out 2).trans rfl⟩ (fun hHeld => ?_)
               clear hK K
               refine norm_ (a' := ?_) ?_ ?_
               rotate_left
               ·
                show Act.put _ (some 40) _ = _
                simp only [Act.put, List.setIfInBounds_toArray, List.set_cons_zero, List.set_cons_succ, i64_w, i32_w]
                rfl
               refine pI_ 7 41 HT_ spec_RowPack.m7 rfl rfl ?_
               refine pI_ 8 42 HT_ spec_RowPack.m8 rfl rfl ?_
               refine pI_ 9 43 HT_ spec_RowPack.m9 rfl rfl ?_
               refine pI_ 10 44 HT_ spec_RowPack.m10 rfl rfl ?_
               refine pI_ 12 46 HT_ #[true, true, true, true, true, true, true, true, true, true, true, false, true, false, false, false, false, false, false, false, false] rfl rfl ?_
               refine pI_ 14 48 HT_ #[true, true, true, true, true, true, true, true, true, true, true, false, true, false, true, false, false, false, false, false, false] rfl rfl ?_
               refine pI_ 17 51 HT_ #[true, true, true, true, true, true, true, true, true, true, true, false, true, false, true, false, false, true, false, false, false] rfl rfl ?_
               refine take_ (i := 11) (N := some 45) (v := ?_) (a' := ?_) #[true, true, true, true, true, true, true, true, true, true, true, true, true, false, true, false, false, true, false, false, false] rfl rfl (take_ofW HT_.out HW_.out (by kernel_rfl)) (fun _ _ _ h => h) (Or.inl ⟨by rfl, ?_⟩) hHeld ?_ ?_
               rotate_left
               ·
                rintro w' ⟨s0, s1, s2, s3, s4, s5, s6, s7⟩
                go_simp
                with_reducible rfl
               rotate_left; (focus simp only [Act.put, List.setIfInBounds_toArray, List.set_cons_zero, List.set_cons_succ, i64_w, i32_w]; rfl)
               refine pI_ 13 47 HT_ #[true, true, true, true, true, true, true, true, true, true, true, true, true, true, true, false, false, true, false, false, false] rfl rfl ?_
               refine take_ (i := 15) (N := some 49) (v := ?_) (a' := ?_) #[true, true, true, true, true, true, true, true, true, true, true, true, true, true, true, true, false, true, false, false, false] rfl rfl (take_ofW HT_.out HW_.out (by kernel_rfl)) (fun _ _ _ h => h) (Or.inl ⟨by rfl, ?_⟩) hHeld ?_ ?_
               rotate_left
               ·
                rintro w' ⟨s0, s1, s2, s3, s4, s5, s6, s7⟩
                go_simp
                with_reducible rfl
               rotate_left; (focus simp only [Act.put, List.setIfInBounds_toArray, List.set_cons_zero, List.set_cons_succ, i64_w, i32_w]; rfl)
               refine pI_ 16 50 HT_ spec_RowPack.m17 rfl rfl ?_
               refine pI_ 18 52 HT_ spec_RowPack.m18 rfl rfl ?_
               refine pI_ 19 53 HT_ spec_RowPack.m19 rfl rfl ?_
               refine pI_ 20 54 HT_ spec_RowPack.m20 rfl rfl ?_
               refine done_ (done_of HT_.out (by kernel_rfl)) ?_
               try go_wp2
               go_meet
               case rel => exact ⟨_, (((wrap64 (Int.tdiv ((rd_Item l0_2 x6_3).f0) a1)) == (wrap64 (Int.tdiv (wrap64 (a0_1 - 1)) a1)))), (by first | rfl | (simp; done) | (simp [*]; done)), H', ⟨by have := HJ2.out; have := HJ10.out; have := HK3.out; have := HJ24.out; first | omega | exact Nat.le_refl _⟩, ⟨rq_ HO_1036002.out⟩, ⟨bq_ BK1027.out⟩, ⟨bq_ BK1028.out⟩, ⟨bq_ BK1035.out⟩, ⟨bq_ BK1037.out⟩, ⟨hb_ HB.out⟩⟩
             ·
              replace c51 := Bool.eq_false_iff.mpr c51
              subst c51
              have H1 : (spec_RowPack.j4 kj24 a1 x6_3 true a0_0 a0_1 l0_2 a0_0 a0_1 x1036002_3 ((rd_Item l0_2 x6_3).f0) ((rd_Item l0_2 x6_3).f1) ((rd_Item l0_2 x6_3).f2) ((rd_Item l0_2 x6_3).f3) ((rd_Item l0_2 x6_3).f4)) = some (r1, r2, r3) := by rw [if_neg (show ¬ (false = true) by decide)] at H; exact H
              clear H
              have H := H1
              clear H1
              have H' := Aside0.mk H
              clear H
              try go_wp2
              have n0_ : Aside0 (Kd.R k_Item 69 (((((w42.setCell ⟨gb1037, 0, none⟩ (.int .i64 ((rd_Item l0_2 x6_3).f0))).setCell ⟨gb1037, 1, none⟩ (.string ((rd_Item l0_2 x6_3).f1))).setCell ⟨gb1037, 2, none⟩ (.string ((rd_Item l0_2 x6_3).f2))).setCell ⟨gb1037, 3, none⟩ (.int .i64 ((rd_Item l0_2 x6_3).f3))).setCell ⟨gb1037, 4, none⟩ (.int .i64 ((rd_Item l0_2 x6_3).f4))) w.heap.size (fun k_ => k_ ≠ gb1037) u1036002 x1036002_3) := ⟨by (with_reducible repeat (first | apply Kd.R_alloc | apply Kd.R_drewN | apply Kd.R_drew)); exact Kd.R_mono (Kd.R_far (p := ⟨gb1037, 4, none⟩) (Kd.R_far (p := ⟨gb1037, 3, none⟩) (Kd.R_far (p := ⟨gb1037, 2, none⟩) (Kd.R_far (p := ⟨gb1037, 1, none⟩) (Kd.R_far (p := ⟨gb1037, 0, none⟩) (Kd.R_mono HO_1036002.out (fun k_ hk => (⟨hk, hk.2⟩ : _ ∧ k_ ≠ gb1037))) (fun _ hk => hk.2) (.int .i64 ((rd_Item l0_2 x6_3).f0))) (fun _ hk => hk.2) (.string ((rd_Item l0_2 x6_3).f1))) (fun _ hk => hk.2) (.string ((rd_Item l0_2 x6_3).f2))) (fun _ hk => hk.2) (.int .i64 ((rd_Item l0_2 x6_3).f3))) (fun _ hk => hk.2) (.int .i64 ((rd_Item l0_2 x6_3).f4))) (fun _ hk => hk.1.2)⟩
              have n1_ : Aside0 ((((((w42.setCell ⟨gb1037, 0, none⟩ (.int .i64 ((rd_Item l0_2 x6_3).f0))).setCell ⟨gb1037, 1, none⟩ (.string ((rd_Item l0_2 x6_3).f1))).setCell ⟨gb1037, 2, none⟩ (.string ((rd_Item l0_2 x6_3).f2))).setCell ⟨gb1037, 3, none⟩ (.int .i64 ((rd_Item l0_2 x6_3).f3))).setCell ⟨gb1037, 4, none⟩ (.int .i64 ((rd_Item l0_2 x6_3).f4))).heap[gb1027]? = some (.cells #[.int .i64 a0_0, .int .i64 a0_1, .slice (some ad1036) l0_2.length c0_2] 57 (0, 0))) := ⟨by (with_reducible repeat (first | refine blk_drewN ?_ _ | refine blk_drew ?_ | refine blk_alloc ?_ _)); refine blk_far ?_ NB1027_1037.out _; (with_reducible repeat (first | refine blk_drewN ?_ _ | refine blk_drew ?_ | refine blk_alloc ?_ _)); refine blk_far ?_ NB1027_1037.out _; (with_reducible repeat (first | refine blk_drewN ?_ _ | refine blk_drew ?_ | refine blk_alloc ?_ _)); refine blk_far ?_ NB1027_1037.out _; (with_reducible repeat (first | refine blk_drewN ?_ _ | refine blk_drew ?_ | refine blk_alloc ?_ _)); refine blk_far ?_ NB1027_1037.out _; (with_reducible repeat (first | refine blk_drewN ?_ _ | refine blk_drew ?_ | refine blk_alloc ?_ _)); refine blk_far ?_ NB1027_1037.out _; (with_reducible repeat (first | refine blk_drewN ?_ _ | refine blk_drew ?_ | refine blk_alloc ?_ _)); exact BK1027.out⟩
              have n2_ : Aside0 ((((((w42.setCell ⟨gb1037, 0, none⟩ (.int .i64 ((rd_Item l0_2 x6_3).f0))).setCell ⟨gb1037, 1, none⟩ (.string ((rd_Item l0_2 x6_3).f1))).setCell ⟨gb1037, 2, none⟩ (.string ((rd_Item l0_2 x6_3).f2))).setCell ⟨gb1037, 3, none⟩ (.int .i64 ((rd_Item l0_2 x6_3).f3))).setCell ⟨gb1037, 4, none⟩ (.int .i64 ((rd_Item l0_2 x6_3).f4))).heap[gb1028]? = some (.cells #[.int .i64 x1029000_10, .int .i64 x1029001_10, .slice none 0 0] 57 (0, 0))) := ⟨by (with_reducible repeat (first | refine blk_drewN ?_ _ | refine blk_drew ?_ | refine blk_alloc ?_ _)); refine blk_far ?_ NB1028_1037.out _; (with_reducible repeat (first | refine blk_drewN ?_ _ | refine blk_drew ?_ | refine blk_alloc ?_ _)); refine blk_far ?_ NB1028_1037.out _; (with_reducible repeat (first | refine blk_drewN ?_ _ | refine blk_drew ?_ | refine blk_alloc ?_ _)); refine blk_far ?_ NB1028_1037.out _; (with_reducible repeat (first | refine blk_drewN ?_ _ | refine blk_drew ?_ | refine blk_alloc ?_ _)); refine blk_far ?_ NB1028_1037.out _; (with_reducible repeat (first | refine blk_drewN ?_ _ | refine blk_drew ?_ | refine blk_alloc ?_ _)); refine blk_far ?_ NB1028_1037.out _; (with_reducible repeat (first | refine blk_drewN ?_ _ | refine blk_drew ?_ | refine blk_alloc ?_ _)); exact BK1028.out⟩
              have n3_ : Aside0 ((((((w42.setCell ⟨gb1037, 0, none⟩ (.int .i64 ((rd_Item l0_2 x6_3).f0))).setCell ⟨gb1037, 1, none⟩ (.string ((rd_Item l0_2 x6_3).f1))).setCell ⟨gb1037, 2, none⟩ (.string ((rd_Item l0_2 x6_3).f2))).setCell ⟨gb1037, 3, none⟩ (.int .i64 ((rd_Item l0_2 x6_3).f3))).setCell ⟨gb1037, 4, none⟩ (.int .i64 ((rd_Item l0_2 x6_3).f4))).heap[gb1035]? = some (.cells #[.int .i64 a0_0, .int .i64 a0_1, u1036002] 57 (0, 0))) := ⟨by (with_reducible repeat (first | refine blk_drewN ?_ _ | refine blk_drew ?_ | refine blk_alloc ?_ _)); refine blk_far ?_ NB1035_1037.out _; (with_reducible repeat (first | refine blk_drewN ?_ _ | refine blk_drew ?_ | refine blk_alloc ?_ _)); refine blk_far ?_ NB1035_1037.out _; (with_reducible repeat (first | refine blk_drewN ?_ _ | refine blk_drew ?_ | refine blk_alloc ?_ _)); refine blk_far ?_ NB1035_1037.out _; (with_reducible repeat (first | refine blk_drewN ?_ _ | refine blk_drew ?_ | refine blk_alloc ?_ _)); refine blk_far ?_ NB1035_1037.out _; (with_reducible repeat (first | refine blk_drewN ?_ _ | refine blk_drew ?_ | refine blk_alloc ?_ _)); refine blk_far ?_ NB1035_1037.out _; (with_reducible repeat (first | refine blk_drewN ?_ _ | refine blk_drew ?_ | refine blk_alloc ?_ _)); exact BK1035.out⟩
              have n4_ : Aside0 ((((((w42.setCell ⟨gb1037, 0, none⟩ (.int .i64 ((rd_Item l0_2 x6_3).f0))).setCell ⟨gb1037, 1, none⟩ (.string ((rd_Item l0_2 x6_3).f1))).setCell ⟨gb1037, 2, none⟩ (.string ((rd_Item l0_2 x6_3).f2))).setCell ⟨gb1037, 3, none⟩ (.int .i64 ((rd_Item l0_2 x6_3).f3))).setCell ⟨gb1037, 4, none⟩ (.int .i64 ((rd_Item l0_2 x6_3).f4))).heap[gb1037]? = some (.cells #[.int .i64 ((rd_Item l0_2 x6_3).f0), .string ((rd_Item l0_2 x6_3).f1), .string ((rd_Item l0_2 x6_3).f2), .int .i64 ((rd_Item l0_2 x6_3).f3), .int .i64 ((rd_Item l0_2 x6_3).f4)] 69 (0, 0))) := ⟨by (with_reducible repeat (first | refine blk_drewN ?_ _ | refine blk_drew ?_ | refine blk_alloc ?_ _)); refine blk_put (cs := #[.int .i64 ((rd_Item l0_2 x6_3).f0), .string ((rd_Item l0_2 x6_3).f1), .string ((rd_Item l0_2 x6_3).f2), .int .i64 ((rd_Item l0_2 x6_3).f3), .int .i64 0]) ?_ 4 _ rfl; (with_reducible repeat (first | refine blk_drewN ?_ _ | refine blk_drew ?_ | refine blk_alloc ?_ _)); refine blk_put (cs := #[.int .i64 ((rd_Item l0_2 x6_3).f0), .string ((rd_Item l0_2 x6_3).f1), .string ((rd_Item l0_2 x6_3).f2), .int .i64 0, .int .i64 0]) ?_ 3 _ rfl; (with_reducible repeat (first | refine blk_drewN ?_ _ | refine blk_drew ?_ | refine blk_alloc ?_ _)); refine blk_put (cs := #[.int .i64 ((rd_Item l0_2 x6_3).f0), .string ((rd_Item l0_2 x6_3).f1), .string (⟨#[]⟩ : ByteArray), .int .i64 0, .int .i64 0]) ?_ 2 _ rfl; (with_reducible repeat (first | refine blk_drewN ?_ _ | refine blk_drew ?_ | refine blk_alloc ?_ _)); refine blk_put (cs := #[.int .i64 ((rd_Item l0_2 x6_3).f0), .string (⟨#[]⟩ : ByteArray), .string (⟨#[]⟩ : ByteArray), .int .i64 0, .int .i64 0]) ?_ 1 _ rfl; (with_reducible repeat (first | refine blk_drewN ?_ _ | refine blk_drew ?_ | refine blk_alloc ?_ _)); refine blk_put (cs := #[.int .i64 0, .string (⟨#[]⟩ : ByteArray), .string (⟨#[]⟩ : ByteArray), .int .i64 0, .int .i64 0]) ?_ 0 _ rfl; (with_reducible repeat (first | refine blk_drewN ?_ _ | refine blk_drew ?_ | refine blk_alloc ?_ _)); exact BK1037.out⟩
              have n5_ : Aside0 (Below w.heap.size w (((((w42.setCell ⟨gb1037, 0, none⟩ (.int .i64 ((rd_Item l0_2 x6_3).f0))).setCell ⟨gb1037, 1, none⟩ (.string ((rd_Item l0_2 x6_3).f1))).setCell ⟨gb1037, 2, none⟩ (.string ((rd_Item l0_2 x6_3).f2))).setCell ⟨gb1037, 3, none⟩ (.int .i64 ((rd_Item l0_2 x6_3).f3))).setCell ⟨gb1037, 4, none⟩ (.int .i64 ((rd_Item l0_2 x6_3).f4)))) := ⟨hb_ HB.out⟩
              (try clear HO_1036002)
              (try clear BK1027)
              (try clear BK1028)
              (try clear BK1035)
              (try clear BK1037)
              (try clear HB)
              generalize (((((w42.setCell ⟨gb1037, 0, none⟩ (.int .i64 ((rd_Item l0_2 x6_3).f0))).setCell ⟨gb1037, 1, none⟩ (.string ((rd_Item l0_2 x6_3).f1))).setCell ⟨gb1037, 2, none⟩ (.string ((rd_Item l0_2 x6_3).f2))).setCell ⟨gb1037, 3, none⟩ (.int .i64 ((rd_Item l0_2 x6_3).f3))).setCell ⟨gb1037, 4, none⟩ (.int .i64 ((rd_Item l0_2 x6_3).f4))) = w56 at n0_ n1_ n2_ n3_ n4_ n5_ ⊢
              have HO_1036002 := n0_
              have BK1027 := n1_
              have BK1028 := n2_
              have BK1035 := n3_
              have BK1037 := n4_
              have HB := n5_
              clear n0_ n1_ n2_ n3_ n4_ n5_
              have n0_ := Aside0.mk (Kd.R_drew HO_1036002.out)
              have n1_ := Aside0.mk (blk_drew BK1027.out)
              have n2_ := Aside0.mk (blk_drew BK1028.out)
              have n3_ := Aside0.mk (blk_drew BK1035.out)
              have n4_ := Aside0.mk (blk_drew BK1037.out)
              have n5_ := Aside0.mk (below_drew1 HB.out)
              clear HO_1036002; clear BK1027
              clear BK1028; clear BK1035
              clear BK1037; clear HB
              have HO_1036002 := n0_
              have BK1027 := n1_
              have BK1028 := n2_
              have BK1035 := n3_
              have BK1037 := n4_
              have HB := n5_
              clear n0_ n1_ n2_ n3_ n4_ n5_
              refine start_ (n := 21) (S := fun w' => w'.cell? ⟨gb1037, 0, none⟩ = some (.int .i64 ((rd_Item l0_2 x6_3).f0)) ∧ w'.cell? ⟨gb1037, 1, none⟩ = some (.string ((rd_Item l0_2 x6_3).f1)) ∧ w'.cell? ⟨gb1037, 2, none⟩ = some (.string ((rd_Item l0_2 x6_3).f2)) ∧ w'.cell? ⟨gb1037, 3, none⟩ = some (.int .i64 ((rd_Item l0_2 x6_3).f3)) ∧ w'.cell? ⟨gb1037, 4, none⟩ = some (.int .i64 ((rd_Item l0_2 x6_3).f4)) ∧ w'.cell? ⟨gb1027, 0, none⟩ = some (.int .i64 a0_0) ∧ w'.cell? ⟨gb1027, 1, none⟩ = some (.int .i64 a0_1) ∧ w'.cell? ⟨gb1027, 2, none⟩ = some (.slice (some ad1036) l0_2.length c0_2)) (ds := []) spec_RowPack.m0 (by kernel_rfl) rfl rfl ⟨(blk_cell BK1037.out 0).trans rfl, (blk_cell BK1037.out 1).trans rfl, (blk_cell BK1037.out 2).trans rfl, (blk_cell BK1037.out 3).trans rfl, (blk_cell BK1037.out 4).trans rfl, (blk_cell BK1027.out 0).trans rfl, (blk_cell BK1027.out 1).trans rfl, (blk_cell BK1027.out 2).trans rfl⟩ (fun hHeld => ?_); refine with_tabW spec_RowPack.tab8 spec_RowPack.bits8 (fun HT_ HW_ => ?_)
              generalize w56.drew = w57 at HO_1036002 BK1027 BK1028 BK1035 BK1037 HB hHeld ⊢
              refine pI_ 0 34 HT_ spec_RowPack.m1 rfl rfl ?_
              refine take_ (i := 1) (N := some 35) (v := ?_) (a' := ?_) spec_RowPack.m2 rfl rfl (take_ofW HT_.out HW_.out (by kernel_rfl)) (fun _ _ _ h => h) (Or.inl ⟨by rfl, ?_⟩) hHeld ?_ ?_
              rotate_left
              ·
               rintro w' ⟨s0, s1, s2, s3, s4, s5, s6, s7⟩
               go_simp
               with_reducible rfl
              rotate_left; (focus simp only [Act.put, List.setIfInBounds_toArray, List.set_cons_zero, List.set_cons_succ, i64_w, i32_w]; rfl)
              refine pI_ 2 36 HT_ spec_RowPack.m3 rfl rfl ?_
              refine pI_ 3 37 HT_ spec_RowPack.m4 rfl rfl ?_
              refine pI_ 5 39 HT_ spec_RowPack.m21 rfl rfl ?_
              refine take_ (i := 4) (N := some 38) (v := ?_) (a' := ?_) spec_RowPack.m5 rfl rfl (take_ofW HT_.out HW_.out (by kernel_rfl)) (fun _ _ _ h => h) (Or.inl ⟨by rfl, ?_⟩) hHeld ?_ ?_
              rotate_left
              ·
               rintro w' ⟨s0, s1, s2, s3, s4, s5, s6, s7⟩
               go_simp
               with_reducible rfl
              rotate_left; (focus simp only [Act.put, List.setIfInBounds_toArray, List.set_cons_zero, List.set_cons_succ, i64_w, i32_w]; rfl)
              refine one_ (i := 6) (N := some 40) spec_RowPack.m6 rfl rfl (one_of HT_.out (by kernel_rfl)) (by decide) (fun K hK => ?_)
              refine goes_ Try.func108 (by kernel_rfl) rfl #[.agg #[.int .i64 a0_0, .int .i64 a0_1, .slice (some ad1036) l0_2.length c0_2], .int .i64 x6_3] (by rfl) rfl rfl sm_ ?_
              with_reducible refine (spec_l3Behind.calls kj24 a0_0 a0_1 _ _ l0_2 x6_3 false _ ?side1 ?side2 A50.out).mono ?_
              (case side1 => repeat (first | exact (Kd.C_below HR0_2.out HB.out) | (with_reducible refine Kd.C_alloc ?_ _) | (with_reducible refine Kd.C_drewN ?_ _) | (with_reducible refine Kd.C_drew ?_)))
              (case side2 => exact HC0_2.out)
              rintro e w58 ⟨rfl, hb⟩
              refine ⟨_, rfl, ?_⟩
              have n0_ := Aside0.mk (Kd.R_below (rq_ HO_1036002.out) hb)
              have n1_ := Aside0.mk (bb_ BK1027.out hb)
              have n2_ := Aside0.mk (bb_ BK1028.out hb)
              have n3_ := Aside0.mk (bb_ BK1035.out hb)
              have n4_ := Aside0.mk (bb_ BK1037.out hb)
              have n5_ := Aside0.mk (below_step (hb_ HB.out) hb)
              clear HO_1036002; clear BK1027
              clear BK1028; clear BK1035
              clear BK1037; clear HB
              have HO_1036002 := n0_
              have BK1027 := n1_
              have BK1028 := n2_
              have BK1035 := n3_
              have BK1037 := n4_
              have HB := n5_
              clear n0_ n1_ n2_ n3_ n4_ n5_
              (try clear hb)
              (try clear hb2)
              (try clear hk)
              (try clear hi)
              refine hK.out _ _ ⟨(blk_cell BK1037.out 0).trans rfl, (blk_cell BK1037.out 1).trans rfl, (blk_cell BK1037.out 2).trans rfl, (blk_cell BK1037.out 3).trans rfl, (blk_cell BK1037.out 4).trans rfl, (blk_cell BK1027.out 0).trans rfl, (blk_cell BK1027.out 1).trans rfl, (blk_cell BK1027.out 2).trans rfl⟩ (fun hHeld => ?_)
              clear hK K
              refine norm_ (a' := ?_) ?_ ?_
              rotate_left
              ·
               show Act.put _ (some 40) _ = _
               simp only [Act.put, List.setIfInBounds_toArray, List.set_cons_zero, List.set_cons_succ, i64_w, i32_w]
               rfl
              refine pI_ 7 41 HT_ spec_RowPack.m7 rfl rfl ?_
              refine pI_ 8 42 HT_ spec_RowPack.m8 rfl rfl ?_
              refine pI_ 9 43 HT_ spec_RowPack.m9 rfl rfl ?_
              refine pU_ 10 44 HT_ spec_RowPack.m10 rfl rfl ?_
              refine pU_ 11 45 HT_ spec_RowPack.m11 rfl rfl ?_
              refine pU_ 12 46 HT_ spec_RowPack.m12 rfl rfl ?_
              refine pU_ 13 47 HT_ spec_RowPack.m13 rfl rfl ?_
              refine pU_ 14 48 HT_ spec_RowPack.m14 rfl rfl ?_
              refine pU_ 15 49 HT_ spec_RowPack.m15 rfl rfl ?_
              refine pU_ 16 50 HT_ spec_RowPack.m16 rfl rfl ?_
              refine pU_ 17 51 HT_ spec_RowPack.m17 rfl rfl ?_
              refine pU_ 18 52 HT_ spec_RowPack.m18 rfl rfl ?_
              refine pU_ 19 53 HT_ spec_RowPack.m19 rfl rfl ?_
              refine pI_ 20 54 HT_ spec_RowPack.m20 rfl rfl ?_
              refine done_ (done_of HT_.out (by kernel_rfl)) ?_
              try go_wp2
              go_meet
              case rel => exact ⟨_, (true), (by first | rfl | (simp; done) | (simp [*]; done)), H', ⟨by have := HJ2.out; have := HJ10.out; have := HK3.out; have := HJ24.out; first | omega | exact Nat.le_refl _⟩, ⟨rq_ HO_1036002.out⟩, ⟨bq_ BK1027.out⟩, ⟨bq_ BK1028.out⟩, ⟨bq_ BK1035.out⟩, ⟨bq_ BK1037.out⟩, ⟨hb_ HB.out⟩⟩
           case rest =>
            clear HC38
            (try clear c1); (try clear p2); (try clear c4); (try clear c5); (try clear p6); (try clear c10); (try clear c47); (try clear c47b0); (try clear c47b1); (try clear c51); (try clear c52); (try clear c52b0); (try clear c52b1)
            obtain ⟨kq, x54_37, rfl, HA, HJ37, HO_1036002, BK1027, BK1028, BK1035, BK1037, HB⟩ := hcut
            cases kq with
            | zero => exact absurd HA.out (by simp [spec_RowPack.j4])
            | succ kj37 =>
             have H := HA.out
             clear HA
             simp only [spec_RowPack.j4] at H
             by_cases c59 : x54_37 = true
             ·
              subst c59
              have H1 : (if x1036002_3.length < 2513169434916 then (spec_RowPack.l0 kj37 a1 (wrap64 (x6_3 + 1)) a0_0 a0_1 l0_2 a0_0 a0_1 (x1036002_3 ++ [(⟨((rd_Item l0_2 x6_3).f0), ((rd_Item l0_2 x6_3).f1), ((rd_Item l0_2 x6_3).f2), ((rd_Item l0_2 x6_3).f3), ((rd_Item l0_2 x6_3).f4)⟩ : S_Item)])) else (none)) = some (r1, r2, r3) := by rw [if_pos rfl] at H; exact H
              clear H
              have H := H1
              clear H1
              by_cases c60 : x1036002_3.length < 2513169434916
              ·
               rw [if_pos c60] at H
               have LMc60 := Aside0.mk c60
               clear c60
               obtain ⟨y1039, hy1039⟩ : ∃ y_ : List (S_Item), y_ = (x1036002_3 ++ [(⟨((rd_Item l0_2 x6_3).f0), ((rd_Item l0_2 x6_3).f1), ((rd_Item l0_2 x6_3).f2), ((rd_Item l0_2 x6_3).f3), ((rd_Item l0_2 x6_3).f4)⟩ : S_Item)]) := ⟨_, rfl⟩
               replace H : (spec_RowPack.l0 kj37 a1 (wrap64 (x6_3 + 1)) a0_0 a0_1 l0_2 a0_0 a0_1 y1039) = some (r1, r2, r3) := by first | (rw [hy1039]; with_reducible exact H) | (have H2_ := (Option.bind_some _ _).symm.trans H; rw [hy1039]; with_reducible exact H2_) | (have H2_ := (Option.bind_some _ _).symm.trans H; with_reducible exact H2_) | with_reducible exact H | (rw [hy1039]; exact H) | exact H
               have Ny1039 := Aside0.mk hy1039
               clear hy1039
               have H' := Aside0.mk H
               clear H
               have hnb61 := NB1035_1027.out
               have hnc61 := NB1027_1035.out
               have hnb62 := NB1035_1028.out
               have hnc62 := NB1028_1035.out
               have hnb63 := NB1035_1037.out
               have hnc63 := NB1037_1035.out
               have hcz64_0 : wc.cell? ⟨gb1035, 0, none⟩ = some (.int .i64 a0_0) := (blk_cell BK1035.out 0).trans rfl
               have hcz64_1 : wc.cell? ⟨gb1035, 1, none⟩ = some (.int .i64 a0_1) := (blk_cell BK1035.out 1).trans rfl
               have hcz64_2 : wc.cell? ⟨gb1035, 2, none⟩ = some (u1036002) := (blk_cell BK1035.out 2).trans rfl
               have hfz64_0 := blk_frozen BK1035.out 0
               have hfz64_1 := blk_frozen BK1035.out 1
               have hfz64_2 := blk_frozen BK1035.out 2
               have hnb65 := NB1037_1027.out
               have hnc65 := NB1027_1037.out
               have hnb66 := NB1037_1028.out
               have hnc66 := NB1028_1037.out
               have hcz67_0 : wc.cell? ⟨gb1037, 0, none⟩ = some (.int .i64 ((rd_Item l0_2 x6_3).f0)) := (blk_cell BK1037.out 0).trans rfl
               have hcz67_1 : wc.cell? ⟨gb1037, 1, none⟩ = some (.string ((rd_Item l0_2 x6_3).f1)) := (blk_cell BK1037.out 1).trans rfl
               have hcz67_2 : wc.cell? ⟨gb1037, 2, none⟩ = some (.string ((rd_Item l0_2 x6_3).f2)) := (blk_cell BK1037.out 2).trans rfl
               have hcz67_3 : wc.cell? ⟨gb1037, 3, none⟩ = some (.int .i64 ((rd_Item l0_2 x6_3).f3)) := (blk_cell BK1037.out 3).trans rfl
               have hcz67_4 : wc.cell? ⟨gb1037, 4, none⟩ = some (.int .i64 ((rd_Item l0_2 x6_3).f4)) := (blk_cell BK1037.out 4).trans rfl
               have hfz67_0 := blk_frozen BK1037.out 0
               have hfz67_1 := blk_frozen BK1037.out 1
               have hfz67_2 := blk_frozen BK1037.out 2
               have hfz67_3 := blk_frozen BK1037.out 3
               have hfz67_4 := blk_frozen BK1037.out 4
               go_wp2_with (first | ((with_reducible refine gate_builtin (b := .append) (xs := #[.tmp 56, .tmp 58]) rfl ?_); at_builtin; refine Kd.R_append k_Item (w0 := w) w.heap.size rfl (.tmp 56) (.tmp 58) 55 69 (.agg #[(.int .i64 0), (.string ⟨#[]⟩), (.string ⟨#[]⟩), (.int .i64 0), (.int .i64 0)]) 56 rfl Try.underlying55 info69 rfl (by decide) (by omega) u1036002 x1036002_3 (⟨((rd_Item l0_2 x6_3).f0), ((rd_Item l0_2 x6_3).f1), ((rd_Item l0_2 x6_3).f2), ((rd_Item l0_2 x6_3).f3), ((rd_Item l0_2 x6_3).f4)⟩ : S_Item) [.int .i64 ((rd_Item l0_2 x6_3).f0), .string ((rd_Item l0_2 x6_3).f1), .string ((rd_Item l0_2 x6_3).f2), .int .i64 ((rd_Item l0_2 x6_3).f3), .int .i64 ((rd_Item l0_2 x6_3).f4)] (fun k_ => k_ ≠ gb1037) (fun _ => False) rfl rfl ?aP (fun _ hk => hk.elim) ?aF ?aO ?aB ?aS ?aL ?_; (case aP => exact k_Item_mkM _ _ _ (⟨((rd_Item l0_2 x6_3).f0), ((rd_Item l0_2 x6_3).f1), ((rd_Item l0_2 x6_3).f2), ((rd_Item l0_2 x6_3).f3), ((rd_Item l0_2 x6_3).f4)⟩ : S_Item)); (case aB => exact (hb_ HB.out)); (case aF => exact (fun k_ hk => Kd.freshB (g := gb1037) (o := .cells #[.int .i64 ((rd_Item l0_2 x6_3).f0), .string ((rd_Item l0_2 x6_3).f1), .string ((rd_Item l0_2 x6_3).f2), .int .i64 ((rd_Item l0_2 x6_3).f3), .int .i64 ((rd_Item l0_2 x6_3).f4)] 69 (0, 0)) (bq_ BK1037.out) k_ hk)); (case aO => exact (rq_ HO_1036002.out)); (case aS => exact (below_size (hb_ HB.out))); (case aL => have := LMc60.out; omega); intro v1040 w68 ho hb hg hat; rw [← Ny1039.out] at ho; have n0_ := Aside0.mk (blk_grown (g := gb1027) (o := .cells #[.int .i64 a0_0, .int .i64 a0_1, .slice (some ad1036) l0_2.length c0_2] 57 (0, 0)) (bq_ BK1027.out) hg (Kd.R_ne HO_1036002.out BK1027.out (by decide))); have n1_ := Aside0.mk (blk_grown (g := gb1028) (o := .cells #[.int .i64 x1029000_10, .int .i64 x1029001_10, .slice none 0 0] 57 (0, 0)) (bq_ BK1028.out) hg (Kd.R_ne HO_1036002.out BK1028.out (by decide))); have n2_ := Aside0.mk (blk_grown (g := gb1035) (o := .cells #[.int .i64 a0_0, .int .i64 a0_1, u1036002] 57 (0, 0)) (bq_ BK1035.out) hg (Kd.R_ne HO_1036002.out BK1035.out (by decide))); have n3_ := Aside0.mk (blk_grown (g := gb1037) (o := .cells #[.int .i64 ((rd_Item l0_2 x6_3).f0), .string ((rd_Item l0_2 x6_3).f1), .string ((rd_Item l0_2 x6_3).f2), .int .i64 ((rd_Item l0_2 x6_3).f3), .int .i64 ((rd_Item l0_2 x6_3).f4)] 69 (0, 0)) (bq_ BK1037.out) hg (Kd.R_away HO_1036002.out (fun _ hk => hk))); have n4_ := Aside0.mk (hb); have n5_ := Aside0.mk (ho); clear BK1027; clear BK1028; clear BK1035; clear BK1037; clear HB; clear HO_1036002; have BK1027 := n0_; have BK1028 := n1_; have BK1035 := n2_; have BK1037 := n3_; have HB := n4_; have HO1041 := n5_; clear n0_ n1_ n2_ n3_ n4_ n5_; clear ho hb hg hat; obtain ⟨Ao69, co69, eo69⟩ := Kd.R_slice HO1041.out; subst eo69; have hcz70_0 : w68.cell? ⟨gb1035, 0, none⟩ = some (.int .i64 a0_0) := (blk_cell BK1035.out 0).trans rfl; have hcz70_1 : w68.cell? ⟨gb1035, 1, none⟩ = some (.int .i64 a0_1) := (blk_cell BK1035.out 1).trans rfl; have hcz70_2 : w68.cell? ⟨gb1035, 2, none⟩ = some (u1036002) := (blk_cell BK1035.out 2).trans rfl; have hfz70_0 := blk_frozen BK1035.out 0; have hfz70_1 := blk_frozen BK1035.out 1; have hfz70_2 := blk_frozen BK1035.out 2))
               go_roundg kj37
               case measure => have := HJ2.out; have := HJ10.out; have := HK3.out; have := HJ24.out; have := HJ37.out; omega
               case rel => exact ⟨(wrap64 (x6_3 + 1)), (y1039), (.slice Ao69 y1039.length co69), (by first | rfl | (simp; done) | (simp [*]; done)), H', ⟨by have := HJ2.out; have := HJ10.out; have := HK3.out; have := HJ24.out; have := HJ37.out; omega⟩, ⟨by (with_reducible repeat (first | apply Kd.R_alloc | apply Kd.R_drewN | apply Kd.R_drew)); exact Kd.R_mono (Kd.R_far (p := ⟨gb1035, 2, none⟩) (Kd.R_types HO1041.out BK1035.out (by decide)) (fun _ hk => hk.2) (.slice Ao69 y1039.length co69)) (fun _ hk => trivial)⟩, ⟨by (with_reducible repeat (first | refine blk_drewN ?_ _ | refine blk_drew ?_ | refine blk_alloc ?_ _)); refine blk_far ?_ NB1027_1035.out _; (with_reducible repeat (first | refine blk_drewN ?_ _ | refine blk_drew ?_ | refine blk_alloc ?_ _)); exact BK1027.out⟩, ⟨by (with_reducible repeat (first | refine blk_drewN ?_ _ | refine blk_drew ?_ | refine blk_alloc ?_ _)); refine blk_far ?_ NB1028_1035.out _; (with_reducible repeat (first | refine blk_drewN ?_ _ | refine blk_drew ?_ | refine blk_alloc ?_ _)); exact BK1028.out⟩, ⟨by (with_reducible repeat (first | refine blk_drewN ?_ _ | refine blk_drew ?_ | refine blk_alloc ?_ _)); refine blk_put (cs := #[.int .i64 a0_0, .int .i64 a0_1, u1036002]) ?_ 2 _ rfl; (with_reducible repeat (first | refine blk_drewN ?_ _ | refine blk_drew ?_ | refine blk_alloc ?_ _)); exact BK1035.out⟩, ⟨hb_ HB.out⟩⟩
              ·
               rw [if_neg c60] at H
               exact absurd H (by simp)
             ·
              replace c59 := Bool.eq_false_iff.mpr c59
              subst c59
              have H1 : (spec_RowPack.l0 kj37 a1 (wrap64 (x6_3 + 1)) a0_0 a0_1 l0_2 a0_0 a0_1 x1036002_3) = some (r1, r2, r3) := by rw [if_neg (show ¬ (false = true) by decide)] at H; exact H
              clear H
              have H := H1
              clear H1
              have H' := Aside0.mk H
              clear H
              go_wp2
              go_roundg kj37
              case measure => have := HJ2.out; have := HJ10.out; have := HK3.out; have := HJ24.out; have := HJ37.out; omega
              case rel => exact ⟨(wrap64 (x6_3 + 1)), (x1036002_3), (u1036002), (by first | rfl | (simp; done) | (simp [*]; done)), H', ⟨by have := HJ2.out; have := HJ10.out; have := HK3.out; have := HJ24.out; have := HJ37.out; omega⟩, ⟨by (with_reducible repeat (first | apply Kd.R_alloc | apply Kd.R_drewN | apply Kd.R_drew)); exact Kd.R_mono HO_1036002.out (fun _ hk => trivial)⟩, ⟨bq_ BK1027.out⟩, ⟨bq_ BK1028.out⟩, ⟨bq_ BK1035.out⟩, ⟨hb_ HB.out⟩⟩
          ·
           rw [if_neg c37] at H
           exact absurd H (by simp)
         ·
          rw [if_neg c36] at H
          exact absurd H (by simp)
end Go.Proofs.Ytiknkolclcdajaa.Q
