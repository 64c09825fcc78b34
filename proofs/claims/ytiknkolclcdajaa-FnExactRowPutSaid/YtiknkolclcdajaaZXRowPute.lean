/- Made by a program of ours out of the print of the loaded functions: for each of some functions a plain function, and the walk that shows that a call comes to what it says. No condition but those of each theorem. -/
import Derived.Test.YtiknkolclcdajaaZXRowPut0
import Derived.Test.YtiknkolclcdajaaZXRowPuta
import Derived.Test.YtiknkolclcdajaaZXRowPutb
import Derived.Test.YtiknkolclcdajaaZXRowPutd
namespace Go.Proofs.Ytiknkolclcdajaa.Q
open Go.RowKit Go.Proofs.YtiknkolclcdajaaW.PrintWords Go.Proofs.YtiknkolclcdajaaW.PrintLast Go.Proofs.YtiknkolclcdajaaW.PrintMore
attribute [local go_sem] max2_int min2_int max_two min_two max_three min_three max_four min_four   -- for this text's walks alone
set_option linter.unusedVariables false
set_option linter.unusedSimpArgs false

/-! ### laws_FnExactRowPut: function 5 -/
mutual
def laws_FnExactRowPut.j0 : Nat → ByteArray → ByteArray → Int → Int → Int → Bool → Int → Bool → Bool → Int → Int → List (S_LItem) → Int → Int → List (S_Item) → Int → Int → List (S_Item) → Int → Int → List (S_Item) → Option (Bool)
 | 0, _, _, _, _, _, _, _, _, _, _, _, _, _, _, _, _, _, _, _, _, _ => none
 | k + 1, x1, x2, x3, x4, x13, x14, x17, x18, x72, x1058000, x1058001, x1058002, x1072000, x1072001, x1072002, x1078000, x1078001, x1078002, x1086000, x1086001, x1086002 => if x72 = true then (some false) else ((laws_toRow.f k x1058000 x1058001 x1058002).bind fun bt1087 => ((laws_eqRow.f k x1078000 x1078001 x1078002 bt1087.1 bt1087.2.1 bt1087.2.2).bind fun t1092 => (if t1092 = true then ((laws_markRow.f k x1078000 x1078001 x1078002 1).bind fun bt1093 => (if bt1093.1 < 0 then (laws_FnExactRowPut.j1 k x1 x2 x3 x4 x13 x14 true x1058000 x1058001 x1058002 x1072000 x1072001 x1072002 x1086000 x1086001 x1086002) else ((laws_eqRow.f k x1086000 x1086001 x1086002 x1072000 x1072001 x1072002).bind fun t1095 => (if t1095 = true then (if x17 = x13 then (laws_FnExactRowPut.j1 k x1 x2 x3 x4 x13 x14 (x18 != x14) x1058000 x1058001 x1058002 x1072000 x1072001 x1072002 x1086000 x1086001 x1086002) else (laws_FnExactRowPut.j1 k x1 x2 x3 x4 x13 x14 true x1058000 x1058001 x1058002 x1072000 x1072001 x1072002 x1086000 x1086001 x1086002)) else (laws_FnExactRowPut.j1 k x1 x2 x3 x4 x13 x14 true x1058000 x1058001 x1058002 x1072000 x1072001 x1072002 x1086000 x1086001 x1086002))))) else (some false))))
def laws_FnExactRowPut.j1 : Nat → ByteArray → ByteArray → Int → Int → Int → Bool → Bool → Int → Int → List (S_LItem) → Int → Int → List (S_Item) → Int → Int → List (S_Item) → Option (Bool)
 | 0, _, _, _, _, _, _, _, _, _, _, _, _, _, _, _, _ => none
 | k + 1, x1, x2, x3, x4, x13, x14, x98, x1058000, x1058001, x1058002, x1072000, x1072001, x1072002, x1086000, x1086001, x1086002 => if x98 = true then (some false) else ((laws_markRow.f k x1086000 x1086001 x1086002 1).bind fun bt1096 => ((laws_heldRow.f k x1086000 x1086001 bt1096.2 1).bind fun t1098 => (if t1098 < 0 then (some false) else (if t1098 = bt1096.1 then ((laws_toRow.f k x1058000 x1058001 x1058002).bind fun bt1099 => ((impl_RowPut.f k bt1099.1 bt1099.2.1 bt1099.2.2 x1 x2 x3 x4).bind fun bt1104 => ((laws_eqRow.f k bt1104.1 bt1104.2.1 bt1104.2.2.1 x1072000 x1072001 x1072002).bind fun t1112 => (if t1112 = true then (if bt1104.2.2.2.1 = x13 then (laws_FnExactRowPut.j2 k bt1096.1 (bt1104.2.2.2.2 != x14) x1086000 x1086001 bt1096.2) else (laws_FnExactRowPut.j2 k bt1096.1 true x1086000 x1086001 bt1096.2)) else (laws_FnExactRowPut.j2 k bt1096.1 true x1086000 x1086001 bt1096.2))))) else (some false)))))
def laws_FnExactRowPut.j2 : Nat → Int → Bool → Int → Int → List (S_Item) → Option (Bool)
 | 0, _, _, _, _, _ => none
 | k + 1, x20, x134, x1086000, x1086001, x1086002 => if x134 = true then (some false) else ((laws_heldRow.f k x1086000 x1086001 x1086002 1).bind fun t1113 => (if t1113 < 0 then (some false) else (if t1113 = x20 then (some true) else (some false))))
end
def laws_FnExactRowPut.f (k : Nat) (a0_0 : Int) (a0_1 : Int) (l0_2 : List (S_LItem)) (a1 : ByteArray) (a2 : ByteArray) (a3 : Int) (a4 : Int) : Option (Bool) := if (a1.size : Int) > 1048576 then (some true) else (if (a2.size : Int) > 1048576 then (some true) else ((laws_szRow.f k a0_0 a0_1 l0_2 1048576).bind fun t1058 => (if t1058 < 0 then (some true) else ((laws_toRow.f k a0_0 a0_1 l0_2).bind fun bt1059 => ((spec_RowPut.f k bt1059.1 bt1059.2.1 bt1059.2.2 a1 a2 a3 a4).bind fun bt1064 => ((laws_toRow.f k a0_0 a0_1 l0_2).bind fun bt1072 => ((impl_RowPut.f k bt1072.1 bt1072.2.1 bt1072.2.2 a1 a2 a3 a4).bind fun bt1078 => ((laws_eqRow.f k bt1078.1 bt1078.2.1 bt1078.2.2.1 bt1064.1 bt1064.2.1 bt1064.2.2.1).bind fun t1086 => (if t1086 = true then (if bt1078.2.2.2.1 = bt1064.2.2.2.1 then (laws_FnExactRowPut.j0 k a1 a2 a3 a4 bt1064.2.2.2.1 bt1064.2.2.2.2 bt1078.2.2.2.1 bt1078.2.2.2.2 (bt1078.2.2.2.2 != bt1064.2.2.2.2) a0_0 a0_1 l0_2 bt1064.1 bt1064.2.1 bt1064.2.2.1 bt1072.1 bt1072.2.1 bt1072.2.2 bt1078.1 bt1078.2.1 bt1078.2.2.1) else (laws_FnExactRowPut.j0 k a1 a2 a3 a4 bt1064.2.2.2.1 bt1064.2.2.2.2 bt1078.2.2.2.1 bt1078.2.2.2.2 true a0_0 a0_1 l0_2 bt1064.1 bt1064.2.1 bt1064.2.2.1 bt1072.1 bt1072.2.1 bt1072.2.2 bt1078.1 bt1078.2.1 bt1078.2.2.1)) else (laws_FnExactRowPut.j0 k a1 a2 a3 a4 bt1064.2.2.2.1 bt1064.2.2.2.2 bt1078.2.2.2.1 bt1078.2.2.2.2 true a0_0 a0_1 l0_2 bt1064.1 bt1064.2.1 bt1064.2.2.1 bt1072.1 bt1072.2.1 bt1072.2.2 bt1078.1 bt1078.2.1 bt1078.2.2.1))))))))))
theorem laws_FnExactRowPut.mono_l : ∀ k, (∀ y0 y1 y2 y3 y4 y5 y6 y7 y8 y9 y10 y11 y12 y13 y14 y15 y16 y17 y18 y19 y20, LeO (laws_FnExactRowPut.j0 k y0 y1 y2 y3 y4 y5 y6 y7 y8 y9 y10 y11 y12 y13 y14 y15 y16 y17 y18 y19 y20) (laws_FnExactRowPut.j0 (k + 1) y0 y1 y2 y3 y4 y5 y6 y7 y8 y9 y10 y11 y12 y13 y14 y15 y16 y17 y18 y19 y20)) ∧ (∀ y0 y1 y2 y3 y4 y5 y6 y7 y8 y9 y10 y11 y12 y13 y14 y15, LeO (laws_FnExactRowPut.j1 k y0 y1 y2 y3 y4 y5 y6 y7 y8 y9 y10 y11 y12 y13 y14 y15) (laws_FnExactRowPut.j1 (k + 1) y0 y1 y2 y3 y4 y5 y6 y7 y8 y9 y10 y11 y12 y13 y14 y15)) ∧ (∀ y0 y1 y2 y3 y4, LeO (laws_FnExactRowPut.j2 k y0 y1 y2 y3 y4) (laws_FnExactRowPut.j2 (k + 1) y0 y1 y2 y3 y4))
 | 0 => ⟨fun _ _ _ _ _ _ _ _ _ _ _ _ _ _ _ _ _ _ _ _ _ r h => by simp [laws_FnExactRowPut.j0] at h, fun _ _ _ _ _ _ _ _ _ _ _ _ _ _ _ _ r h => by simp [laws_FnExactRowPut.j1] at h, fun _ _ _ _ _ r h => by simp [laws_FnExactRowPut.j2] at h⟩
 | k + 1 => by
  obtain ⟨ih0, ih1, ih2⟩ := laws_FnExactRowPut.mono_l k
  refine ⟨?_, ?_, ?_⟩
  ·
   intro y0 y1 y2 y3 y4 y5 y6 y7 y8 y9 y10 y11 y12 y13 y14 y15 y16 y17 y18 y19 y20
   unfold laws_FnExactRowPut.j0
   repeat' first
   | (with_reducible exact ih0 _ _ _ _ _ _ _ _ _ _ _ _ _ _ _ _ _ _ _ _ _)
   | (with_reducible exact ih1 _ _ _ _ _ _ _ _ _ _ _ _ _ _ _ _)
   | (with_reducible exact ih2 _ _ _ _ _)
   | (with_reducible exact impl_RowPut.mono _ _ _ _ _ _ _ _)
   | (with_reducible exact laws_eqRow.mono _ _ _ _ _ _ _)
   | (with_reducible exact laws_heldRow.mono _ _ _ _ _)
   | (with_reducible exact laws_markRow.mono _ _ _ _ _)
   | (with_reducible exact laws_szRow.mono _ _ _ _ _)
   | (with_reducible exact laws_toRow.mono _ _ _ _)
   | (with_reducible exact spec_RowPut.mono _ _ _ _ _ _ _ _)
   | (with_reducible exact LeO.refl _)
   | (with_reducible exact LeO.none _)
   | (with_reducible refine LeO.ite ?_ ?_)
   | (with_reducible refine LeO.bind ?_ (fun _ => ?_))
   | exact ih0 _ _ _ _ _ _ _ _ _ _ _ _ _ _ _ _ _ _ _ _ _
   | exact ih1 _ _ _ _ _ _ _ _ _ _ _ _ _ _ _ _
   | exact ih2 _ _ _ _ _
   | exact impl_RowPut.mono _ _ _ _ _ _ _ _
   | exact laws_eqRow.mono _ _ _ _ _ _ _
   | exact laws_heldRow.mono _ _ _ _ _
   | exact laws_markRow.mono _ _ _ _ _
   | exact laws_szRow.mono _ _ _ _ _
   | exact laws_toRow.mono _ _ _ _
   | exact spec_RowPut.mono _ _ _ _ _ _ _ _
   | exact LeO.none _
   | refine LeO.ite ?_ ?_
   | refine LeO.bind ?_ (fun _ => ?_)
  ·
   intro y0 y1 y2 y3 y4 y5 y6 y7 y8 y9 y10 y11 y12 y13 y14 y15
   unfold laws_FnExactRowPut.j1
   repeat' first
   | (with_reducible exact ih0 _ _ _ _ _ _ _ _ _ _ _ _ _ _ _ _ _ _ _ _ _)
   | (with_reducible exact ih1 _ _ _ _ _ _ _ _ _ _ _ _ _ _ _ _)
   | (with_reducible exact ih2 _ _ _ _ _)
   | (with_reducible exact impl_RowPut.mono _ _ _ _ _ _ _ _)
   | (with_reducible exact laws_eqRow.mono _ _ _ _ _ _ _)
   | (with_reducible exact laws_heldRow.mono _ _ _ _ _)
   | (with_reducible exact laws_markRow.mono _ _ _ _ _)
   | (with_reducible exact laws_szRow.mono _ _ _ _ _)
   | (with_reducible exact laws_toRow.mono _ _ _ _)
   | (with_reducible exact spec_RowPut.mono _ _ _ _ _ _ _ _)
   | (with_reducible exact LeO.refl _)
   | (with_reducible exact LeO.none _)
   | (with_reducible refine LeO.ite ?_ ?_)
   | (with_reducible refine LeO.bind ?_ (fun _ => ?_))
   | exact ih0 _ _ _ _ _ _ _ _ _ _ _ _ _ _ _ _ _ _ _ _ _
   | exact ih1 _ _ _ _ _ _ _ _ _ _ _ _ _ _ _ _
   | exact ih2 _ _ _ _ _
   | exact impl_RowPut.mono _ _ _ _ _ _ _ _
   | exact laws_eqRow.mono _ _ _ _ _ _ _
   | exact laws_heldRow.mono _ _ _ _ _
   | exact laws_markRow.mono _ _ _ _ _
   | exact laws_szRow.mono _ _ _ _ _
   | exact laws_toRow.mono _ _ _ _
   | exact spec_RowPut.mono _ _ _ _ _ _ _ _
   | exact LeO.none _
   | refine LeO.ite ?_ ?_
   | refine LeO.bind ?_ (fun _ => ?_)
  ·
   intro y0 y1 y2 y3 y4
   unfold laws_FnExactRowPut.j2
   repeat' first
   | (with_reducible exact ih0 _ _ _ _ _ _ _ _ _ _ _ _ _ _ _ _ _ _ _ _ _)
   | (with_reducible exact ih1 _ _ _ _ _ _ _ _ _ _ _ _ _ _ _ _)
   | (with_reducible exact ih2 _ _ _ _ _)
   | (with_reducible exact impl_RowPut.mono _ _ _ _ _ _ _ _)
   | (with_reducible exact laws_eqRow.mono _ _ _ _ _ _ _)
   | (with_reducible exact laws_heldRow.mono _ _ _ _ _)
   | (with_reducible exact laws_markRow.mono _ _ _ _ _)
   | (with_reducible exact laws_szRow.mono _ _ _ _ _)
   | (with_reducible exact laws_toRow.mono _ _ _ _)
   | (with_reducible exact spec_RowPut.mono _ _ _ _ _ _ _ _)
   | (with_reducible exact LeO.refl _)
   | (with_reducible exact LeO.none _)
   | (with_reducible refine LeO.ite ?_ ?_)
   | (with_reducible refine LeO.bind ?_ (fun _ => ?_))
   | exact ih0 _ _ _ _ _ _ _ _ _ _ _ _ _ _ _ _ _ _ _ _ _
   | exact ih1 _ _ _ _ _ _ _ _ _ _ _ _ _ _ _ _
   | exact ih2 _ _ _ _ _
   | exact impl_RowPut.mono _ _ _ _ _ _ _ _
   | exact laws_eqRow.mono _ _ _ _ _ _ _
   | exact laws_heldRow.mono _ _ _ _ _
   | exact laws_markRow.mono _ _ _ _ _
   | exact laws_szRow.mono _ _ _ _ _
   | exact laws_toRow.mono _ _ _ _
   | exact spec_RowPut.mono _ _ _ _ _ _ _ _
   | exact LeO.none _
   | refine LeO.ite ?_ ?_
   | refine LeO.bind ?_ (fun _ => ?_)
theorem laws_FnExactRowPut.mono : ∀ a0 a1 a2 a3 a4 a5 a6 k, LeO (laws_FnExactRowPut.f k a0 a1 a2 a3 a4 a5 a6) (laws_FnExactRowPut.f (k + 1) a0 a1 a2 a3 a4 a5 a6) := by
 intro a0 a1 a2 a3 a4 a5 a6 k
 obtain ⟨ih0, ih1, ih2⟩ := laws_FnExactRowPut.mono_l k
 unfold laws_FnExactRowPut.f
 repeat' first
  | (with_reducible exact ih0 _ _ _ _ _ _ _ _ _ _ _ _ _ _ _ _ _ _ _ _ _)
  | (with_reducible exact ih1 _ _ _ _ _ _ _ _ _ _ _ _ _ _ _ _)
  | (with_reducible exact ih2 _ _ _ _ _)
  | (with_reducible exact impl_RowPut.mono _ _ _ _ _ _ _ _)
  | (with_reducible exact laws_eqRow.mono _ _ _ _ _ _ _)
  | (with_reducible exact laws_heldRow.mono _ _ _ _ _)
  | (with_reducible exact laws_markRow.mono _ _ _ _ _)
  | (with_reducible exact laws_szRow.mono _ _ _ _ _)
  | (with_reducible exact laws_toRow.mono _ _ _ _)
  | (with_reducible exact spec_RowPut.mono _ _ _ _ _ _ _ _)
  | (with_reducible exact LeO.refl _)
  | (with_reducible exact LeO.none _)
  | (with_reducible refine LeO.ite ?_ ?_)
  | (with_reducible refine LeO.bind ?_ (fun _ => ?_))
  | exact ih0 _ _ _ _ _ _ _ _ _ _ _ _ _ _ _ _ _ _ _ _ _
  | exact ih1 _ _ _ _ _ _ _ _ _ _ _ _ _ _ _ _
  | exact ih2 _ _ _ _ _
  | exact impl_RowPut.mono _ _ _ _ _ _ _ _
  | exact laws_eqRow.mono _ _ _ _ _ _ _
  | exact laws_heldRow.mono _ _ _ _ _
  | exact laws_markRow.mono _ _ _ _ _
  | exact laws_szRow.mono _ _ _ _ _
  | exact laws_toRow.mono _ _ _ _
  | exact spec_RowPut.mono _ _ _ _ _ _ _ _
  | exact LeO.none _
  | refine LeO.ite ?_ ?_
  | refine LeO.bind ?_ (fun _ => ?_)
set_option maxHeartbeats 8000000 in
set_option maxRecDepth 100000 in
theorem laws_FnExactRowPut.calls (k : Nat) (a0_0 : Int) (a0_1 : Int) (A0_2 : Option Addr) (c0_2 : Nat) (l0_2 : List (S_LItem)) (a1 : ByteArray) (a2 : ByteArray) (a3 : Int) (a4 : Int) (r : Bool) (w : World) (hr0_2 : Kd.C k_LItem w A0_2 l0_2.length l0_2) (hc0_2 : l0_2.length ≤ c0_2) (h : laws_FnExactRowPut.f k a0_0 a0_1 l0_2 a1 a2 a3 a4 = some r) :
 Calls Try.prog 5 #[.agg #[.int .i64 a0_0, .int .i64 a0_1, .slice A0_2 l0_2.length c0_2], .string a1, .string a2, .int .i64 a3, .int .i64 a4] w fun e w' => e = .returned (.bool r) ∧ Below w.heap.size w w' := by
 have hu53 := Try.underlying53
 have hu57 := Try.underlying57
 have HR0_2 := Aside0.mk hr0_2
 have HC0_2 := Aside0.mk hc0_2
 clear hr0_2 hc0_2
 have HB := Aside0.mk (Below.refl w.heap.size w)
 have H : (if (a1.size : Int) > 1048576 then (some true) else (if (a2.size : Int) > 1048576 then (some true) else ((laws_szRow.f k a0_0 a0_1 l0_2 1048576).bind fun t1058 => (if t1058 < 0 then (some true) else ((laws_toRow.f k a0_0 a0_1 l0_2).bind fun bt1059 => ((spec_RowPut.f k bt1059.1 bt1059.2.1 bt1059.2.2 a1 a2 a3 a4).bind fun bt1064 => ((laws_toRow.f k a0_0 a0_1 l0_2).bind fun bt1072 => ((impl_RowPut.f k bt1072.1 bt1072.2.1 bt1072.2.2 a1 a2 a3 a4).bind fun bt1078 => ((laws_eqRow.f k bt1078.1 bt1078.2.1 bt1078.2.2.1 bt1064.1 bt1064.2.1 bt1064.2.2.1).bind fun t1086 => (if t1086 = true then (if bt1078.2.2.2.1 = bt1064.2.2.2.1 then (laws_FnExactRowPut.j0 k a1 a2 a3 a4 bt1064.2.2.2.1 bt1064.2.2.2.2 bt1078.2.2.2.1 bt1078.2.2.2.2 (bt1078.2.2.2.2 != bt1064.2.2.2.2) a0_0 a0_1 l0_2 bt1064.1 bt1064.2.1 bt1064.2.2.1 bt1072.1 bt1072.2.1 bt1072.2.2 bt1078.1 bt1078.2.1 bt1078.2.2.1) else (laws_FnExactRowPut.j0 k a1 a2 a3 a4 bt1064.2.2.2.1 bt1064.2.2.2.2 bt1078.2.2.2.1 bt1078.2.2.2.2 true a0_0 a0_1 l0_2 bt1064.1 bt1064.2.1 bt1064.2.2.1 bt1072.1 bt1072.2.1 bt1072.2.2 bt1078.1 bt1078.2.1 bt1078.2.2.1)) else (laws_FnExactRowPut.j0 k a1 a2 a3 a4 bt1064.2.2.2.1 bt1064.2.2.2.2 bt1078.2.2.2.1 bt1078.2.2.2.2 true a0_0 a0_1 l0_2 bt1064.1 bt1064.2.1 bt1064.2.2.1 bt1072.1 bt1072.2.1 bt1072.2.2 bt1078.1 bt1078.2.1 bt1078.2.2.1))))))))))) = some r := h
 clear h
 by_cases c6 : (a1.size : Int) > 1048576
 ·
  rw [if_pos c6] at H
  have c6b0 : decide (1048576 < (a1.size : Int)) = true := decide_eq_true c6
  have c6b1 : decide (1048576 < a1.size) = true := decide_eq_true (by omega)
  clear c6
  obtain rfl := Option.some.inj H
  go_enter Try.func5, Try.ntmps5
  go_wp2_with (first | ((with_reducible refine gate_dst (N := 5) rfl ?_); refine box_event ?hg (N := 5) ?hd (cs := #[.int .i64 a0_0, .int .i64 a0_1, .slice A0_2 l0_2.length c0_2]) (t := 53) ?hr ?_; (case hd => rfl); (case hg => rfl); (case hr => first | (go_simp; done) | (go_simp; rfl)); intro gb1057 hg w7 hbox hb; have n0_ := Aside0.mk (below_step (hb_ HB.out) hb); have n1_ := Aside0.mk (hbox); have n2_ := Aside0.mk ((by rw [hg]; exact (below_size (hb_ HB.out)) : w.heap.size ≤ gb1057)); have n3_ := Aside0.mk ((by rw [hg]; exact (below_size (hb_ HB.out)) : w.heap.size ≤ gb1057)); clear HB; have HB := n0_; have BK1057 := n1_; have GW1057 := n2_; have GE1057 := n3_; clear n0_ n1_ n2_ n3_; clear hb hbox hg))
  go_ret
  exact ⟨by first | rfl | (simp [errW_none, errW_some] <;> rfl) | (simp [*, errW_none, errW_some] <;> rfl), hb_ HB.out⟩
 ·
  rw [if_neg c6] at H
  have c6b0 : decide (1048576 < (a1.size : Int)) = false := decide_eq_false c6
  have c6b1 : decide (1048576 < a1.size) = false := decide_eq_false (by omega)
  clear c6
  by_cases c8 : (a2.size : Int) > 1048576
  ·
   rw [if_pos c8] at H
   have c8b0 : decide (1048576 < (a2.size : Int)) = true := decide_eq_true c8
   have c8b1 : decide (1048576 < a2.size) = true := decide_eq_true (by omega)
   clear c8
   obtain rfl := Option.some.inj H
   go_enter Try.func5, Try.ntmps5
   go_wp2_with (first | ((with_reducible refine gate_dst (N := 5) rfl ?_); refine box_event ?hg (N := 5) ?hd (cs := #[.int .i64 a0_0, .int .i64 a0_1, .slice A0_2 l0_2.length c0_2]) (t := 53) ?hr ?_; (case hd => rfl); (case hg => rfl); (case hr => first | (go_simp; done) | (go_simp; rfl)); intro gb1057 hg w9 hbox hb; have n0_ := Aside0.mk (below_step (hb_ HB.out) hb); have n1_ := Aside0.mk (hbox); have n2_ := Aside0.mk ((by rw [hg]; exact (below_size (hb_ HB.out)) : w.heap.size ≤ gb1057)); have n3_ := Aside0.mk ((by rw [hg]; exact (below_size (hb_ HB.out)) : w.heap.size ≤ gb1057)); clear HB; have HB := n0_; have BK1057 := n1_; have GW1057 := n2_; have GE1057 := n3_; clear n0_ n1_ n2_ n3_; clear hb hbox hg))
   go_ret
   exact ⟨by first | rfl | (simp [errW_none, errW_some] <;> rfl) | (simp [*, errW_none, errW_some] <;> rfl), hb_ HB.out⟩
  ·
   rw [if_neg c8] at H
   have c8b0 : decide (1048576 < (a2.size : Int)) = false := decide_eq_false c8
   have c8b1 : decide (1048576 < a2.size) = false := decide_eq_false (by omega)
   clear c8
   replace H := Option.bind_eq_some_iff.mp H
   obtain ⟨t1058, A100, H⟩ := H
   replace H : (if t1058 < 0 then (some true) else ((laws_toRow.f k a0_0 a0_1 l0_2).bind fun bt1059 => ((spec_RowPut.f k bt1059.1 bt1059.2.1 bt1059.2.2 a1 a2 a3 a4).bind fun bt1064 => ((laws_toRow.f k a0_0 a0_1 l0_2).bind fun bt1072 => ((impl_RowPut.f k bt1072.1 bt1072.2.1 bt1072.2.2 a1 a2 a3 a4).bind fun bt1078 => ((laws_eqRow.f k bt1078.1 bt1078.2.1 bt1078.2.2.1 bt1064.1 bt1064.2.1 bt1064.2.2.1).bind fun t1086 => (if t1086 = true then (if bt1078.2.2.2.1 = bt1064.2.2.2.1 then (laws_FnExactRowPut.j0 k a1 a2 a3 a4 bt1064.2.2.2.1 bt1064.2.2.2.2 bt1078.2.2.2.1 bt1078.2.2.2.2 (bt1078.2.2.2.2 != bt1064.2.2.2.2) a0_0 a0_1 l0_2 bt1064.1 bt1064.2.1 bt1064.2.2.1 bt1072.1 bt1072.2.1 bt1072.2.2 bt1078.1 bt1078.2.1 bt1078.2.2.1) else (laws_FnExactRowPut.j0 k a1 a2 a3 a4 bt1064.2.2.2.1 bt1064.2.2.2.2 bt1078.2.2.2.1 bt1078.2.2.2.2 true a0_0 a0_1 l0_2 bt1064.1 bt1064.2.1 bt1064.2.2.1 bt1072.1 bt1072.2.1 bt1072.2.2 bt1078.1 bt1078.2.1 bt1078.2.2.1)) else (laws_FnExactRowPut.j0 k a1 a2 a3 a4 bt1064.2.2.2.1 bt1064.2.2.2.2 bt1078.2.2.2.1 bt1078.2.2.2.2 true a0_0 a0_1 l0_2 bt1064.1 bt1064.2.1 bt1064.2.2.1 bt1072.1 bt1072.2.1 bt1072.2.2 bt1078.1 bt1078.2.1 bt1078.2.2.1)))))))) = some r := H
   have A10 := Aside0.mk A100
   clear A100
   by_cases c11 : t1058 < 0
   ·
    rw [if_pos c11] at H
    have c11b0 : decide (t1058 < 0) = true := decide_eq_true c11
    clear c11
    obtain rfl := Option.some.inj H
    go_enter Try.func5, Try.ntmps5
    go_wp2_with (first | ((with_reducible refine gate_dst (N := 5) rfl ?_); refine box_event ?hg (N := 5) ?hd (cs := #[.int .i64 a0_0, .int .i64 a0_1, .slice A0_2 l0_2.length c0_2]) (t := 53) ?hr ?_; (case hd => rfl); (case hg => rfl); (case hr => first | (go_simp; done) | (go_simp; rfl)); intro gb1057 hg w12 hbox hb; have n0_ := Aside0.mk (below_step (hb_ HB.out) hb); have n1_ := Aside0.mk (hbox); have n2_ := Aside0.mk ((by rw [hg]; exact (below_size (hb_ HB.out)) : w.heap.size ≤ gb1057)); have n3_ := Aside0.mk ((by rw [hg]; exact (below_size (hb_ HB.out)) : w.heap.size ≤ gb1057)); clear HB; have HB := n0_; have BK1057 := n1_; have GW1057 := n2_; have GE1057 := n3_; clear n0_ n1_ n2_ n3_; clear hb hbox hg; have hcz13_0 : w12.cell? ⟨gb1057, 0, none⟩ = some (.int .i64 a0_0) := (blk_cell BK1057.out 0).trans rfl; have hcz13_1 : w12.cell? ⟨gb1057, 1, none⟩ = some (.int .i64 a0_1) := (blk_cell BK1057.out 1).trans rfl; have hcz13_2 : w12.cell? ⟨gb1057, 2, none⟩ = some (.slice A0_2 l0_2.length c0_2) := (blk_cell BK1057.out 2).trans rfl; have hfz13_0 := blk_frozen BK1057.out 0; have hfz13_1 := blk_frozen BK1057.out 1; have hfz13_2 := blk_frozen BK1057.out 2) | ((with_reducible refine gate_callee (f := 29) rfl ?_); refine goesL_ (some 33) rfl rfl Try.func29 (by kernel_rfl) rfl #[.agg #[.int .i64 a0_0, .int .i64 a0_1, .slice A0_2 l0_2.length c0_2], .int .i64 1048576] rfl sm_ ?_; (with_reducible refine (laws_szRow.calls k a0_0 a0_1 _ _ l0_2 1048576 t1058 _ ?side1 ?side2 A10.out).mono ?_); (case side1 => repeat (first | exact (Kd.C_below HR0_2.out HB.out) | (with_reducible refine Kd.C_alloc ?_ _) | (with_reducible refine Kd.C_drewN ?_ _) | (with_reducible refine Kd.C_drew ?_))); (case side2 => exact HC0_2.out); rintro e w14 ⟨rfl, hb⟩; refine ⟨_, rfl, ?_⟩; have n0_ := Aside0.mk (bb_ BK1057.out hb); have n1_ := Aside0.mk (below_step (hb_ HB.out) hb); clear BK1057; clear HB; have BK1057 := n0_; have HB := n1_; clear n0_ n1_; (try clear hb); (try clear hb2); (try clear hk); (try clear hi)))
    go_ret
    exact ⟨by first | rfl | (simp [errW_none, errW_some] <;> rfl) | (simp [*, errW_none, errW_some] <;> rfl), hb_ HB.out⟩
   ·
    rw [if_neg c11] at H
    have c11b0 : decide (t1058 < 0) = false := decide_eq_false c11
    clear c11
    replace H := Option.bind_eq_some_iff.mp H
    obtain ⟨⟨t1059, t1060, t1061⟩, A150, H⟩ := H
    replace H : ((spec_RowPut.f k t1059 t1060 t1061 a1 a2 a3 a4).bind fun bt1064 => ((laws_toRow.f k a0_0 a0_1 l0_2).bind fun bt1072 => ((impl_RowPut.f k bt1072.1 bt1072.2.1 bt1072.2.2 a1 a2 a3 a4).bind fun bt1078 => ((laws_eqRow.f k bt1078.1 bt1078.2.1 bt1078.2.2.1 bt1064.1 bt1064.2.1 bt1064.2.2.1).bind fun t1086 => (if t1086 = true then (if bt1078.2.2.2.1 = bt1064.2.2.2.1 then (laws_FnExactRowPut.j0 k a1 a2 a3 a4 bt1064.2.2.2.1 bt1064.2.2.2.2 bt1078.2.2.2.1 bt1078.2.2.2.2 (bt1078.2.2.2.2 != bt1064.2.2.2.2) a0_0 a0_1 l0_2 bt1064.1 bt1064.2.1 bt1064.2.2.1 bt1072.1 bt1072.2.1 bt1072.2.2 bt1078.1 bt1078.2.1 bt1078.2.2.1) else (laws_FnExactRowPut.j0 k a1 a2 a3 a4 bt1064.2.2.2.1 bt1064.2.2.2.2 bt1078.2.2.2.1 bt1078.2.2.2.2 true a0_0 a0_1 l0_2 bt1064.1 bt1064.2.1 bt1064.2.2.1 bt1072.1 bt1072.2.1 bt1072.2.2 bt1078.1 bt1078.2.1 bt1078.2.2.1)) else (laws_FnExactRowPut.j0 k a1 a2 a3 a4 bt1064.2.2.2.1 bt1064.2.2.2.2 bt1078.2.2.2.1 bt1078.2.2.2.2 true a0_0 a0_1 l0_2 bt1064.1 bt1064.2.1 bt1064.2.2.1 bt1072.1 bt1072.2.1 bt1072.2.2 bt1078.1 bt1078.2.1 bt1078.2.2.1)))))) = some r := H
    have A15 := Aside0.mk A150
    clear A150
    replace H := Option.bind_eq_some_iff.mp H
    obtain ⟨⟨t1064, t1065, t1066, t1069, t1070⟩, A160, H⟩ := H
    replace H : ((laws_toRow.f k a0_0 a0_1 l0_2).bind fun bt1072 => ((impl_RowPut.f k bt1072.1 bt1072.2.1 bt1072.2.2 a1 a2 a3 a4).bind fun bt1078 => ((laws_eqRow.f k bt1078.1 bt1078.2.1 bt1078.2.2.1 t1064 t1065 t1066).bind fun t1086 => (if t1086 = true then (if bt1078.2.2.2.1 = t1069 then (laws_FnExactRowPut.j0 k a1 a2 a3 a4 t1069 t1070 bt1078.2.2.2.1 bt1078.2.2.2.2 (bt1078.2.2.2.2 != t1070) a0_0 a0_1 l0_2 t1064 t1065 t1066 bt1072.1 bt1072.2.1 bt1072.2.2 bt1078.1 bt1078.2.1 bt1078.2.2.1) else (laws_FnExactRowPut.j0 k a1 a2 a3 a4 t1069 t1070 bt1078.2.2.2.1 bt1078.2.2.2.2 true a0_0 a0_1 l0_2 t1064 t1065 t1066 bt1072.1 bt1072.2.1 bt1072.2.2 bt1078.1 bt1078.2.1 bt1078.2.2.1)) else (laws_FnExactRowPut.j0 k a1 a2 a3 a4 t1069 t1070 bt1078.2.2.2.1 bt1078.2.2.2.2 true a0_0 a0_1 l0_2 t1064 t1065 t1066 bt1072.1 bt1072.2.1 bt1072.2.2 bt1078.1 bt1078.2.1 bt1078.2.2.1))))) = some r := H
    have A16 := Aside0.mk A160
    clear A160
    replace H := Option.bind_eq_some_iff.mp H
    obtain ⟨⟨t1072, t1073, t1074⟩, A170, H⟩ := H
    replace H : ((impl_RowPut.f k t1072 t1073 t1074 a1 a2 a3 a4).bind fun bt1078 => ((laws_eqRow.f k bt1078.1 bt1078.2.1 bt1078.2.2.1 t1064 t1065 t1066).bind fun t1086 => (if t1086 = true then (if bt1078.2.2.2.1 = t1069 then (laws_FnExactRowPut.j0 k a1 a2 a3 a4 t1069 t1070 bt1078.2.2.2.1 bt1078.2.2.2.2 (bt1078.2.2.2.2 != t1070) a0_0 a0_1 l0_2 t1064 t1065 t1066 t1072 t1073 t1074 bt1078.1 bt1078.2.1 bt1078.2.2.1) else (laws_FnExactRowPut.j0 k a1 a2 a3 a4 t1069 t1070 bt1078.2.2.2.1 bt1078.2.2.2.2 true a0_0 a0_1 l0_2 t1064 t1065 t1066 t1072 t1073 t1074 bt1078.1 bt1078.2.1 bt1078.2.2.1)) else (laws_FnExactRowPut.j0 k a1 a2 a3 a4 t1069 t1070 bt1078.2.2.2.1 bt1078.2.2.2.2 true a0_0 a0_1 l0_2 t1064 t1065 t1066 t1072 t1073 t1074 bt1078.1 bt1078.2.1 bt1078.2.2.1)))) = some r := H
    have A17 := Aside0.mk A170
    clear A170
    replace H := Option.bind_eq_some_iff.mp H
    obtain ⟨⟨t1078, t1079, t1080, t1083, t1084⟩, A180, H⟩ := H
    replace H : ((laws_eqRow.f k t1078 t1079 t1080 t1064 t1065 t1066).bind fun t1086 => (if t1086 = true then (if t1083 = t1069 then (laws_FnExactRowPut.j0 k a1 a2 a3 a4 t1069 t1070 t1083 t1084 (t1084 != t1070) a0_0 a0_1 l0_2 t1064 t1065 t1066 t1072 t1073 t1074 t1078 t1079 t1080) else (laws_FnExactRowPut.j0 k a1 a2 a3 a4 t1069 t1070 t1083 t1084 true a0_0 a0_1 l0_2 t1064 t1065 t1066 t1072 t1073 t1074 t1078 t1079 t1080)) else (laws_FnExactRowPut.j0 k a1 a2 a3 a4 t1069 t1070 t1083 t1084 true a0_0 a0_1 l0_2 t1064 t1065 t1066 t1072 t1073 t1074 t1078 t1079 t1080))) = some r := H
    have A18 := Aside0.mk A180
    clear A180
    have HC19 := Aside0.mk H
    clear H
    go_enter Try.func5, Try.ntmps5
    go_upto_region 12 with (first | ((with_reducible refine gate_dst (N := 5) rfl ?_); refine box_event ?hg (N := 5) ?hd (cs := #[.int .i64 a0_0, .int .i64 a0_1, .slice A0_2 l0_2.length c0_2]) (t := 53) ?hr ?_; (case hd => rfl); (case hg => rfl); (case hr => first | (go_simp; done) | (go_simp; rfl)); intro gb1057 hg w20 hbox hb; have n0_ := Aside0.mk (below_step (hb_ HB.out) hb); have n1_ := Aside0.mk (hbox); have n2_ := Aside0.mk ((by rw [hg]; exact (below_size (hb_ HB.out)) : w.heap.size ≤ gb1057)); have n3_ := Aside0.mk ((by rw [hg]; exact (below_size (hb_ HB.out)) : w.heap.size ≤ gb1057)); clear HB; have HB := n0_; have BK1057 := n1_; have GW1057 := n2_; have GE1057 := n3_; clear n0_ n1_ n2_ n3_; clear hb hbox hg; have hcz21_0 : w20.cell? ⟨gb1057, 0, none⟩ = some (.int .i64 a0_0) := (blk_cell BK1057.out 0).trans rfl; have hcz21_1 : w20.cell? ⟨gb1057, 1, none⟩ = some (.int .i64 a0_1) := (blk_cell BK1057.out 1).trans rfl; have hcz21_2 : w20.cell? ⟨gb1057, 2, none⟩ = some (.slice A0_2 l0_2.length c0_2) := (blk_cell BK1057.out 2).trans rfl; have hfz21_0 := blk_frozen BK1057.out 0; have hfz21_1 := blk_frozen BK1057.out 1; have hfz21_2 := blk_frozen BK1057.out 2) | ((with_reducible refine gate_callee (f := 29) rfl ?_); refine goesL_ (some 33) rfl rfl Try.func29 (by kernel_rfl) rfl #[.agg #[.int .i64 a0_0, .int .i64 a0_1, .slice A0_2 l0_2.length c0_2], .int .i64 1048576] rfl sm_ ?_; (with_reducible refine (laws_szRow.calls k a0_0 a0_1 _ _ l0_2 1048576 t1058 _ ?side1 ?side2 A10.out).mono ?_); (case side1 => repeat (first | exact (Kd.C_below HR0_2.out HB.out) | (with_reducible refine Kd.C_alloc ?_ _) | (with_reducible refine Kd.C_drewN ?_ _) | (with_reducible refine Kd.C_drew ?_))); (case side2 => exact HC0_2.out); rintro e w22 ⟨rfl, hb⟩; refine ⟨_, rfl, ?_⟩; have n0_ := Aside0.mk (bb_ BK1057.out hb); have n1_ := Aside0.mk (below_step (hb_ HB.out) hb); clear BK1057; clear HB; have BK1057 := n0_; have HB := n1_; clear n0_ n1_; (try clear hb); (try clear hb2); (try clear hk); (try clear hi); have hcz23_0 : w22.cell? ⟨gb1057, 0, none⟩ = some (.int .i64 a0_0) := (blk_cell BK1057.out 0).trans rfl; have hcz23_1 : w22.cell? ⟨gb1057, 1, none⟩ = some (.int .i64 a0_1) := (blk_cell BK1057.out 1).trans rfl; have hcz23_2 : w22.cell? ⟨gb1057, 2, none⟩ = some (.slice A0_2 l0_2.length c0_2) := (blk_cell BK1057.out 2).trans rfl; have hfz23_0 := blk_frozen BK1057.out 0; have hfz23_1 := blk_frozen BK1057.out 1; have hfz23_2 := blk_frozen BK1057.out 2) | ((with_reducible refine gate_callee (f := 31) rfl ?_); refine goesL_ (some 38) rfl rfl Try.func31 (by kernel_rfl) rfl #[.agg #[.int .i64 a0_0, .int .i64 a0_1, .slice A0_2 l0_2.length c0_2]] rfl sm_ ?_; (with_reducible refine (laws_toRow.calls k a0_0 a0_1 _ _ l0_2 t1059 t1060 t1061 _ ?side1 ?side2 A15.out).mono ?_); (case side1 => repeat (first | exact (Kd.C_below HR0_2.out HB.out) | (with_reducible refine Kd.C_alloc ?_ _) | (with_reducible refine Kd.C_drewN ?_ _) | (with_reducible refine Kd.C_drew ?_))); (case side2 => exact HC0_2.out); rintro e w24 ⟨v1062, rfl, ho0, hb⟩; refine ⟨_, rfl, ?_⟩; have n0_ := Aside0.mk (Kd.R_lower ho0 (below_size (hb_ HB.out))); have n1_ := Aside0.mk (bb_ BK1057.out hb); have n2_ := Aside0.mk (below_step (hb_ HB.out) hb); clear BK1057; clear HB; have HO1063 := n0_; have BK1057 := n1_; have HB := n2_; clear n0_ n1_ n2_; (try clear hb); (try clear hb2); (try clear hk); (try clear hi); (try clear ho0); obtain ⟨Ao25, co25, eo25⟩ := Kd.R_slice HO1063.out; subst eo25) | ((with_reducible refine gate_callee (f := 30) rfl ?_); refine goesL_ (some 43) rfl rfl Try.func30 (by kernel_rfl) rfl #[.agg #[.int .i64 t1059, .int .i64 t1060, .slice Ao25 t1061.length co25], .string a1, .string a2, .int .i64 a3, .int .i64 a4] rfl sm_ ?_; (with_reducible refine (spec_RowPut.calls k t1059 t1060 _ _ t1061 a1 a2 a3 a4 t1064 t1065 t1066 t1069 t1070 _ ?side1 ?side2 A16.out).mono ?_); (case side1 => repeat (first | exact (Kd.R_reads' HO1063.out).2.2 | (with_reducible refine Kd.C_alloc ?_ _) | (with_reducible refine Kd.C_drewN ?_ _) | (with_reducible refine Kd.C_drew ?_))); (case side2 => exact (Kd.R_reads' HO1063.out).2.1); rintro e w26 ⟨v1067, rfl, ho0, hb⟩; refine ⟨_, rfl, ?_⟩; have n0_ := Aside0.mk (Kd.R_elder' (rq_ HO1063.out) (Kd.R_base ho0) hb); have n1_ := Aside0.mk (Kd.R_lower (Kd.R_new' ho0 (Kd.R_lt (rq_ HO1063.out))) (below_size (hb_ HB.out))); have n2_ := Aside0.mk (bb_ BK1057.out hb); have n3_ := Aside0.mk (below_step (hb_ HB.out) hb); clear HO1063; clear BK1057; clear HB; have HO1063 := n0_; have HO1068 := n1_; have BK1057 := n2_; have HB := n3_; clear n0_ n1_ n2_ n3_; (try clear hb); (try clear hb2); (try clear hk); (try clear hi); (try clear ho0)) | ((with_reducible refine gate_dst (N := 12) rfl ?_); refine box_event ?hg (N := 12) ?hd (cs := #[.int .i64 0, .int .i64 0, .slice none 0 0]) (t := 57) ?hr ?_; (case hd => rfl); (case hg => rfl); (case hr => first | (go_simp; done) | (go_simp; rfl)); intro gb1071 hg w27 hbox hb; have n0_ := Aside0.mk (Kd.R_below (rq_ HO1063.out) hb); have n1_ := Aside0.mk (Kd.R_below (rq_ HO1068.out) hb); have n2_ := Aside0.mk (bb_ BK1057.out hb); have n3_ := Aside0.mk (below_step (hb_ HB.out) hb); have n4_ := Aside0.mk (hbox); have n5_ := Aside0.mk ((by rw [hg]; exact (below_size (hb_ HB.out)) : w.heap.size ≤ gb1071)); have n6_ := Aside0.mk ((by rw [hg]; exact (below_size (hb_ HB.out)) : w.heap.size ≤ gb1071)); have n7_ := Aside0.mk ((by rw [hg]; exact Nat.ne_of_lt (blk_lt (g := gb1057) (o := .cells #[.int .i64 a0_0, .int .i64 a0_1, .slice A0_2 l0_2.length c0_2] 53 (0, 0)) (bq_ BK1057.out)) : gb1057 ≠ gb1071)); have n8_ := Aside0.mk ((by rw [hg]; exact Nat.ne_of_gt (blk_lt (g := gb1057) (o := .cells #[.int .i64 a0_0, .int .i64 a0_1, .slice A0_2 l0_2.length c0_2] 53 (0, 0)) (bq_ BK1057.out)) : gb1071 ≠ gb1057)); clear HO1063; clear HO1068; clear BK1057; clear HB; have HO1063 := n0_; have HO1068 := n1_; have BK1057 := n2_; have HB := n3_; have BK1071 := n4_; have GW1071 := n5_; have GE1071 := n6_; have NB1057_1071 := n7_; have NB1071_1057 := n8_; clear n0_ n1_ n2_ n3_ n4_ n5_ n6_ n7_ n8_; clear hb hbox hg; have hnb28 := NB1071_1057.out; have hnc28 := NB1057_1071.out; have hcz29_0 : w27.cell? ⟨gb1071, 0, none⟩ = some (.int .i64 0) := (blk_cell BK1071.out 0).trans rfl; have hcz29_1 : w27.cell? ⟨gb1071, 1, none⟩ = some (.int .i64 0) := (blk_cell BK1071.out 1).trans rfl; have hcz29_2 : w27.cell? ⟨gb1071, 2, none⟩ = some (.slice none 0 0) := (blk_cell BK1071.out 2).trans rfl; have hfz29_0 := blk_frozen BK1071.out 0; have hfz29_1 := blk_frozen BK1071.out 1; have hfz29_2 := blk_frozen BK1071.out 2; obtain ⟨Ao30, co30, eo30⟩ := Kd.R_slice HO1068.out; subst eo30; have hcz31_0 : w27.cell? ⟨gb1057, 0, none⟩ = some (.int .i64 a0_0) := (blk_cell BK1057.out 0).trans rfl; have hcz31_1 : w27.cell? ⟨gb1057, 1, none⟩ = some (.int .i64 a0_1) := (blk_cell BK1057.out 1).trans rfl; have hcz31_2 : w27.cell? ⟨gb1057, 2, none⟩ = some (.slice A0_2 l0_2.length c0_2) := (blk_cell BK1057.out 2).trans rfl; have hfz31_0 := blk_frozen BK1057.out 0; have hfz31_1 := blk_frozen BK1057.out 1; have hfz31_2 := blk_frozen BK1057.out 2) | ((with_reducible refine gate_callee (f := 31) rfl ?_); refine goesL_ (some 48) rfl rfl Try.func31 (by kernel_rfl) rfl #[.agg #[.int .i64 a0_0, .int .i64 a0_1, .slice A0_2 l0_2.length c0_2]] rfl sm_ ?_; (with_reducible refine (laws_toRow.calls k a0_0 a0_1 _ _ l0_2 t1072 t1073 t1074 _ ?side1 ?side2 A17.out).mono ?_); (case side1 => exact Kd.C_below HR0_2.out (hb_ HB.out)); (case side2 => exact HC0_2.out); rintro e w32 ⟨v1075, rfl, ho0, hb⟩; refine ⟨_, rfl, ?_⟩; have n0_ := Aside0.mk (Kd.R_elder' (rk_ HO1063.out BK1071.out) (Kd.R_base ho0) hb); have n1_ := Aside0.mk (Kd.R_elder' (rk_ HO1068.out BK1071.out) (Kd.R_base ho0) hb); have n2_ := Aside0.mk (Kd.R_lower (Kd.R_new' (Kd.R_new' ho0 (Kd.R_lt (rk_ HO1063.out BK1071.out))) (Kd.R_lt (rk_ HO1068.out BK1071.out))) (below_size (hb_ HB.out))); have n3_ := Aside0.mk (blk_below (g := gb1057) (o := .cells #[.int .i64 a0_0, .int .i64 a0_1, .slice A0_2 l0_2.length c0_2] 53 (0, 0)) (bf_ NB1057_1071.out BK1057.out) hb); have n4_ := Aside0.mk (blk_below (g := gb1071) (o := .cells #[.int .i64 t1064, .int .i64 t1065, .slice Ao30 t1066.length co30] 57 (0, 0)) (bp_ BK1071.out) hb); have n5_ := Aside0.mk (below_step (hb_ HB.out) hb); clear HO1063; clear HO1068; clear BK1057; clear BK1071; clear HB; have HO1063 := n0_; have HO1068 := n1_; have HO1076 := n2_; have BK1057 := n3_; have BK1071 := n4_; have HB := n5_; clear n0_ n1_ n2_ n3_ n4_ n5_; (try clear hb); (try clear hb2); (try clear hk); (try clear hi); (try clear ho0)) | ((with_reducible refine gate_dst (N := 15) rfl ?_); refine box_event ?hg (N := 15) ?hd (cs := #[.int .i64 0, .int .i64 0, .slice none 0 0]) (t := 57) ?hr ?_; (case hd => rfl); (case hg => rfl); (case hr => first | (go_simp; done) | (go_simp; rfl)); intro gb1077 hg w33 hbox hb; have n0_ := Aside0.mk (Kd.R_below (rq_ HO1063.out) hb); have n1_ := Aside0.mk (Kd.R_below (rq_ HO1068.out) hb); have n2_ := Aside0.mk (Kd.R_below (rq_ HO1076.out) hb); have n3_ := Aside0.mk (bb_ BK1057.out hb); have n4_ := Aside0.mk (bb_ BK1071.out hb); have n5_ := Aside0.mk (below_step (hb_ HB.out) hb); have n6_ := Aside0.mk (hbox); have n7_ := Aside0.mk ((by rw [hg]; exact (below_size (hb_ HB.out)) : w.heap.size ≤ gb1077)); have n8_ := Aside0.mk ((by rw [hg]; exact (below_size (hb_ HB.out)) : w.heap.size ≤ gb1077)); have n9_ := Aside0.mk ((by rw [hg]; exact Nat.ne_of_lt (blk_lt (g := gb1057) (o := .cells #[.int .i64 a0_0, .int .i64 a0_1, .slice A0_2 l0_2.length c0_2] 53 (0, 0)) (bq_ BK1057.out)) : gb1057 ≠ gb1077)); have n10_ := Aside0.mk ((by rw [hg]; exact Nat.ne_of_gt (blk_lt (g := gb1057) (o := .cells #[.int .i64 a0_0, .int .i64 a0_1, .slice A0_2 l0_2.length c0_2] 53 (0, 0)) (bq_ BK1057.out)) : gb1077 ≠ gb1057)); have n11_ := Aside0.mk ((by rw [hg]; exact Nat.ne_of_lt (blk_lt (g := gb1071) (o := .cells #[.int .i64 t1064, .int .i64 t1065, .slice Ao30 t1066.length co30] 57 (0, 0)) (bq_ BK1071.out)) : gb1071 ≠ gb1077)); have n12_ := Aside0.mk ((by rw [hg]; exact Nat.ne_of_gt (blk_lt (g := gb1071) (o := .cells #[.int .i64 t1064, .int .i64 t1065, .slice Ao30 t1066.length co30] 57 (0, 0)) (bq_ BK1071.out)) : gb1077 ≠ gb1071)); clear HO1063; clear HO1068; clear HO1076; clear BK1057; clear BK1071; clear HB; have HO1063 := n0_; have HO1068 := n1_; have HO1076 := n2_; have BK1057 := n3_; have BK1071 := n4_; have HB := n5_; have BK1077 := n6_; have GW1077 := n7_; have GE1077 := n8_; have NB1057_1077 := n9_; have NB1077_1057 := n10_; have NB1071_1077 := n11_; have NB1077_1071 := n12_; clear n0_ n1_ n2_ n3_ n4_ n5_ n6_ n7_ n8_ n9_ n10_ n11_ n12_; clear hb hbox hg; have hnb34 := NB1077_1057.out; have hnc34 := NB1057_1077.out; have hnb35 := NB1077_1071.out; have hnc35 := NB1071_1077.out; have hcz36_0 : w33.cell? ⟨gb1077, 0, none⟩ = some (.int .i64 0) := (blk_cell BK1077.out 0).trans rfl; have hcz36_1 : w33.cell? ⟨gb1077, 1, none⟩ = some (.int .i64 0) := (blk_cell BK1077.out 1).trans rfl; have hcz36_2 : w33.cell? ⟨gb1077, 2, none⟩ = some (.slice none 0 0) := (blk_cell BK1077.out 2).trans rfl; have hfz36_0 := blk_frozen BK1077.out 0; have hfz36_1 := blk_frozen BK1077.out 1; have hfz36_2 := blk_frozen BK1077.out 2; obtain ⟨Ao37, co37, eo37⟩ := Kd.R_slice HO1076.out; subst eo37) | ((with_reducible refine gate_callee (f := 32) rfl ?_); refine goesL_ (some 55) rfl rfl Try.func32 (by kernel_rfl) rfl #[.agg #[.int .i64 t1072, .int .i64 t1073, .slice Ao37 t1074.length co37], .string a1, .string a2, .int .i64 a3, .int .i64 a4] rfl sm_ ?_; (with_reducible refine (impl_RowPut.calls k t1072 t1073 _ _ t1074 a1 a2 a3 a4 t1078 t1079 t1080 t1083 t1084 _ ?side1 ?side2 A18.out).mono ?_); (case side1 => refine (Kd.R_reads' (e := 69) (base := w.heap.size) (ok := fun k_ => ((True ∧ some k_ ≠ (.slice Ao25 t1061.length co25 : Value).ownBlock) ∧ some k_ ≠ (.slice Ao30 t1066.length co30 : Value).ownBlock)) (n := t1074.length) (c := co37) ?_).2.2; exact (rk_ HO1076.out BK1077.out)); (case side2 => exact (Kd.R_reads' HO1076.out).2.1); rintro e w38 ⟨v1081, rfl, ho0, hb⟩; refine ⟨_, rfl, ?_⟩; have n0_ := Aside0.mk (Kd.R_elder' (rk_ HO1063.out BK1077.out) (Kd.R_base ho0) hb); have n1_ := Aside0.mk (Kd.R_elder' (rk_ HO1068.out BK1077.out) (Kd.R_base ho0) hb); have n2_ := Aside0.mk (Kd.R_elder' (rk_ HO1076.out BK1077.out) (Kd.R_base ho0) hb); have n3_ := Aside0.mk (Kd.R_lower (Kd.R_new' (Kd.R_new' (Kd.R_new' ho0 (Kd.R_lt (rk_ HO1063.out BK1077.out))) (Kd.R_lt (rk_ HO1068.out BK1077.out))) (Kd.R_lt (rk_ HO1076.out BK1077.out))) (below_size (hb_ HB.out))); have n4_ := Aside0.mk (blk_below (g := gb1057) (o := .cells #[.int .i64 a0_0, .int .i64 a0_1, .slice A0_2 l0_2.length c0_2] 53 (0, 0)) (bf_ NB1057_1077.out BK1057.out) hb); have n5_ := Aside0.mk (blk_below (g := gb1071) (o := .cells #[.int .i64 t1064, .int .i64 t1065, .slice Ao30 t1066.length co30] 57 (0, 0)) (bf_ NB1071_1077.out BK1071.out) hb); have n6_ := Aside0.mk (blk_below (g := gb1077) (o := .cells #[.int .i64 t1072, .int .i64 t1073, .slice Ao37 t1074.length co37] 57 (0, 0)) (bp_ BK1077.out) hb); have n7_ := Aside0.mk (below_step (hb_ HB.out) hb); clear HO1063; clear HO1068; clear HO1076; clear BK1057; clear BK1071; clear BK1077; clear HB; have HO1063 := n0_; have HO1068 := n1_; have HO1076 := n2_; have HO1082 := n3_; have BK1057 := n4_; have BK1071 := n5_; have BK1077 := n6_; have HB := n7_; clear n0_ n1_ n2_ n3_ n4_ n5_ n6_ n7_; (try clear hb); (try clear hb2); (try clear hk); (try clear hi); (try clear ho0)) | ((with_reducible refine gate_dst (N := 16) rfl ?_); refine box_event ?hg (N := 16) ?hd (cs := #[.int .i64 0, .int .i64 0, .slice none 0 0]) (t := 57) ?hr ?_; (case hd => rfl); (case hg => rfl); (case hr => first | (go_simp; done) | (go_simp; rfl)); intro gb1085 hg w39 hbox hb; have n0_ := Aside0.mk (Kd.R_below (rq_ HO1063.out) hb); have n1_ := Aside0.mk (Kd.R_below (rq_ HO1068.out) hb); have n2_ := Aside0.mk (Kd.R_below (rq_ HO1076.out) hb); have n3_ := Aside0.mk (Kd.R_below (rq_ HO1082.out) hb); have n4_ := Aside0.mk (bb_ BK1057.out hb); have n5_ := Aside0.mk (bb_ BK1071.out hb); have n6_ := Aside0.mk (bb_ BK1077.out hb); have n7_ := Aside0.mk (below_step (hb_ HB.out) hb); have n8_ := Aside0.mk (hbox); have n9_ := Aside0.mk ((by rw [hg]; exact (below_size (hb_ HB.out)) : w.heap.size ≤ gb1085)); have n10_ := Aside0.mk ((by rw [hg]; exact (below_size (hb_ HB.out)) : w.heap.size ≤ gb1085)); have n11_ := Aside0.mk ((by rw [hg]; exact Nat.ne_of_lt (blk_lt (g := gb1057) (o := .cells #[.int .i64 a0_0, .int .i64 a0_1, .slice A0_2 l0_2.length c0_2] 53 (0, 0)) (bq_ BK1057.out)) : gb1057 ≠ gb1085)); have n12_ := Aside0.mk ((by rw [hg]; exact Nat.ne_of_gt (blk_lt (g := gb1057) (o := .cells #[.int .i64 a0_0, .int .i64 a0_1, .slice A0_2 l0_2.length c0_2] 53 (0, 0)) (bq_ BK1057.out)) : gb1085 ≠ gb1057)); have n13_ := Aside0.mk ((by rw [hg]; exact Nat.ne_of_lt (blk_lt (g := gb1071) (o := .cells #[.int .i64 t1064, .int .i64 t1065, .slice Ao30 t1066.length co30] 57 (0, 0)) (bq_ BK1071.out)) : gb1071 ≠ gb1085)); have n14_ := Aside0.mk ((by rw [hg]; exact Nat.ne_of_gt (blk_lt (g := gb1071) (o := .cells #[.int .i64 t1064, .int .i64 t1065, .slice Ao30 t1066.length co30] 57 (0, 0)) (bq_ BK1071.out)) : gb1085 ≠ gb1071)); have n15_ := Aside0.mk ((by rw [hg]; exact Nat.ne_of_lt (blk_lt (g := gb1077) (o := .cells #[.int .i64 t1072, .int .i64 t1073, .slice Ao37 t1074.length co37] 57 (0, 0)) (bq_ BK1077.out)) : gb1077 ≠ gb1085)); have n16_ := Aside0.mk ((by rw [hg]; exact Nat.ne_of_gt (blk_lt (g := gb1077) (o := .cells #[.int .i64 t1072, .int .i64 t1073, .slice Ao37 t1074.length co37] 57 (0, 0)) (bq_ BK1077.out)) : gb1085 ≠ gb1077)); clear HO1063; clear HO1068; clear HO1076; clear HO1082; clear BK1057; clear BK1071; clear BK1077; clear HB; have HO1063 := n0_; have HO1068 := n1_; have HO1076 := n2_; have HO1082 := n3_; have BK1057 := n4_; have BK1071 := n5_; have BK1077 := n6_; have HB := n7_; have BK1085 := n8_; have GW1085 := n9_; have GE1085 := n10_; have NB1057_1085 := n11_; have NB1085_1057 := n12_; have NB1071_1085 := n13_; have NB1085_1071 := n14_; have NB1077_1085 := n15_; have NB1085_1077 := n16_; clear n0_ n1_ n2_ n3_ n4_ n5_ n6_ n7_ n8_ n9_ n10_ n11_ n12_ n13_ n14_ n15_ n16_; clear hb hbox hg; have hnb40 := NB1085_1057.out; have hnc40 := NB1057_1085.out; have hnb41 := NB1085_1071.out; have hnc41 := NB1071_1085.out; have hnb42 := NB1085_1077.out; have hnc42 := NB1077_1085.out; have hcz43_0 : w39.cell? ⟨gb1085, 0, none⟩ = some (.int .i64 0) := (blk_cell BK1085.out 0).trans rfl; have hcz43_1 : w39.cell? ⟨gb1085, 1, none⟩ = some (.int .i64 0) := (blk_cell BK1085.out 1).trans rfl; have hcz43_2 : w39.cell? ⟨gb1085, 2, none⟩ = some (.slice none 0 0) := (blk_cell BK1085.out 2).trans rfl; have hfz43_0 := blk_frozen BK1085.out 0; have hfz43_1 := blk_frozen BK1085.out 1; have hfz43_2 := blk_frozen BK1085.out 2; obtain ⟨Ao44, co44, eo44⟩ := Kd.R_slice HO1082.out; subst eo44))
    (try simp only [Act.put, List.setIfInBounds_toArray, List.set_cons_zero, List.set_cons_succ])
    go_cut [72] (fun v72 wc => ∃ (kq : Nat) (x72_18 : Bool), v72 = .bool x72_18 ∧ Aside0 (laws_FnExactRowPut.j0 kq a1 a2 a3 a4 t1069 t1070 t1083 t1084 x72_18 a0_0 a0_1 l0_2 t1064 t1065 t1066 t1072 t1073 t1074 t1078 t1079 t1080 = some r) ∧ Aside0 (kq ≤ k) ∧ Aside0 (Kd.R k_Item 69 wc w.heap.size (fun k_ => some k_ ≠ ((.slice Ao37 t1074.length co37) : Value).ownBlock ∧ some k_ ≠ ((.slice Ao44 t1080.length co44) : Value).ownBlock) (.slice Ao30 t1066.length co30) t1066) ∧ Aside0 (Kd.R k_Item 69 wc w.heap.size (fun k_ => some k_ ≠ ((.slice Ao30 t1066.length co30) : Value).ownBlock ∧ some k_ ≠ ((.slice Ao44 t1080.length co44) : Value).ownBlock) (.slice Ao37 t1074.length co37) t1074) ∧ Aside0 (Kd.R k_Item 69 wc w.heap.size (fun k_ => some k_ ≠ ((.slice Ao30 t1066.length co30) : Value).ownBlock ∧ some k_ ≠ ((.slice Ao37 t1074.length co37) : Value).ownBlock) (.slice Ao44 t1080.length co44) t1080) ∧ Aside0 (wc.heap[gb1057]? = some (.cells #[.int .i64 a0_0, .int .i64 a0_1, (.slice A0_2 l0_2.length c0_2)] 53 (0, 0))) ∧ Aside0 (wc.heap[gb1071]? = some (.cells #[.int .i64 t1064, .int .i64 t1065, (.slice Ao30 t1066.length co30)] 57 (0, 0))) ∧ Aside0 (wc.heap[gb1077]? = some (.cells #[.int .i64 t1072, .int .i64 t1073, (.slice Ao37 t1074.length co37)] 57 (0, 0))) ∧ Aside0 (wc.heap[gb1085]? = some (.cells #[.int .i64 t1078, .int .i64 t1079, (.slice Ao44 t1080.length co44)] 57 (0, 0))) ∧ Aside0 (Below w.heap.size w wc))
    case first =>
     have H := HC19.out
     clear HC19
     replace H := Option.bind_eq_some_iff.mp H
     obtain ⟨t1086, A450, H⟩ := H
     replace H : (if t1086 = true then (if t1083 = t1069 then (laws_FnExactRowPut.j0 k a1 a2 a3 a4 t1069 t1070 t1083 t1084 (t1084 != t1070) a0_0 a0_1 l0_2 t1064 t1065 t1066 t1072 t1073 t1074 t1078 t1079 t1080) else (laws_FnExactRowPut.j0 k a1 a2 a3 a4 t1069 t1070 t1083 t1084 true a0_0 a0_1 l0_2 t1064 t1065 t1066 t1072 t1073 t1074 t1078 t1079 t1080)) else (laws_FnExactRowPut.j0 k a1 a2 a3 a4 t1069 t1070 t1083 t1084 true a0_0 a0_1 l0_2 t1064 t1065 t1066 t1072 t1073 t1074 t1078 t1079 t1080)) = some r := H
     have A45 := Aside0.mk A450
     clear A450
     by_cases c46 : t1086 = true
     ·
      subst c46
      have H1 : (if t1083 = t1069 then (laws_FnExactRowPut.j0 k a1 a2 a3 a4 t1069 t1070 t1083 t1084 (t1084 != t1070) a0_0 a0_1 l0_2 t1064 t1065 t1066 t1072 t1073 t1074 t1078 t1079 t1080) else (laws_FnExactRowPut.j0 k a1 a2 a3 a4 t1069 t1070 t1083 t1084 true a0_0 a0_1 l0_2 t1064 t1065 t1066 t1072 t1073 t1074 t1078 t1079 t1080)) = some r := by rw [if_pos rfl] at H; exact H
      clear H
      have H := H1
      clear H1
      by_cases c47 : t1083 = t1069
      ·
       rw [if_pos c47] at H
       have c47b0 : (t1083 == t1069) = true := beq_iff_eq.mpr c47
       have c47b1 : (t1083 != t1069) = false := bne_eq_false_iff_eq.mpr c47
       clear c47
       (first | rw [c47b0] | (simp only [i64_w, i32_w]; rw [c47b0]) | rw [c47b4] | rw [c47b3] | skip)
       have H' := Aside0.mk H
       clear H
       have hnb48 := NB1085_1057.out
       have hnc48 := NB1057_1085.out
       have hnb49 := NB1085_1071.out
       have hnc49 := NB1071_1085.out
       have hnb50 := NB1085_1077.out
       have hnc50 := NB1077_1085.out
       have hcz51_0 : w39.cell? ⟨gb1085, 0, none⟩ = some (.int .i64 0) := (blk_cell BK1085.out 0).trans rfl
       have hcz51_1 : w39.cell? ⟨gb1085, 1, none⟩ = some (.int .i64 0) := (blk_cell BK1085.out 1).trans rfl
       have hcz51_2 : w39.cell? ⟨gb1085, 2, none⟩ = some (.slice none 0 0) := (blk_cell BK1085.out 2).trans rfl
       have hfz51_0 := blk_frozen BK1085.out 0
       have hfz51_1 := blk_frozen BK1085.out 1
       have hfz51_2 := blk_frozen BK1085.out 2
       have hnb52 := NB1071_1057.out
       have hnc52 := NB1057_1071.out
       have hnb53 := NB1071_1077.out
       have hnc53 := NB1077_1071.out
       have hcz54_0 : w39.cell? ⟨gb1071, 0, none⟩ = some (.int .i64 t1064) := (blk_cell BK1071.out 0).trans rfl
       have hcz54_1 : w39.cell? ⟨gb1071, 1, none⟩ = some (.int .i64 t1065) := (blk_cell BK1071.out 1).trans rfl
       have hcz54_2 : w39.cell? ⟨gb1071, 2, none⟩ = some (.slice Ao30 t1066.length co30) := (blk_cell BK1071.out 2).trans rfl
       have hfz54_0 := blk_frozen BK1071.out 0
       have hfz54_1 := blk_frozen BK1071.out 1
       have hfz54_2 := blk_frozen BK1071.out 2
       go_wp2_with (first | ((with_reducible refine gate_callee (f := 33) rfl ?_); refine goesL_ (some 61) rfl rfl Try.func33 (by kernel_rfl) rfl #[.agg #[.int .i64 t1078, .int .i64 t1079, .slice Ao44 t1080.length co44], .agg #[.int .i64 t1064, .int .i64 t1065, .slice Ao30 t1066.length co30]] rfl sm_ ?_; (with_reducible refine (laws_eqRow.calls k t1078 t1079 _ _ t1080 t1064 t1065 _ _ t1066 true _ ?side1 ?side2 ?side3 ?side4 A45.out).mono ?_); (case side1 => refine (Kd.R_reads' (e := 69) (base := w.heap.size) (ok := fun k_ => (((True ∧ some k_ ≠ (.slice Ao25 t1061.length co25 : Value).ownBlock) ∧ some k_ ≠ (.slice Ao30 t1066.length co30 : Value).ownBlock) ∧ some k_ ≠ (.slice Ao37 t1074.length co37 : Value).ownBlock)) (n := t1080.length) (c := co44) ?_).2.2; exact (rk_ HO1082.out BK1085.out)); (case side2 => exact (Kd.R_reads' HO1082.out).2.1); (case side3 => refine (Kd.R_reads' (e := 69) (base := w.heap.size) (ok := fun k_ => (((True ∧ some k_ ≠ (.slice Ao25 t1061.length co25 : Value).ownBlock) ∧ some k_ ≠ (.slice Ao37 t1074.length co37 : Value).ownBlock) ∧ some k_ ≠ (.slice Ao44 t1080.length co44 : Value).ownBlock)) (n := t1066.length) (c := co30) ?_).2.2; exact (rk_ HO1068.out BK1085.out)); (case side4 => exact (Kd.R_reads' HO1068.out).2.1); rintro e w55 ⟨rfl, hb⟩; refine ⟨_, rfl, ?_⟩; have n0_ := Aside0.mk (Kd.R_below (rk_ HO1063.out BK1085.out) hb); have n1_ := Aside0.mk (Kd.R_below (rk_ HO1068.out BK1085.out) hb); have n2_ := Aside0.mk (Kd.R_below (rk_ HO1076.out BK1085.out) hb); have n3_ := Aside0.mk (Kd.R_below (rk_ HO1082.out BK1085.out) hb); have n4_ := Aside0.mk (blk_below (g := gb1057) (o := .cells #[.int .i64 a0_0, .int .i64 a0_1, .slice A0_2 l0_2.length c0_2] 53 (0, 0)) (bf_ NB1057_1085.out BK1057.out) hb); have n5_ := Aside0.mk (blk_below (g := gb1071) (o := .cells #[.int .i64 t1064, .int .i64 t1065, .slice Ao30 t1066.length co30] 57 (0, 0)) (bf_ NB1071_1085.out BK1071.out) hb); have n6_ := Aside0.mk (blk_below (g := gb1077) (o := .cells #[.int .i64 t1072, .int .i64 t1073, .slice Ao37 t1074.length co37] 57 (0, 0)) (bf_ NB1077_1085.out BK1077.out) hb); have n7_ := Aside0.mk (blk_below (g := gb1085) (o := .cells #[.int .i64 t1078, .int .i64 t1079, .slice Ao44 t1080.length co44] 57 (0, 0)) (bp_ BK1085.out) hb); have n8_ := Aside0.mk (below_step (hb_ HB.out) hb); clear HO1063; clear HO1068; clear HO1076; clear HO1082; clear BK1057; clear BK1071; clear BK1077; clear BK1085; clear HB; have HO1063 := n0_; have HO1068 := n1_; have HO1076 := n2_; have HO1082 := n3_; have BK1057 := n4_; have BK1071 := n5_; have BK1077 := n6_; have BK1085 := n7_; have HB := n8_; clear n0_ n1_ n2_ n3_ n4_ n5_ n6_ n7_ n8_; (try clear hb); (try clear hb2); (try clear hk); (try clear hi)))
       go_meet
       case rel => exact ⟨_, ((t1084 != t1070)), (by first | rfl | (simp; done) | (simp [*]; done)), H', ⟨by first | omega | exact Nat.le_refl _⟩, ⟨rm_ HO1068.out⟩, ⟨rm_ HO1076.out⟩, ⟨rm_ HO1082.out⟩, ⟨bq_ BK1057.out⟩, ⟨bq_ BK1071.out⟩, ⟨bq_ BK1077.out⟩, ⟨bq_ BK1085.out⟩, ⟨hb_ HB.out⟩⟩
      ·
       rw [if_neg c47] at H
       have c47b0 : (t1083 == t1069) = false := beq_eq_false_iff_ne.mpr c47
       have c47b1 : (t1083 != t1069) = true := bne_iff_ne.mpr c47
       (first | rw [c47b0] | (simp only [i64_w, i32_w]; rw [c47b0]) | rw [c47b4] | rw [c47b3] | skip)
       have H' := Aside0.mk H
       clear H
       have hnb56 := NB1085_1057.out
       have hnc56 := NB1057_1085.out
       have hnb57 := NB1085_1071.out
       have hnc57 := NB1071_1085.out
       have hnb58 := NB1085_1077.out
       have hnc58 := NB1077_1085.out
       have hcz59_0 : w39.cell? ⟨gb1085, 0, none⟩ = some (.int .i64 0) := (blk_cell BK1085.out 0).trans rfl
       have hcz59_1 : w39.cell? ⟨gb1085, 1, none⟩ = some (.int .i64 0) := (blk_cell BK1085.out 1).trans rfl
       have hcz59_2 : w39.cell? ⟨gb1085, 2, none⟩ = some (.slice none 0 0) := (blk_cell BK1085.out 2).trans rfl
       have hfz59_0 := blk_frozen BK1085.out 0
       have hfz59_1 := blk_frozen BK1085.out 1
       have hfz59_2 := blk_frozen BK1085.out 2
       have hnb60 := NB1071_1057.out
       have hnc60 := NB1057_1071.out
       have hnb61 := NB1071_1077.out
       have hnc61 := NB1077_1071.out
       have hcz62_0 : w39.cell? ⟨gb1071, 0, none⟩ = some (.int .i64 t1064) := (blk_cell BK1071.out 0).trans rfl
       have hcz62_1 : w39.cell? ⟨gb1071, 1, none⟩ = some (.int .i64 t1065) := (blk_cell BK1071.out 1).trans rfl
       have hcz62_2 : w39.cell? ⟨gb1071, 2, none⟩ = some (.slice Ao30 t1066.length co30) := (blk_cell BK1071.out 2).trans rfl
       have hfz62_0 := blk_frozen BK1071.out 0
       have hfz62_1 := blk_frozen BK1071.out 1
       have hfz62_2 := blk_frozen BK1071.out 2
       go_wp2_with (first | ((with_reducible refine gate_callee (f := 33) rfl ?_); refine goesL_ (some 61) rfl rfl Try.func33 (by kernel_rfl) rfl #[.agg #[.int .i64 t1078, .int .i64 t1079, .slice Ao44 t1080.length co44], .agg #[.int .i64 t1064, .int .i64 t1065, .slice Ao30 t1066.length co30]] rfl sm_ ?_; (with_reducible refine (laws_eqRow.calls k t1078 t1079 _ _ t1080 t1064 t1065 _ _ t1066 true _ ?side1 ?side2 ?side3 ?side4 A45.out).mono ?_); (case side1 => refine (Kd.R_reads' (e := 69) (base := w.heap.size) (ok := fun k_ => (((True ∧ some k_ ≠ (.slice Ao25 t1061.length co25 : Value).ownBlock) ∧ some k_ ≠ (.slice Ao30 t1066.length co30 : Value).ownBlock) ∧ some k_ ≠ (.slice Ao37 t1074.length co37 : Value).ownBlock)) (n := t1080.length) (c := co44) ?_).2.2; exact (rk_ HO1082.out BK1085.out)); (case side2 => exact (Kd.R_reads' HO1082.out).2.1); (case side3 => refine (Kd.R_reads' (e := 69) (base := w.heap.size) (ok := fun k_ => (((True ∧ some k_ ≠ (.slice Ao25 t1061.length co25 : Value).ownBlock) ∧ some k_ ≠ (.slice Ao37 t1074.length co37 : Value).ownBlock) ∧ some k_ ≠ (.slice Ao44 t1080.length co44 : Value).ownBlock)) (n := t1066.length) (c := co30) ?_).2.2; exact (rk_ HO1068.out BK1085.out)); (case side4 => exact (Kd.R_reads' HO1068.out).2.1); rintro e w63 ⟨rfl, hb⟩; refine ⟨_, rfl, ?_⟩; have n0_ := Aside0.mk (Kd.R_below (rk_ HO1063.out BK1085.out) hb); have n1_ := Aside0.mk (Kd.R_below (rk_ HO1068.out BK1085.out) hb); have n2_ := Aside0.mk (Kd.R_below (rk_ HO1076.out BK1085.out) hb); have n3_ := Aside0.mk (Kd.R_below (rk_ HO1082.out BK1085.out) hb); have n4_ := Aside0.mk (blk_below (g := gb1057) (o := .cells #[.int .i64 a0_0, .int .i64 a0_1, .slice A0_2 l0_2.length c0_2] 53 (0, 0)) (bf_ NB1057_1085.out BK1057.out) hb); have n5_ := Aside0.mk (blk_below (g := gb1071) (o := .cells #[.int .i64 t1064, .int .i64 t1065, .slice Ao30 t1066.length co30] 57 (0, 0)) (bf_ NB1071_1085.out BK1071.out) hb); have n6_ := Aside0.mk (blk_below (g := gb1077) (o := .cells #[.int .i64 t1072, .int .i64 t1073, .slice Ao37 t1074.length co37] 57 (0, 0)) (bf_ NB1077_1085.out BK1077.out) hb); have n7_ := Aside0.mk (blk_below (g := gb1085) (o := .cells #[.int .i64 t1078, .int .i64 t1079, .slice Ao44 t1080.length co44] 57 (0, 0)) (bp_ BK1085.out) hb); have n8_ := Aside0.mk (below_step (hb_ HB.out) hb); clear HO1063; clear HO1068; clear HO1076; clear HO1082; clear BK1057; clear BK1071; clear BK1077; clear BK1085; clear HB; have HO1063 := n0_; have HO1068 := n1_; have HO1076 := n2_; have HO1082 := n3_; have BK1057 := n4_; have BK1071 := n5_; have BK1077 := n6_; have BK1085 := n7_; have HB := n8_; clear n0_ n1_ n2_ n3_ n4_ n5_ n6_ n7_ n8_; (try clear hb); (try clear hb2); (try clear hk); (try clear hi)))
       go_meet
       case rel => exact ⟨_, (true), (by first | rfl | (simp; done) | (simp [*]; done)), H', ⟨by first | omega | exact Nat.le_refl _⟩, ⟨rm_ HO1068.out⟩, ⟨rm_ HO1076.out⟩, ⟨rm_ HO1082.out⟩, ⟨bq_ BK1057.out⟩, ⟨bq_ BK1071.out⟩, ⟨bq_ BK1077.out⟩, ⟨bq_ BK1085.out⟩, ⟨hb_ HB.out⟩⟩
     ·
      replace c46 := Bool.eq_false_iff.mpr c46
      subst c46
      have H1 : (laws_FnExactRowPut.j0 k a1 a2 a3 a4 t1069 t1070 t1083 t1084 true a0_0 a0_1 l0_2 t1064 t1065 t1066 t1072 t1073 t1074 t1078 t1079 t1080) = some r := by rw [if_neg (show ¬ (false = true) by decide)] at H; exact H
      clear H
      have H := H1
      clear H1
      have H' := Aside0.mk H
      clear H
      have hnb64 := NB1085_1057.out
      have hnc64 := NB1057_1085.out
      have hnb65 := NB1085_1071.out
      have hnc65 := NB1071_1085.out
      have hnb66 := NB1085_1077.out
      have hnc66 := NB1077_1085.out
      have hcz67_0 : w39.cell? ⟨gb1085, 0, none⟩ = some (.int .i64 0) := (blk_cell BK1085.out 0).trans rfl
      have hcz67_1 : w39.cell? ⟨gb1085, 1, none⟩ = some (.int .i64 0) := (blk_cell BK1085.out 1).trans rfl
      have hcz67_2 : w39.cell? ⟨gb1085, 2, none⟩ = some (.slice none 0 0) := (blk_cell BK1085.out 2).trans rfl
      have hfz67_0 := blk_frozen BK1085.out 0
      have hfz67_1 := blk_frozen BK1085.out 1
      have hfz67_2 := blk_frozen BK1085.out 2
      have hnb68 := NB1071_1057.out
      have hnc68 := NB1057_1071.out
      have hnb69 := NB1071_1077.out
      have hnc69 := NB1077_1071.out
      have hcz70_0 : w39.cell? ⟨gb1071, 0, none⟩ = some (.int .i64 t1064) := (blk_cell BK1071.out 0).trans rfl
      have hcz70_1 : w39.cell? ⟨gb1071, 1, none⟩ = some (.int .i64 t1065) := (blk_cell BK1071.out 1).trans rfl
      have hcz70_2 : w39.cell? ⟨gb1071, 2, none⟩ = some (.slice Ao30 t1066.length co30) := (blk_cell BK1071.out 2).trans rfl
      have hfz70_0 := blk_frozen BK1071.out 0
      have hfz70_1 := blk_frozen BK1071.out 1
      have hfz70_2 := blk_frozen BK1071.out 2
      go_wp2_with (first | ((with_reducible refine gate_callee (f := 33) rfl ?_); refine goesL_ (some 61) rfl rfl Try.func33 (by kernel_rfl) rfl #[.agg #[.int .i64 t1078, .int .i64 t1079, .slice Ao44 t1080.length co44], .agg #[.int .i64 t1064, .int .i64 t1065, .slice Ao30 t1066.length co30]] rfl sm_ ?_; (with_reducible refine (laws_eqRow.calls k t1078 t1079 _ _ t1080 t1064 t1065 _ _ t1066 false _ ?side1 ?side2 ?side3 ?side4 A45.out).mono ?_); (case side1 => refine (Kd.R_reads' (e := 69) (base := w.heap.size) (ok := fun k_ => (((True ∧ some k_ ≠ (.slice Ao25 t1061.length co25 : Value).ownBlock) ∧ some k_ ≠ (.slice Ao30 t1066.length co30 : Value).ownBlock) ∧ some k_ ≠ (.slice Ao37 t1074.length co37 : Value).ownBlock)) (n := t1080.length) (c := co44) ?_).2.2; exact (rk_ HO1082.out BK1085.out)); (case side2 => exact (Kd.R_reads' HO1082.out).2.1); (case side3 => refine (Kd.R_reads' (e := 69) (base := w.heap.size) (ok := fun k_ => (((True ∧ some k_ ≠ (.slice Ao25 t1061.length co25 : Value).ownBlock) ∧ some k_ ≠ (.slice Ao37 t1074.length co37 : Value).ownBlock) ∧ some k_ ≠ (.slice Ao44 t1080.length co44 : Value).ownBlock)) (n := t1066.length) (c := co30) ?_).2.2; exact (rk_ HO1068.out BK1085.out)); (case side4 => exact (Kd.R_reads' HO1068.out).2.1); rintro e w71 ⟨rfl, hb⟩; refine ⟨_, rfl, ?_⟩; have n0_ := Aside0.mk (Kd.R_below (rk_ HO1063.out BK1085.out) hb); have n1_ := Aside0.mk (Kd.R_below (rk_ HO1068.out BK1085.out) hb); have n2_ := Aside0.mk (Kd.R_below (rk_ HO1076.out BK1085.out) hb); have n3_ := Aside0.mk (Kd.R_below (rk_ HO1082.out BK1085.out) hb); have n4_ := Aside0.mk (blk_below (g := gb1057) (o := .cells #[.int .i64 a0_0, .int .i64 a0_1, .slice A0_2 l0_2.length c0_2] 53 (0, 0)) (bf_ NB1057_1085.out BK1057.out) hb); have n5_ := Aside0.mk (blk_below (g := gb1071) (o := .cells #[.int .i64 t1064, .int .i64 t1065, .slice Ao30 t1066.length co30] 57 (0, 0)) (bf_ NB1071_1085.out BK1071.out) hb); have n6_ := Aside0.mk (blk_below (g := gb1077) (o := .cells #[.int .i64 t1072, .int .i64 t1073, .slice Ao37 t1074.length co37] 57 (0, 0)) (bf_ NB1077_1085.out BK1077.out) hb); have n7_ := Aside0.mk (blk_below (g := gb1085) (o := .cells #[.int .i64 t1078, .int .i64 t1079, .slice Ao44 t1080.length co44] 57 (0, 0)) (bp_ BK1085.out) hb); have n8_ := Aside0.mk (below_step (hb_ HB.out) hb); clear HO1063; clear HO1068; clear HO1076; clear HO1082; clear BK1057; clear BK1071; clear BK1077; clear BK1085; clear HB; have HO1063 := n0_; have HO1068 := n1_; have HO1076 := n2_; have HO1082 := n3_; have BK1057 := n4_; have BK1071 := n5_; have BK1077 := n6_; have BK1085 := n7_; have HB := n8_; clear n0_ n1_ n2_ n3_ n4_ n5_ n6_ n7_ n8_; (try clear hb); (try clear hb2); (try clear hk); (try clear hi)))
      go_meet
      case rel => exact ⟨_, (true), (by first | rfl | (simp; done) | (simp [*]; done)), H', ⟨by first | omega | exact Nat.le_refl _⟩, ⟨rm_ HO1068.out⟩, ⟨rm_ HO1076.out⟩, ⟨rm_ HO1082.out⟩, ⟨bq_ BK1057.out⟩, ⟨bq_ BK1071.out⟩, ⟨bq_ BK1077.out⟩, ⟨bq_ BK1085.out⟩, ⟨hb_ HB.out⟩⟩
    case rest =>
     clear HC19
     (try clear c1); (try clear c2); (try clear p2); (try clear c3); (try clear c4); (try clear c5); (try clear c6); (try clear c6b0); (try clear c6b1); (try clear c8); (try clear c8b0); (try clear c8b1); (try clear c11); (try clear c11b0); (try clear c28); (try clear c29); (try clear c30); (try clear c31); (try clear c32); (try clear c33); (try clear c34); (try clear c35); (try clear c40); (try clear c41); (try clear c42); (try clear c46); (try clear c47); (try clear c47b0); (try clear c47b1); (try clear c48); (try clear c49); (try clear c50); (try clear c52); (try clear c53); (try clear c56); (try clear c57); (try clear c58); (try clear c60); (try clear c61); (try clear c64); (try clear c65); (try clear c66); (try clear c68); (try clear c69); (try clear hcz13_0); (try clear hcz13_1); (try clear hcz13_2); (try clear hcz21_0); (try clear hcz21_1); (try clear hcz21_2); (try clear hcz23_0); (try clear hcz23_1); (try clear hcz23_2); (try clear hcz29_0); (try clear hcz29_1); (try clear hcz29_2); (try clear hcz31_0); (try clear hcz31_1); (try clear hcz31_2); (try clear hcz36_0); (try clear hcz36_1); (try clear hcz36_2); (try clear hcz43_0); (try clear hcz43_1); (try clear hcz43_2); (try clear hcz51_0); (try clear hcz51_1); (try clear hcz51_2); (try clear hcz54_0); (try clear hcz54_1); (try clear hcz54_2); (try clear hcz59_0); (try clear hcz59_1); (try clear hcz59_2); (try clear hcz62_0); (try clear hcz62_1); (try clear hcz62_2); (try clear hcz67_0); (try clear hcz67_1); (try clear hcz67_2); (try clear hcz70_0); (try clear hcz70_1); (try clear hcz70_2); (try clear hfz13_0); (try clear hfz13_1); (try clear hfz13_2); (try clear hfz21_0); (try clear hfz21_1); (try clear hfz21_2); (try clear hfz23_0); (try clear hfz23_1); (try clear hfz23_2); (try clear hfz29_0); (try clear hfz29_1); (try clear hfz29_2); (try clear hfz31_0); (try clear hfz31_1); (try clear hfz31_2); (try clear hfz36_0); (try clear hfz36_1); (try clear hfz36_2); (try clear hfz43_0); (try clear hfz43_1); (try clear hfz43_2); (try clear hfz51_0); (try clear hfz51_1); (try clear hfz51_2); (try clear hfz54_0); (try clear hfz54_1); (try clear hfz54_2); (try clear hfz59_0); (try clear hfz59_1); (try clear hfz59_2); (try clear hfz62_0); (try clear hfz62_1); (try clear hfz62_2); (try clear hfz67_0); (try clear hfz67_1); (try clear hfz67_2); (try clear hfz70_0); (try clear hfz70_1); (try clear hfz70_2)
     obtain ⟨kq, x72_18, rfl, HA, HJ18, HO_1072002, HO_1078002, HO_1086002, BK1057, BK1071, BK1077, BK1085, HB⟩ := hcut
     cases kq with
     | zero => exact absurd HA.out (by simp [laws_FnExactRowPut.j0])
     | succ kj18 =>
      have H := HA.out
      clear HA
      simp only [laws_FnExactRowPut.j0] at H
      by_cases c72 : x72_18 = true
      ·
       subst c72
       have H1 : (some false) = some r := by rw [if_pos rfl] at H; exact H
       clear H
       have H := H1
       clear H1
       obtain rfl := Option.some.inj H
       go_wp2
       go_ret
       exact ⟨by first | rfl | (simp [errW_none, errW_some] <;> rfl) | (simp [*, errW_none, errW_some] <;> rfl), hb_ HB.out⟩
      ·
       replace c72 := Bool.eq_false_iff.mpr c72
       subst c72
       have H1 : ((laws_toRow.f kj18 a0_0 a0_1 l0_2).bind fun bt1087 => ((laws_eqRow.f kj18 t1072 t1073 t1074 bt1087.1 bt1087.2.1 bt1087.2.2).bind fun t1092 => (if t1092 = true then ((laws_markRow.f kj18 t1072 t1073 t1074 1).bind fun bt1093 => (if bt1093.1 < 0 then (laws_FnExactRowPut.j1 kj18 a1 a2 a3 a4 t1069 t1070 true a0_0 a0_1 l0_2 t1064 t1065 t1066 t1078 t1079 t1080) else ((laws_eqRow.f kj18 t1078 t1079 t1080 t1064 t1065 t1066).bind fun t1095 => (if t1095 = true then (if t1083 = t1069 then (laws_FnExactRowPut.j1 kj18 a1 a2 a3 a4 t1069 t1070 (t1084 != t1070) a0_0 a0_1 l0_2 t1064 t1065 t1066 t1078 t1079 t1080) else (laws_FnExactRowPut.j1 kj18 a1 a2 a3 a4 t1069 t1070 true a0_0 a0_1 l0_2 t1064 t1065 t1066 t1078 t1079 t1080)) else (laws_FnExactRowPut.j1 kj18 a1 a2 a3 a4 t1069 t1070 true a0_0 a0_1 l0_2 t1064 t1065 t1066 t1078 t1079 t1080))))) else (some false)))) = some r := by rw [if_neg (show ¬ (false = true) by decide)] at H; exact H
       clear H
       have H := H1
       clear H1
       replace H := Option.bind_eq_some_iff.mp H
       obtain ⟨⟨t1087, t1088, t1089⟩, A730, H⟩ := H
       replace H : ((laws_eqRow.f kj18 t1072 t1073 t1074 t1087 t1088 t1089).bind fun t1092 => (if t1092 = true then ((laws_markRow.f kj18 t1072 t1073 t1074 1).bind fun bt1093 => (if bt1093.1 < 0 then (laws_FnExactRowPut.j1 kj18 a1 a2 a3 a4 t1069 t1070 true a0_0 a0_1 l0_2 t1064 t1065 t1066 t1078 t1079 t1080) else ((laws_eqRow.f kj18 t1078 t1079 t1080 t1064 t1065 t1066).bind fun t1095 => (if t1095 = true then (if t1083 = t1069 then (laws_FnExactRowPut.j1 kj18 a1 a2 a3 a4 t1069 t1070 (t1084 != t1070) a0_0 a0_1 l0_2 t1064 t1065 t1066 t1078 t1079 t1080) else (laws_FnExactRowPut.j1 kj18 a1 a2 a3 a4 t1069 t1070 true a0_0 a0_1 l0_2 t1064 t1065 t1066 t1078 t1079 t1080)) else (laws_FnExactRowPut.j1 kj18 a1 a2 a3 a4 t1069 t1070 true a0_0 a0_1 l0_2 t1064 t1065 t1066 t1078 t1079 t1080))))) else (some false))) = some r := H
       have A73 := Aside0.mk A730
       clear A730
       replace H := Option.bind_eq_some_iff.mp H
       obtain ⟨t1092, A740, H⟩ := H
       replace H : (if t1092 = true then ((laws_markRow.f kj18 t1072 t1073 t1074 1).bind fun bt1093 => (if bt1093.1 < 0 then (laws_FnExactRowPut.j1 kj18 a1 a2 a3 a4 t1069 t1070 true a0_0 a0_1 l0_2 t1064 t1065 t1066 t1078 t1079 t1080) else ((laws_eqRow.f kj18 t1078 t1079 t1080 t1064 t1065 t1066).bind fun t1095 => (if t1095 = true then (if t1083 = t1069 then (laws_FnExactRowPut.j1 kj18 a1 a2 a3 a4 t1069 t1070 (t1084 != t1070) a0_0 a0_1 l0_2 t1064 t1065 t1066 t1078 t1079 t1080) else (laws_FnExactRowPut.j1 kj18 a1 a2 a3 a4 t1069 t1070 true a0_0 a0_1 l0_2 t1064 t1065 t1066 t1078 t1079 t1080)) else (laws_FnExactRowPut.j1 kj18 a1 a2 a3 a4 t1069 t1070 true a0_0 a0_1 l0_2 t1064 t1065 t1066 t1078 t1079 t1080))))) else (some false)) = some r := H
       have A74 := Aside0.mk A740
       clear A740
       by_cases c75 : t1092 = true
       ·
        subst c75
        have H1 : ((laws_markRow.f kj18 t1072 t1073 t1074 1).bind fun bt1093 => (if bt1093.1 < 0 then (laws_FnExactRowPut.j1 kj18 a1 a2 a3 a4 t1069 t1070 true a0_0 a0_1 l0_2 t1064 t1065 t1066 t1078 t1079 t1080) else ((laws_eqRow.f kj18 t1078 t1079 t1080 t1064 t1065 t1066).bind fun t1095 => (if t1095 = true then (if t1083 = t1069 then (laws_FnExactRowPut.j1 kj18 a1 a2 a3 a4 t1069 t1070 (t1084 != t1070) a0_0 a0_1 l0_2 t1064 t1065 t1066 t1078 t1079 t1080) else (laws_FnExactRowPut.j1 kj18 a1 a2 a3 a4 t1069 t1070 true a0_0 a0_1 l0_2 t1064 t1065 t1066 t1078 t1079 t1080)) else (laws_FnExactRowPut.j1 kj18 a1 a2 a3 a4 t1069 t1070 true a0_0 a0_1 l0_2 t1064 t1065 t1066 t1078 t1079 t1080))))) = some r := by rw [if_pos rfl] at H; exact H
        clear H
        have H := H1
        clear H1
        replace H := Option.bind_eq_some_iff.mp H
        obtain ⟨⟨t1093, t1094⟩, A760, H⟩ := H
        replace H : (if t1093 < 0 then (laws_FnExactRowPut.j1 kj18 a1 a2 a3 a4 t1069 t1070 true a0_0 a0_1 l0_2 t1064 t1065 t1066 t1078 t1079 t1080) else ((laws_eqRow.f kj18 t1078 t1079 t1080 t1064 t1065 t1066).bind fun t1095 => (if t1095 = true then (if t1083 = t1069 then (laws_FnExactRowPut.j1 kj18 a1 a2 a3 a4 t1069 t1070 (t1084 != t1070) a0_0 a0_1 l0_2 t1064 t1065 t1066 t1078 t1079 t1080) else (laws_FnExactRowPut.j1 kj18 a1 a2 a3 a4 t1069 t1070 true a0_0 a0_1 l0_2 t1064 t1065 t1066 t1078 t1079 t1080)) else (laws_FnExactRowPut.j1 kj18 a1 a2 a3 a4 t1069 t1070 true a0_0 a0_1 l0_2 t1064 t1065 t1066 t1078 t1079 t1080)))) = some r := H
        have A76 := Aside0.mk A760
        clear A760
        have HC77 := Aside0.mk H
        clear H
        try go_wp2
        have n0_ := Aside0.mk (Kd.R_drew HO_1072002.out)
        have n1_ := Aside0.mk (Kd.R_drew HO_1078002.out)
        have n2_ := Aside0.mk (Kd.R_drew HO_1086002.out)
        have n3_ := Aside0.mk (blk_drew BK1057.out)
        have n4_ := Aside0.mk (blk_drew BK1071.out)
        have n5_ := Aside0.mk (blk_drew BK1077.out)
        have n6_ := Aside0.mk (blk_drew BK1085.out)
        have n7_ := Aside0.mk (below_drew1 HB.out)
        clear HO_1072002; clear HO_1078002
        clear HO_1086002; clear BK1057
        clear BK1071; clear BK1077
        clear BK1085; clear HB
        have HO_1072002 := n0_
        have HO_1078002 := n1_
        have HO_1086002 := n2_
        have BK1057 := n3_
        have BK1071 := n4_
        have BK1077 := n5_
        have BK1085 := n6_
        have HB := n7_
        clear n0_ n1_ n2_ n3_ n4_ n5_ n6_ n7_
        refine start_ (n := 5) (S := fun w' => w'.cell? ⟨gb1077, 0, none⟩ = some (.int .i64 t1072) ∧ w'.cell? ⟨gb1077, 1, none⟩ = some (.int .i64 t1073) ∧ w'.cell? ⟨gb1077, 2, none⟩ = some (.slice Ao37 t1074.length co37) ∧ w'.cell? ⟨gb1057, 0, none⟩ = some (.int .i64 a0_0) ∧ w'.cell? ⟨gb1057, 1, none⟩ = some (.int .i64 a0_1) ∧ w'.cell? ⟨gb1057, 2, none⟩ = some (.slice A0_2 l0_2.length c0_2)) (ds := []) #[false, false, false, false, false] (by kernel_rfl) rfl rfl ⟨(blk_cell BK1077.out 0).trans rfl, (blk_cell BK1077.out 1).trans rfl, (blk_cell BK1077.out 2).trans rfl, (blk_cell BK1057.out 0).trans rfl, (blk_cell BK1057.out 1).trans rfl, (blk_cell BK1057.out 2).trans rfl⟩ (fun hHeld => ?_)
        generalize wc.drew = w78 at HO_1072002 HO_1078002 HO_1086002 BK1057 BK1071 BK1077 BK1085 HB hHeld ⊢
        refine take_ (i := 0) (N := some 73) (v := ?_) (a' := ?_) #[true, false, false, false, false] rfl rfl (by kernel_rfl) (fun _ _ _ h => h) (Or.inl ⟨by rfl, ?_⟩) hHeld ?_ ?_
        rotate_left
        ·
         rintro w' ⟨s0, s1, s2, s3, s4, s5⟩
         go_simp
         with_reducible rfl
        rotate_left; (focus simp only [Act.put, List.setIfInBounds_toArray, List.set_cons_zero, List.set_cons_succ, i64_w, i32_w]; rfl)
        refine take_ (i := 1) (N := some 74) (v := ?_) (a' := ?_) #[true, true, false, false, false] rfl rfl (by kernel_rfl) (fun _ _ _ h => h) (Or.inl ⟨by rfl, ?_⟩) hHeld ?_ ?_
        rotate_left
        ·
         rintro w' ⟨s0, s1, s2, s3, s4, s5⟩
         go_simp
         with_reducible rfl
        rotate_left; (focus simp only [Act.put, List.setIfInBounds_toArray, List.set_cons_zero, List.set_cons_succ, i64_w, i32_w]; rfl)
        refine one_ (i := 2) (N := some 75) #[true, true, true, false, false] rfl rfl (by kernel_rfl) (by decide) (fun K hK => ?_)
        refine goes_ Try.func31 (by kernel_rfl) rfl #[.agg #[.int .i64 a0_0, .int .i64 a0_1, .slice A0_2 l0_2.length c0_2]] (by rfl) rfl rfl sm_ ?_
        with_reducible refine (laws_toRow.calls kj18 a0_0 a0_1 _ _ l0_2 t1087 t1088 t1089 _ ?side1 ?side2 A73.out).mono ?_
        (case side1 => repeat (first | exact (Kd.C_below HR0_2.out HB.out) | (with_reducible refine Kd.C_alloc ?_ _) | (with_reducible refine Kd.C_drewN ?_ _) | (with_reducible refine Kd.C_drew ?_)))
        (case side2 => exact HC0_2.out)
        rintro e w79 ⟨v1090, rfl, ho0, hb⟩
        refine ⟨_, rfl, ?_⟩
        have n0_ := Aside0.mk (Kd.R_elder' (rq_ HO_1072002.out) (Kd.R_base ho0) hb)
        have n1_ := Aside0.mk (Kd.R_elder' (rq_ HO_1078002.out) (Kd.R_base ho0) hb)
        have n2_ := Aside0.mk (Kd.R_elder' (rq_ HO_1086002.out) (Kd.R_base ho0) hb)
        have n3_ := Aside0.mk (Kd.R_lower (Kd.R_new' (Kd.R_new' (Kd.R_new' ho0 (Kd.R_lt (rq_ HO_1072002.out))) (Kd.R_lt (rq_ HO_1078002.out))) (Kd.R_lt (rq_ HO_1086002.out))) (below_size (hb_ HB.out)))
        have n4_ := Aside0.mk (bb_ BK1057.out hb)
        have n5_ := Aside0.mk (bb_ BK1071.out hb)
        have n6_ := Aside0.mk (bb_ BK1077.out hb)
        have n7_ := Aside0.mk (bb_ BK1085.out hb)
        have n8_ := Aside0.mk (below_step (hb_ HB.out) hb)
        clear HO_1072002; clear HO_1078002
        clear HO_1086002; clear BK1057
        clear BK1071; clear BK1077
        clear BK1085; clear HB
        have HO_1072002 := n0_
        have HO_1078002 := n1_
        have HO_1086002 := n2_
        have HO1091 := n3_
        have BK1057 := n4_
        have BK1071 := n5_
        have BK1077 := n6_
        have BK1085 := n7_
        have HB := n8_
        clear n0_ n1_ n2_ n3_ n4_ n5_ n6_ n7_ n8_
        (try clear hb)
        (try clear hb2)
        (try clear hk)
        (try clear hi)
        (try clear ho0)
        obtain ⟨Ao80, co80, eo80⟩ := Kd.R_slice HO1091.out
        (first | subst eo80 | (injection eo80 with f1_ f2_ f3_; have f4_ := f1_.symm; have f5_ := f3_.symm; clear f1_ f2_ f3_; subst f4_; subst f5_))
        refine hK.out _ _ ⟨(blk_cell BK1077.out 0).trans rfl, (blk_cell BK1077.out 1).trans rfl, (blk_cell BK1077.out 2).trans rfl, (blk_cell BK1057.out 0).trans rfl, (blk_cell BK1057.out 1).trans rfl, (blk_cell BK1057.out 2).trans rfl⟩ (fun hHeld => ?_)
        clear hK K
        refine norm_ (a' := ?_) ?_ ?_
        rotate_left
        ·
         show Act.put _ (some 75) _ = _
         simp only [Act.put, List.setIfInBounds_toArray, List.set_cons_zero, List.set_cons_succ, i64_w, i32_w]
         rfl
        refine one_ (i := 3) (N := some 76) #[true, true, true, true, false] rfl rfl (by kernel_rfl) (by decide) (fun K hK => ?_)
        refine goes_ Try.func33 (by kernel_rfl) rfl #[.agg #[.int .i64 t1072, .int .i64 t1073, .slice Ao37 t1074.length co37], .agg #[.int .i64 t1087, .int .i64 t1088, .slice Ao80 t1089.length co80]] (by rfl) rfl rfl sm_ ?_
        with_reducible refine (laws_eqRow.calls kj18 t1072 t1073 _ _ t1074 t1087 t1088 _ _ t1089 true _ ?side1 ?side2 ?side3 ?side4 A74.out).mono ?_
        (case side1 => repeat (first | exact (Kd.R_reads' HO_1078002.out).2.2 | (with_reducible refine Kd.C_alloc ?_ _) | (with_reducible refine Kd.C_drewN ?_ _) | (with_reducible refine Kd.C_drew ?_)))
        (case side2 => exact (Kd.R_reads' HO_1078002.out).2.1)
        (case side3 => repeat (first | exact (Kd.R_reads' HO1091.out).2.2 | (with_reducible refine Kd.C_alloc ?_ _) | (with_reducible refine Kd.C_drewN ?_ _) | (with_reducible refine Kd.C_drew ?_)))
        (case side4 => exact (Kd.R_reads' HO1091.out).2.1)
        rintro e w81 ⟨rfl, hb⟩
        refine ⟨_, rfl, ?_⟩
        have n0_ := Aside0.mk (Kd.R_below (rq_ HO_1072002.out) hb)
        have n1_ := Aside0.mk (Kd.R_below (rq_ HO_1078002.out) hb)
        have n2_ := Aside0.mk (Kd.R_below (rq_ HO_1086002.out) hb)
        have n3_ := Aside0.mk (Kd.R_below (rq_ HO1091.out) hb)
        have n4_ := Aside0.mk (bb_ BK1057.out hb)
        have n5_ := Aside0.mk (bb_ BK1071.out hb)
        have n6_ := Aside0.mk (bb_ BK1077.out hb)
        have n7_ := Aside0.mk (bb_ BK1085.out hb)
        have n8_ := Aside0.mk (below_step (hb_ HB.out) hb)
        clear HO_1072002; clear HO_1078002
        clear HO_1086002; clear HO1091
        clear BK1057; clear BK1071
        clear BK1077; clear BK1085
        clear HB
        have HO_1072002 := n0_
        have HO_1078002 := n1_
        have HO_1086002 := n2_
        have HO1091 := n3_
        have BK1057 := n4_
        have BK1071 := n5_
        have BK1077 := n6_
        have BK1085 := n7_
        have HB := n8_
        clear n0_ n1_ n2_ n3_ n4_ n5_ n6_ n7_ n8_
        (try clear hb)
        (try clear hb2)
        (try clear hk)
        (try clear hi)
        refine hK.out _ _ ⟨(blk_cell BK1077.out 0).trans rfl, (blk_cell BK1077.out 1).trans rfl, (blk_cell BK1077.out 2).trans rfl, (blk_cell BK1057.out 0).trans rfl, (blk_cell BK1057.out 1).trans rfl, (blk_cell BK1057.out 2).trans rfl⟩ (fun hHeld => ?_)
        clear hK K
        refine norm_ (a' := ?_) ?_ ?_
        rotate_left
        ·
         show Act.put _ (some 76) _ = _
         simp only [Act.put, List.setIfInBounds_toArray, List.set_cons_zero, List.set_cons_succ, i64_w, i32_w]
         rfl
        refine pure_ (i := 4) (N := some 77) (v := ?_) (a' := ?_) #[true, true, true, true, true] rfl rfl (by kernel_rfl) (fun _ _ _ h => h) (Or.inl ⟨by rfl, ?_⟩) ?_ ?_; rotate_left; (focus intro w'; go_simp; with_reducible rfl); rotate_left; (focus simp only [Act.put, List.setIfInBounds_toArray, List.set_cons_zero, List.set_cons_succ, i64_w, i32_w]; rfl)
        refine done_ (by kernel_rfl) ?_
        have hnb82 := NB1077_1057.out
        have hnc82 := NB1057_1077.out
        have hnb83 := NB1077_1071.out
        have hnc83 := NB1071_1077.out
        have hnb84 := NB1077_1085.out
        have hnc84 := NB1085_1077.out
        have hcz85_0 : w81.cell? ⟨gb1077, 0, none⟩ = some (.int .i64 t1072) := (blk_cell BK1077.out 0).trans rfl
        have hcz85_1 : w81.cell? ⟨gb1077, 1, none⟩ = some (.int .i64 t1073) := (blk_cell BK1077.out 1).trans rfl
        have hcz85_2 : w81.cell? ⟨gb1077, 2, none⟩ = some (.slice Ao37 t1074.length co37) := (blk_cell BK1077.out 2).trans rfl
        have hfz85_0 := blk_frozen BK1077.out 0
        have hfz85_1 := blk_frozen BK1077.out 1
        have hfz85_2 := blk_frozen BK1077.out 2
        go_upto_region 18 with (first | ((with_reducible refine gate_callee (f := 34) rfl ?_); refine goesL_ (some 80) rfl rfl Try.func34 (by kernel_rfl) rfl #[.agg #[.int .i64 t1072, .int .i64 t1073, .slice Ao37 t1074.length co37], .int .i64 1] rfl sm_ ?_; (with_reducible refine (laws_markRow.calls kj18 t1072 t1073 (fun k_ => some k_ = (.slice Ao37 t1074.length co37 : Value).ownBlock) (.slice Ao37 t1074.length co37) t1074 1 t1093 t1094 w _ ?side1 ?side2 A76.out).mono ?_); (case side1 => repeat (first | (with_reducible first | exact HB.out | apply below_alloc | apply pw_below_drewN | apply below_drew1 | refine below_set ?_ GE1057.out | refine below_set ?_ GE1071.out | refine below_set ?_ GE1077.out | refine below_set ?_ GE1085.out) | exact HB.out)); (case side2 => exact Kd.R_tight rfl HO_1078002.out); rintro e w86 ⟨rfl, hy0, hb, hkp⟩; refine ⟨_, rfl, ?_⟩; have n0_ := Aside0.mk (Kd.R_mono (ok' := fun k_ => some k_ ≠ (.slice Ao37 t1074.length co37 : Value).ownBlock ∧ some k_ ≠ (.slice Ao44 t1080.length co44 : Value).ownBlock ∧ some k_ ≠ (.slice Ao80 t1089.length co80 : Value).ownBlock) (Kd.R_keptB (HO_1072002.out) hkp (fun k_ hk_ hs_ => (hk_.1.1) hs_)) (fun k_ hk_ => ⟨hk_.1.1.1, hk_.1.1.2, hk_.1.2⟩)); have n1_ := Aside0.mk (Kd.R_reok rfl hy0 (fun k_ e_ => HO_1078002.out.1 k_ e_)); have n2_ := Aside0.mk (Kd.R_mono (ok' := fun k_ => some k_ ≠ (.slice Ao30 t1066.length co30 : Value).ownBlock ∧ some k_ ≠ (.slice Ao37 t1074.length co37 : Value).ownBlock ∧ some k_ ≠ (.slice Ao80 t1089.length co80 : Value).ownBlock) (Kd.R_keptB (HO_1086002.out) hkp (fun k_ hk_ hs_ => (hk_.1.2) hs_)) (fun k_ hk_ => ⟨hk_.1.1.1, hk_.1.1.2, hk_.1.2⟩)); have n3_ := Aside0.mk (blk_kept (bq_ BK1057.out) hkp (fun hs_ => (fun e_ => (Kd.R_ne HO_1078002.out BK1057.out (by decide)) e_) hs_)); have n4_ := Aside0.mk (blk_kept (bq_ BK1071.out) hkp (fun hs_ => (fun e_ => (Kd.R_ne HO_1078002.out BK1071.out (by decide)) e_) hs_)); have n5_ := Aside0.mk (blk_kept (bq_ BK1077.out) hkp (fun hs_ => (fun e_ => (Kd.R_ne HO_1078002.out BK1077.out (by decide)) e_) hs_)); have n6_ := Aside0.mk (blk_kept (bq_ BK1085.out) hkp (fun hs_ => (fun e_ => (Kd.R_ne HO_1078002.out BK1085.out (by decide)) e_) hs_)); have n7_ := Aside0.mk (Kd.R_mono (ok' := fun k_ => some k_ ≠ (.slice Ao30 t1066.length co30 : Value).ownBlock ∧ some k_ ≠ (.slice Ao37 t1074.length co37 : Value).ownBlock ∧ some k_ ≠ (.slice Ao44 t1080.length co44 : Value).ownBlock) (Kd.R_keptB (HO1091.out) hkp (fun k_ hk_ hs_ => (hk_.1.2) hs_)) (fun k_ hk_ => ⟨hk_.1.1.1.2, hk_.1.1.2, hk_.1.2⟩)); have n8_ := Aside0.mk (hb); clear HO_1072002; clear HO_1078002; clear HO_1086002; clear BK1057; clear BK1071; clear BK1077; clear BK1085; clear HO1091; clear HB; have HO_1072002 := n0_; have HO_1078002 := n1_; have HO_1086002 := n2_; have BK1057 := n3_; have BK1071 := n4_; have BK1077 := n5_; have BK1085 := n6_; have HO1091 := n7_; have HB := n8_; clear n0_ n1_ n2_ n3_ n4_ n5_ n6_ n7_ n8_; (try clear hb); (try clear hkp); (try clear hy0)))
        (try simp only [Act.put, List.setIfInBounds_toArray, List.set_cons_zero, List.set_cons_succ])
        go_cut [98] (fun v98 wc => ∃ (kq : Nat) (x98_76 : Bool), v98 = .bool x98_76 ∧ Aside0 (laws_FnExactRowPut.j1 kq a1 a2 a3 a4 t1069 t1070 x98_76 a0_0 a0_1 l0_2 t1064 t1065 t1066 t1078 t1079 t1080 = some r) ∧ Aside0 (kq ≤ kj18) ∧ Aside0 (Kd.R k_Item 69 wc w.heap.size (fun k_ => some k_ ≠ ((.slice Ao37 t1074.length co37) : Value).ownBlock ∧ some k_ ≠ ((.slice Ao44 t1080.length co44) : Value).ownBlock) (.slice Ao30 t1066.length co30) t1066) ∧ Aside0 (Kd.R k_Item 69 wc w.heap.size (fun k_ => some k_ ≠ ((.slice Ao30 t1066.length co30) : Value).ownBlock ∧ some k_ ≠ ((.slice Ao44 t1080.length co44) : Value).ownBlock) (.slice Ao37 t1074.length co37) t1094) ∧ Aside0 (Kd.R k_Item 69 wc w.heap.size (fun k_ => some k_ ≠ ((.slice Ao30 t1066.length co30) : Value).ownBlock ∧ some k_ ≠ ((.slice Ao37 t1074.length co37) : Value).ownBlock) (.slice Ao44 t1080.length co44) t1080) ∧ Aside0 (wc.heap[gb1057]? = some (.cells #[.int .i64 a0_0, .int .i64 a0_1, (.slice A0_2 l0_2.length c0_2)] 53 (0, 0))) ∧ Aside0 (wc.heap[gb1071]? = some (.cells #[.int .i64 t1064, .int .i64 t1065, (.slice Ao30 t1066.length co30)] 57 (0, 0))) ∧ Aside0 (wc.heap[gb1077]? = some (.cells #[.int .i64 t1072, .int .i64 t1073, (.slice Ao37 t1074.length co37)] 57 (0, 0))) ∧ Aside0 (wc.heap[gb1085]? = some (.cells #[.int .i64 t1078, .int .i64 t1079, (.slice Ao44 t1080.length co44)] 57 (0, 0))) ∧ Aside0 (Below w.heap.size w wc))
        case first =>
         have H := HC77.out
         clear HC77
         by_cases c87 : t1093 < 0
         ·
          rw [if_pos c87] at H
          have c87b0 : decide (t1093 < 0) = true := decide_eq_true c87
          clear c87
          (first | rw [c87b0] | (simp only [i64_w, i32_w]; rw [c87b0]) | rw [c87b4] | rw [c87b3] | skip)
          have H' := Aside0.mk H
          clear H
          go_wp2
          go_meet
          case rel => exact ⟨_, (true), (by first | rfl | (simp; done) | (simp [*]; done)), H', ⟨by have := HJ18.out; first | omega | exact Nat.le_refl _⟩, ⟨rm_ HO_1072002.out⟩, ⟨rm_ HO_1078002.out⟩, ⟨rm_ HO_1086002.out⟩, ⟨bq_ BK1057.out⟩, ⟨bq_ BK1071.out⟩, ⟨bq_ BK1077.out⟩, ⟨bq_ BK1085.out⟩, ⟨hb_ HB.out⟩⟩
         ·
          rw [if_neg c87] at H
          have c87b0 : decide (t1093 < 0) = false := decide_eq_false c87
          clear c87
          (first | rw [c87b0] | (simp only [i64_w, i32_w]; rw [c87b0]) | rw [c87b4] | rw [c87b3] | skip)
          replace H := Option.bind_eq_some_iff.mp H
          obtain ⟨t1095, A880, H⟩ := H
          replace H : (if t1095 = true then (if t1083 = t1069 then (laws_FnExactRowPut.j1 kj18 a1 a2 a3 a4 t1069 t1070 (t1084 != t1070) a0_0 a0_1 l0_2 t1064 t1065 t1066 t1078 t1079 t1080) else (laws_FnExactRowPut.j1 kj18 a1 a2 a3 a4 t1069 t1070 true a0_0 a0_1 l0_2 t1064 t1065 t1066 t1078 t1079 t1080)) else (laws_FnExactRowPut.j1 kj18 a1 a2 a3 a4 t1069 t1070 true a0_0 a0_1 l0_2 t1064 t1065 t1066 t1078 t1079 t1080)) = some r := H
          have A88 := Aside0.mk A880
          clear A880
          by_cases c89 : t1095 = true
          ·
           subst c89
           have H1 : (if t1083 = t1069 then (laws_FnExactRowPut.j1 kj18 a1 a2 a3 a4 t1069 t1070 (t1084 != t1070) a0_0 a0_1 l0_2 t1064 t1065 t1066 t1078 t1079 t1080) else (laws_FnExactRowPut.j1 kj18 a1 a2 a3 a4 t1069 t1070 true a0_0 a0_1 l0_2 t1064 t1065 t1066 t1078 t1079 t1080)) = some r := by rw [if_pos rfl] at H; exact H
           clear H
           have H := H1
           clear H1
           by_cases c90 : t1083 = t1069
           ·
            rw [if_pos c90] at H
            have c90b0 : (t1083 == t1069) = true := beq_iff_eq.mpr c90
            have c90b1 : (t1083 != t1069) = false := bne_eq_false_iff_eq.mpr c90
            clear c90
            have H' := Aside0.mk H
            clear H
            have hnb91 := NB1085_1057.out
            have hnc91 := NB1057_1085.out
            have hnb92 := NB1085_1071.out
            have hnc92 := NB1071_1085.out
            have hnb93 := NB1085_1077.out
            have hnc93 := NB1077_1085.out
            have hcz94_0 : w86.cell? ⟨gb1085, 0, none⟩ = some (.int .i64 t1078) := (blk_cell BK1085.out 0).trans rfl
            have hcz94_1 : w86.cell? ⟨gb1085, 1, none⟩ = some (.int .i64 t1079) := (blk_cell BK1085.out 1).trans rfl
            have hcz94_2 : w86.cell? ⟨gb1085, 2, none⟩ = some (.slice Ao44 t1080.length co44) := (blk_cell BK1085.out 2).trans rfl
            have hfz94_0 := blk_frozen BK1085.out 0
            have hfz94_1 := blk_frozen BK1085.out 1
            have hfz94_2 := blk_frozen BK1085.out 2
            have hnb95 := NB1071_1057.out
            have hnc95 := NB1057_1071.out
            have hnb96 := NB1071_1077.out
            have hnc96 := NB1077_1071.out
            have hcz97_0 : w86.cell? ⟨gb1071, 0, none⟩ = some (.int .i64 t1064) := (blk_cell BK1071.out 0).trans rfl
            have hcz97_1 : w86.cell? ⟨gb1071, 1, none⟩ = some (.int .i64 t1065) := (blk_cell BK1071.out 1).trans rfl
            have hcz97_2 : w86.cell? ⟨gb1071, 2, none⟩ = some (.slice Ao30 t1066.length co30) := (blk_cell BK1071.out 2).trans rfl
            have hfz97_0 := blk_frozen BK1071.out 0
            have hfz97_1 := blk_frozen BK1071.out 1
            have hfz97_2 := blk_frozen BK1071.out 2
            go_wp2_with (first | (go_at_call 33; (with_reducible refine (laws_eqRow.calls kj18 t1078 t1079 _ _ t1080 t1064 t1065 _ _ t1066 true _ ?side1 ?side2 ?side3 ?side4 A88.out).mono ?_); (case side1 => repeat (first | exact (Kd.R_reads' HO_1086002.out).2.2 | (with_reducible refine Kd.C_alloc ?_ _) | (with_reducible refine Kd.C_drewN ?_ _) | (with_reducible refine Kd.C_drew ?_))); (case side2 => exact (Kd.R_reads' HO_1086002.out).2.1); (case side3 => repeat (first | exact (Kd.R_reads' HO_1072002.out).2.2 | (with_reducible refine Kd.C_alloc ?_ _) | (with_reducible refine Kd.C_drewN ?_ _) | (with_reducible refine Kd.C_drew ?_))); (case side4 => exact (Kd.R_reads' HO_1072002.out).2.1); rintro e w98 ⟨rfl, hb⟩; have n0_ := Aside0.mk (Kd.R_below (rq_ HO_1072002.out) hb); have n1_ := Aside0.mk (Kd.R_below (rq_ HO_1078002.out) hb); have n2_ := Aside0.mk (Kd.R_below (rq_ HO_1086002.out) hb); have n3_ := Aside0.mk (Kd.R_below (rq_ HO1091.out) hb); have n4_ := Aside0.mk (bb_ BK1057.out hb); have n5_ := Aside0.mk (bb_ BK1071.out hb); have n6_ := Aside0.mk (bb_ BK1077.out hb); have n7_ := Aside0.mk (bb_ BK1085.out hb); have n8_ := Aside0.mk (below_step (hb_ HB.out) hb); clear HO_1072002; clear HO_1078002; clear HO_1086002; clear HO1091; clear BK1057; clear BK1071; clear BK1077; clear BK1085; clear HB; have HO_1072002 := n0_; have HO_1078002 := n1_; have HO_1086002 := n2_; have HO1091 := n3_; have BK1057 := n4_; have BK1071 := n5_; have BK1077 := n6_; have BK1085 := n7_; have HB := n8_; clear n0_ n1_ n2_ n3_ n4_ n5_ n6_ n7_ n8_; (try clear hb); (try clear hb2); (try clear hk); (try clear hi)))
            go_meet
            case rel => exact ⟨_, ((t1084 != t1070)), (by first | rfl | (simp; done) | (simp [*]; done)), H', ⟨by have := HJ18.out; first | omega | exact Nat.le_refl _⟩, ⟨rm_ HO_1072002.out⟩, ⟨rm_ HO_1078002.out⟩, ⟨rm_ HO_1086002.out⟩, ⟨bq_ BK1057.out⟩, ⟨bq_ BK1071.out⟩, ⟨bq_ BK1077.out⟩, ⟨bq_ BK1085.out⟩, ⟨hb_ HB.out⟩⟩
           ·
            rw [if_neg c90] at H
            have c90b0 : (t1083 == t1069) = false := beq_eq_false_iff_ne.mpr c90
            have c90b1 : (t1083 != t1069) = true := bne_iff_ne.mpr c90
            have H' := Aside0.mk H
            clear H
            have hnb99 := NB1085_1057.out
            have hnc99 := NB1057_1085.out
            have hnb100 := NB1085_1071.out
            have hnc100 := NB1071_1085.out
            have hnb101 := NB1085_1077.out
            have hnc101 := NB1077_1085.out
            have hcz102_0 : w86.cell? ⟨gb1085, 0, none⟩ = some (.int .i64 t1078) := (blk_cell BK1085.out 0).trans rfl
            have hcz102_1 : w86.cell? ⟨gb1085, 1, none⟩ = some (.int .i64 t1079) := (blk_cell BK1085.out 1).trans rfl
            have hcz102_2 : w86.cell? ⟨gb1085, 2, none⟩ = some (.slice Ao44 t1080.length co44) := (blk_cell BK1085.out 2).trans rfl
            have hfz102_0 := blk_frozen BK1085.out 0
            have hfz102_1 := blk_frozen BK1085.out 1
            have hfz102_2 := blk_frozen BK1085.out 2
            have hnb103 := NB1071_1057.out
            have hnc103 := NB1057_1071.out
            have hnb104 := NB1071_1077.out
            have hnc104 := NB1077_1071.out
            have hcz105_0 : w86.cell? ⟨gb1071, 0, none⟩ = some (.int .i64 t1064) := (blk_cell BK1071.out 0).trans rfl
            have hcz105_1 : w86.cell? ⟨gb1071, 1, none⟩ = some (.int .i64 t1065) := (blk_cell BK1071.out 1).trans rfl
            have hcz105_2 : w86.cell? ⟨gb1071, 2, none⟩ = some (.slice Ao30 t1066.length co30) := (blk_cell BK1071.out 2).trans rfl
            have hfz105_0 := blk_frozen BK1071.out 0
            have hfz105_1 := blk_frozen BK1071.out 1
            have hfz105_2 := blk_frozen BK1071.out 2
            go_wp2_with (first | (go_at_call 33; (with_reducible refine (laws_eqRow.calls kj18 t1078 t1079 _ _ t1080 t1064 t1065 _ _ t1066 true _ ?side1 ?side2 ?side3 ?side4 A88.out).mono ?_); (case side1 => repeat (first | exact (Kd.R_reads' HO_1086002.out).2.2 | (with_reducible refine Kd.C_alloc ?_ _) | (with_reducible refine Kd.C_drewN ?_ _) | (with_reducible refine Kd.C_drew ?_))); (case side2 => exact (Kd.R_reads' HO_1086002.out).2.1); (case side3 => repeat (first | exact (Kd.R_reads' HO_1072002.out).2.2 | (with_reducible refine Kd.C_alloc ?_ _) | (with_reducible refine Kd.C_drewN ?_ _) | (with_reducible refine Kd.C_drew ?_))); (case side4 => exact (Kd.R_reads' HO_1072002.out).2.1); rintro e w106 ⟨rfl, hb⟩; have n0_ := Aside0.mk (Kd.R_below (rq_ HO_1072002.out) hb); have n1_ := Aside0.mk (Kd.R_below (rq_ HO_1078002.out) hb); have n2_ := Aside0.mk (Kd.R_below (rq_ HO_1086002.out) hb); have n3_ := Aside0.mk (Kd.R_below (rq_ HO1091.out) hb); have n4_ := Aside0.mk (bb_ BK1057.out hb); have n5_ := Aside0.mk (bb_ BK1071.out hb); have n6_ := Aside0.mk (bb_ BK1077.out hb); have n7_ := Aside0.mk (bb_ BK1085.out hb); have n8_ := Aside0.mk (below_step (hb_ HB.out) hb); clear HO_1072002; clear HO_1078002; clear HO_1086002; clear HO1091; clear BK1057; clear BK1071; clear BK1077; clear BK1085; clear HB; have HO_1072002 := n0_; have HO_1078002 := n1_; have HO_1086002 := n2_; have HO1091 := n3_; have BK1057 := n4_; have BK1071 := n5_; have BK1077 := n6_; have BK1085 := n7_; have HB := n8_; clear n0_ n1_ n2_ n3_ n4_ n5_ n6_ n7_ n8_; (try clear hb); (try clear hb2); (try clear hk); (try clear hi)))
            go_meet
            case rel => exact ⟨_, (true), (by first | rfl | (simp; done) | (simp [*]; done)), H', ⟨by have := HJ18.out; first | omega | exact Nat.le_refl _⟩, ⟨rm_ HO_1072002.out⟩, ⟨rm_ HO_1078002.out⟩, ⟨rm_ HO_1086002.out⟩, ⟨bq_ BK1057.out⟩, ⟨bq_ BK1071.out⟩, ⟨bq_ BK1077.out⟩, ⟨bq_ BK1085.out⟩, ⟨hb_ HB.out⟩⟩
          ·
           replace c89 := Bool.eq_false_iff.mpr c89
           subst c89
           have H1 : (laws_FnExactRowPut.j1 kj18 a1 a2 a3 a4 t1069 t1070 true a0_0 a0_1 l0_2 t1064 t1065 t1066 t1078 t1079 t1080) = some r := by rw [if_neg (show ¬ (false = true) by decide)] at H; exact H
           clear H
           have H := H1
           clear H1
           have H' := Aside0.mk H
           clear H
           have hnb107 := NB1085_1057.out
           have hnc107 := NB1057_1085.out
           have hnb108 := NB1085_1071.out
           have hnc108 := NB1071_1085.out
           have hnb109 := NB1085_1077.out
           have hnc109 := NB1077_1085.out
           have hcz110_0 : w86.cell? ⟨gb1085, 0, none⟩ = some (.int .i64 t1078) := (blk_cell BK1085.out 0).trans rfl
           have hcz110_1 : w86.cell? ⟨gb1085, 1, none⟩ = some (.int .i64 t1079) := (blk_cell BK1085.out 1).trans rfl
           have hcz110_2 : w86.cell? ⟨gb1085, 2, none⟩ = some (.slice Ao44 t1080.length co44) := (blk_cell BK1085.out 2).trans rfl
           have hfz110_0 := blk_frozen BK1085.out 0
           have hfz110_1 := blk_frozen BK1085.out 1
           have hfz110_2 := blk_frozen BK1085.out 2
           have hnb111 := NB1071_1057.out
           have hnc111 := NB1057_1071.out
           have hnb112 := NB1071_1077.out
           have hnc112 := NB1077_1071.out
           have hcz113_0 : w86.cell? ⟨gb1071, 0, none⟩ = some (.int .i64 t1064) := (blk_cell BK1071.out 0).trans rfl
           have hcz113_1 : w86.cell? ⟨gb1071, 1, none⟩ = some (.int .i64 t1065) := (blk_cell BK1071.out 1).trans rfl
           have hcz113_2 : w86.cell? ⟨gb1071, 2, none⟩ = some (.slice Ao30 t1066.length co30) := (blk_cell BK1071.out 2).trans rfl
           have hfz113_0 := blk_frozen BK1071.out 0
           have hfz113_1 := blk_frozen BK1071.out 1
           have hfz113_2 := blk_frozen BK1071.out 2
           go_wp2_with (first | (go_at_call 33; (with_reducible refine (laws_eqRow.calls kj18 t1078 t1079 _ _ t1080 t1064 t1065 _ _ t1066 false _ ?side1 ?side2 ?side3 ?side4 A88.out).mono ?_); (case side1 => repeat (first | exact (Kd.R_reads' HO_1086002.out).2.2 | (with_reducible refine Kd.C_alloc ?_ _) | (with_reducible refine Kd.C_drewN ?_ _) | (with_reducible refine Kd.C_drew ?_))); (case side2 => exact (Kd.R_reads' HO_1086002.out).2.1); (case side3 => repeat (first | exact (Kd.R_reads' HO_1072002.out).2.2 | (with_reducible refine Kd.C_alloc ?_ _) | (with_reducible refine Kd.C_drewN ?_ _) | (with_reducible refine Kd.C_drew ?_))); (case side4 => exact (Kd.R_reads' HO_1072002.out).2.1); rintro e w114 ⟨rfl, hb⟩; have n0_ := Aside0.mk (Kd.R_below (rq_ HO_1072002.out) hb); have n1_ := Aside0.mk (Kd.R_below (rq_ HO_1078002.out) hb); have n2_ := Aside0.mk (Kd.R_below (rq_ HO_1086002.out) hb); have n3_ := Aside0.mk (Kd.R_below (rq_ HO1091.out) hb); have n4_ := Aside0.mk (bb_ BK1057.out hb); have n5_ := Aside0.mk (bb_ BK1071.out hb); have n6_ := Aside0.mk (bb_ BK1077.out hb); have n7_ := Aside0.mk (bb_ BK1085.out hb); have n8_ := Aside0.mk (below_step (hb_ HB.out) hb); clear HO_1072002; clear HO_1078002; clear HO_1086002; clear HO1091; clear BK1057; clear BK1071; clear BK1077; clear BK1085; clear HB; have HO_1072002 := n0_; have HO_1078002 := n1_; have HO_1086002 := n2_; have HO1091 := n3_; have BK1057 := n4_; have BK1071 := n5_; have BK1077 := n6_; have BK1085 := n7_; have HB := n8_; clear n0_ n1_ n2_ n3_ n4_ n5_ n6_ n7_ n8_; (try clear hb); (try clear hb2); (try clear hk); (try clear hi)))
           go_meet
           case rel => exact ⟨_, (true), (by first | rfl | (simp; done) | (simp [*]; done)), H', ⟨by have := HJ18.out; first | omega | exact Nat.le_refl _⟩, ⟨rm_ HO_1072002.out⟩, ⟨rm_ HO_1078002.out⟩, ⟨rm_ HO_1086002.out⟩, ⟨bq_ BK1057.out⟩, ⟨bq_ BK1071.out⟩, ⟨bq_ BK1077.out⟩, ⟨bq_ BK1085.out⟩, ⟨hb_ HB.out⟩⟩
        case rest =>
         clear HC77
         (try clear c1); (try clear c2); (try clear p2); (try clear c3); (try clear c4); (try clear c5); (try clear c6); (try clear c6b0); (try clear c6b1); (try clear c7); (try clear c8); (try clear c8b0); (try clear c8b1); (try clear c9); (try clear c10); (try clear c11); (try clear c11b0); (try clear c28); (try clear c29); (try clear c30); (try clear c31); (try clear c32); (try clear c33); (try clear c34); (try clear c35); (try clear c40); (try clear c41); (try clear c42); (try clear c46); (try clear c47); (try clear c47b0); (try clear c47b1); (try clear c48); (try clear c49); (try clear c50); (try clear c52); (try clear c53); (try clear c56); (try clear c57); (try clear c58); (try clear c60); (try clear c61); (try clear c64); (try clear c65); (try clear c66); (try clear c68); (try clear c69); (try clear c72); (try clear c75); (try clear c82); (try clear c83); (try clear c84); (try clear c87); (try clear c87b0); (try clear c89); (try clear c90); (try clear c90b0); (try clear c90b1); (try clear c91); (try clear c92); (try clear c93); (try clear c95); (try clear c96); (try clear c99); (try clear c100); (try clear c101); (try clear c103); (try clear c104); (try clear c107); (try clear c108); (try clear c109); (try clear c111); (try clear c112); (try clear hcz102_0); (try clear hcz102_1); (try clear hcz102_2); (try clear hcz105_0); (try clear hcz105_1); (try clear hcz105_2); (try clear hcz110_0); (try clear hcz110_1); (try clear hcz110_2); (try clear hcz113_0); (try clear hcz113_1); (try clear hcz113_2); (try clear hcz13_0); (try clear hcz13_1); (try clear hcz13_2); (try clear hcz21_0); (try clear hcz21_1); (try clear hcz21_2); (try clear hcz23_0); (try clear hcz23_1); (try clear hcz23_2); (try clear hcz29_0); (try clear hcz29_1); (try clear hcz29_2); (try clear hcz31_0); (try clear hcz31_1); (try clear hcz31_2); (try clear hcz36_0); (try clear hcz36_1); (try clear hcz36_2); (try clear hcz43_0); (try clear hcz43_1); (try clear hcz43_2); (try clear hcz51_0); (try clear hcz51_1); (try clear hcz51_2); (try clear hcz54_0); (try clear hcz54_1); (try clear hcz54_2); (try clear hcz59_0); (try clear hcz59_1); (try clear hcz59_2); (try clear hcz62_0); (try clear hcz62_1); (try clear hcz62_2); (try clear hcz67_0); (try clear hcz67_1); (try clear hcz67_2); (try clear hcz70_0); (try clear hcz70_1); (try clear hcz70_2); (try clear hcz85_0); (try clear hcz85_1); (try clear hcz85_2); (try clear hcz94_0); (try clear hcz94_1); (try clear hcz94_2); (try clear hcz97_0); (try clear hcz97_1); (try clear hcz97_2); (try clear hfz102_0); (try clear hfz102_1); (try clear hfz102_2); (try clear hfz105_0); (try clear hfz105_1); (try clear hfz105_2); (try clear hfz110_0); (try clear hfz110_1); (try clear hfz110_2); (try clear hfz113_0); (try clear hfz113_1); (try clear hfz113_2); (try clear hfz13_0); (try clear hfz13_1); (try clear hfz13_2); (try clear hfz21_0); (try clear hfz21_1); (try clear hfz21_2); (try clear hfz23_0); (try clear hfz23_1); (try clear hfz23_2); (try clear hfz29_0); (try clear hfz29_1); (try clear hfz29_2); (try clear hfz31_0); (try clear hfz31_1); (try clear hfz31_2); (try clear hfz36_0); (try clear hfz36_1); (try clear hfz36_2); (try clear hfz43_0); (try clear hfz43_1); (try clear hfz43_2); (try clear hfz51_0); (try clear hfz51_1); (try clear hfz51_2); (try clear hfz54_0); (try clear hfz54_1); (try clear hfz54_2); (try clear hfz59_0); (try clear hfz59_1); (try clear hfz59_2); (try clear hfz62_0); (try clear hfz62_1); (try clear hfz62_2); (try clear hfz67_0); (try clear hfz67_1); (try clear hfz67_2); (try clear hfz70_0); (try clear hfz70_1); (try clear hfz70_2); (try clear hfz85_0); (try clear hfz85_1); (try clear hfz85_2); (try clear hfz94_0); (try clear hfz94_1); (try clear hfz94_2); (try clear hfz97_0); (try clear hfz97_1); (try clear hfz97_2); (try clear p2)
         obtain ⟨kq, x98_76, rfl, HA, HJ76, HO_1072002, HO_1078002, HO_1086002, BK1057, BK1071, BK1077, BK1085, HB⟩ := hcut
         have hl1078002_76 := (Kd.R_reads' HO_1078002.out).1
         rw [hl1078002_76] at HO_1078002
         (try simp only [hl1078002_76])
         (try simp only [hl1078002_76] at BK1057)
         (try simp only [hl1078002_76] at BK1071)
         (try simp only [hl1078002_76] at BK1077)
         (try simp only [hl1078002_76] at BK1085)
         (try simp only [hl1078002_76] at HO_1072002)
         (try simp only [hl1078002_76] at HO_1086002)
         cases kq with
         | zero => exact absurd HA.out (by simp [laws_FnExactRowPut.j1])
         | succ kj76 =>
          have H := HA.out
          clear HA
          simp only [laws_FnExactRowPut.j1] at H
          by_cases c115 : x98_76 = true
          ·
           subst c115
           have H1 : (some false) = some r := by rw [if_pos rfl] at H; exact H
           clear H
           have H := H1
           clear H1
           obtain rfl := Option.some.inj H
           go_wp2
           go_ret
           exact ⟨by first | rfl | (simp [errW_none, errW_some] <;> rfl) | (simp [*, errW_none, errW_some] <;> rfl), hb_ HB.out⟩
          ·
           replace c115 := Bool.eq_false_iff.mpr c115
           subst c115
           have H1 : ((laws_markRow.f kj76 t1078 t1079 t1080 1).bind fun bt1096 => ((laws_heldRow.f kj76 t1078 t1079 bt1096.2 1).bind fun t1098 => (if t1098 < 0 then (some false) else (if t1098 = bt1096.1 then ((laws_toRow.f kj76 a0_0 a0_1 l0_2).bind fun bt1099 => ((impl_RowPut.f kj76 bt1099.1 bt1099.2.1 bt1099.2.2 a1 a2 a3 a4).bind fun bt1104 => ((laws_eqRow.f kj76 bt1104.1 bt1104.2.1 bt1104.2.2.1 t1064 t1065 t1066).bind fun t1112 => (if t1112 = true then (if bt1104.2.2.2.1 = t1069 then (laws_FnExactRowPut.j2 kj76 bt1096.1 (bt1104.2.2.2.2 != t1070) t1078 t1079 bt1096.2) else (laws_FnExactRowPut.j2 kj76 bt1096.1 true t1078 t1079 bt1096.2)) else (laws_FnExactRowPut.j2 kj76 bt1096.1 true t1078 t1079 bt1096.2))))) else (some false))))) = some r := by rw [if_neg (show ¬ (false = true) by decide)] at H; exact H
           clear H
           have H := H1
           clear H1
           replace H := Option.bind_eq_some_iff.mp H
           obtain ⟨⟨t1096, t1097⟩, A1160, H⟩ := H
           replace H : ((laws_heldRow.f kj76 t1078 t1079 t1097 1).bind fun t1098 => (if t1098 < 0 then (some false) else (if t1098 = t1096 then ((laws_toRow.f kj76 a0_0 a0_1 l0_2).bind fun bt1099 => ((impl_RowPut.f kj76 bt1099.1 bt1099.2.1 bt1099.2.2 a1 a2 a3 a4).bind fun bt1104 => ((laws_eqRow.f kj76 bt1104.1 bt1104.2.1 bt1104.2.2.1 t1064 t1065 t1066).bind fun t1112 => (if t1112 = true then (if bt1104.2.2.2.1 = t1069 then (laws_FnExactRowPut.j2 kj76 t1096 (bt1104.2.2.2.2 != t1070) t1078 t1079 t1097) else (laws_FnExactRowPut.j2 kj76 t1096 true t1078 t1079 t1097)) else (laws_FnExactRowPut.j2 kj76 t1096 true t1078 t1079 t1097))))) else (some false)))) = some r := H
           have A116 := Aside0.mk A1160
           clear A1160
           replace H := Option.bind_eq_some_iff.mp H
           obtain ⟨t1098, A1170, H⟩ := H
           replace H : (if t1098 < 0 then (some false) else (if t1098 = t1096 then ((laws_toRow.f kj76 a0_0 a0_1 l0_2).bind fun bt1099 => ((impl_RowPut.f kj76 bt1099.1 bt1099.2.1 bt1099.2.2 a1 a2 a3 a4).bind fun bt1104 => ((laws_eqRow.f kj76 bt1104.1 bt1104.2.1 bt1104.2.2.1 t1064 t1065 t1066).bind fun t1112 => (if t1112 = true then (if bt1104.2.2.2.1 = t1069 then (laws_FnExactRowPut.j2 kj76 t1096 (bt1104.2.2.2.2 != t1070) t1078 t1079 t1097) else (laws_FnExactRowPut.j2 kj76 t1096 true t1078 t1079 t1097)) else (laws_FnExactRowPut.j2 kj76 t1096 true t1078 t1079 t1097))))) else (some false))) = some r := H
           have A117 := Aside0.mk A1170
           clear A1170
           by_cases c118 : t1098 < 0
           ·
            rw [if_pos c118] at H
            have c118b0 : decide (t1098 < 0) = true := decide_eq_true c118
            clear c118
            obtain rfl := Option.some.inj H
            have hnb119 := NB1085_1057.out
            have hnc119 := NB1057_1085.out
            have hnb120 := NB1085_1071.out
            have hnc120 := NB1071_1085.out
            have hnb121 := NB1085_1077.out
            have hnc121 := NB1077_1085.out
            have hcz122_0 : wc.cell? ⟨gb1085, 0, none⟩ = some (.int .i64 t1078) := (blk_cell BK1085.out 0).trans rfl
            have hcz122_1 : wc.cell? ⟨gb1085, 1, none⟩ = some (.int .i64 t1079) := (blk_cell BK1085.out 1).trans rfl
            have hcz122_2 : wc.cell? ⟨gb1085, 2, none⟩ = some (.slice Ao44 t1080.length co44) := (blk_cell BK1085.out 2).trans rfl
            have hfz122_0 := blk_frozen BK1085.out 0
            have hfz122_1 := blk_frozen BK1085.out 1
            have hfz122_2 := blk_frozen BK1085.out 2
            go_wp2_with (first | ((with_reducible refine gate_callee (f := 34) rfl ?_); refine goesL_ (some 101) rfl rfl Try.func34 (by kernel_rfl) rfl #[.agg #[.int .i64 t1078, .int .i64 t1079, .slice Ao44 t1080.length co44], .int .i64 1] rfl sm_ ?_; (with_reducible refine (laws_markRow.calls kj76 t1078 t1079 (fun k_ => some k_ = (.slice Ao44 t1080.length co44 : Value).ownBlock) (.slice Ao44 t1080.length co44) t1080 1 t1096 t1097 w _ ?side1 ?side2 A116.out).mono ?_); (case side1 => repeat (first | (with_reducible first | exact HB.out | apply below_alloc | apply pw_below_drewN | apply below_drew1 | refine below_set ?_ GE1057.out | refine below_set ?_ GE1071.out | refine below_set ?_ GE1077.out | refine below_set ?_ GE1085.out) | exact HB.out)); (case side2 => exact Kd.R_tight rfl HO_1086002.out); rintro e w123 ⟨rfl, hy0, hb, hkp⟩; refine ⟨_, rfl, ?_⟩; have n0_ := Aside0.mk (Kd.R_mono (ok' := fun k_ => some k_ ≠ (.slice Ao37 t1094.length co37 : Value).ownBlock ∧ some k_ ≠ (.slice Ao44 t1080.length co44 : Value).ownBlock) (Kd.R_keptB (HO_1072002.out) hkp (fun k_ hk_ hs_ => (hk_.2) hs_)) (fun k_ hk_ => ⟨hk_.1.1, hk_.1.2⟩)); have n1_ := Aside0.mk (Kd.R_mono (ok' := fun k_ => some k_ ≠ (.slice Ao30 t1066.length co30 : Value).ownBlock ∧ some k_ ≠ (.slice Ao44 t1080.length co44 : Value).ownBlock) (Kd.R_keptB (HO_1078002.out) hkp (fun k_ hk_ hs_ => (hk_.2) hs_)) (fun k_ hk_ => ⟨hk_.1.1, hk_.1.2⟩)); have n2_ := Aside0.mk (Kd.R_reok rfl hy0 (fun k_ e_ => HO_1086002.out.1 k_ e_)); have n3_ := Aside0.mk (blk_kept (bq_ BK1057.out) hkp (fun hs_ => (fun e_ => (Kd.R_ne HO_1086002.out BK1057.out (by decide)) e_) hs_)); have n4_ := Aside0.mk (blk_kept (bq_ BK1071.out) hkp (fun hs_ => (fun e_ => (Kd.R_ne HO_1086002.out BK1071.out (by decide)) e_) hs_)); have n5_ := Aside0.mk (blk_kept (bq_ BK1077.out) hkp (fun hs_ => (fun e_ => (Kd.R_ne HO_1086002.out BK1077.out (by decide)) e_) hs_)); have n6_ := Aside0.mk (blk_kept (bq_ BK1085.out) hkp (fun hs_ => (fun e_ => (Kd.R_ne HO_1086002.out BK1085.out (by decide)) e_) hs_)); have n7_ := Aside0.mk (hb); clear HO_1072002; clear HO_1078002; clear HO_1086002; clear BK1057; clear BK1071; clear BK1077; clear BK1085; clear HB; have HO_1072002 := n0_; have HO_1078002 := n1_; have HO_1086002 := n2_; have BK1057 := n3_; have BK1071 := n4_; have BK1077 := n5_; have BK1085 := n6_; have HB := n7_; clear n0_ n1_ n2_ n3_ n4_ n5_ n6_ n7_; (try clear hb); (try clear hkp); (try clear hy0); have hcz124_0 : w123.cell? ⟨gb1085, 0, none⟩ = some (.int .i64 t1078) := (blk_cell BK1085.out 0).trans rfl; have hcz124_1 : w123.cell? ⟨gb1085, 1, none⟩ = some (.int .i64 t1079) := (blk_cell BK1085.out 1).trans rfl; have hcz124_2 : w123.cell? ⟨gb1085, 2, none⟩ = some (.slice Ao44 t1080.length co44) := (blk_cell BK1085.out 2).trans rfl; have hfz124_0 := blk_frozen BK1085.out 0; have hfz124_1 := blk_frozen BK1085.out 1; have hfz124_2 := blk_frozen BK1085.out 2) | ((with_reducible refine gate_callee (f := 35) rfl ?_); refine goesL_ (some 104) rfl rfl Try.func35 (by kernel_rfl) rfl #[.agg #[.int .i64 t1078, .int .i64 t1079, .slice Ao44 t1097.length co44], .int .i64 1] rfl (by (try simp only [List.map_toArray, List.map_cons, List.map_nil]); first | done | (rw [show t1097.length = t1080.length from (Kd.R_reads' HO_1086002.out).1.symm] <;> rfl) | rfl | (simp only [List.length_drop, List.length_take]; rfl)) ?_; (with_reducible refine (laws_heldRow.calls kj76 t1078 t1079 _ _ t1097 1 t1098 _ ?side1 ?side2 A117.out).mono ?_); (case side1 => repeat (first | exact (Kd.R_reads' HO_1086002.out).2.2 | (with_reducible refine Kd.C_alloc ?_ _) | (with_reducible refine Kd.C_drewN ?_ _) | (with_reducible refine Kd.C_drew ?_))); (case side2 => rw [show t1097.length = t1080.length from (Kd.R_reads' HO_1086002.out).1.symm]; exact (Kd.R_reads' HO_1086002.out).2.1); rintro e w125 ⟨rfl, hb⟩; refine ⟨_, rfl, ?_⟩; have n0_ := Aside0.mk (Kd.R_below (rq_ HO_1072002.out) hb); have n1_ := Aside0.mk (Kd.R_below (rq_ HO_1078002.out) hb); have n2_ := Aside0.mk (Kd.R_below (rq_ HO_1086002.out) hb); have n3_ := Aside0.mk (bb_ BK1057.out hb); have n4_ := Aside0.mk (bb_ BK1071.out hb); have n5_ := Aside0.mk (bb_ BK1077.out hb); have n6_ := Aside0.mk (bb_ BK1085.out hb); have n7_ := Aside0.mk (below_step (hb_ HB.out) hb); clear HO_1072002; clear HO_1078002; clear HO_1086002; clear BK1057; clear BK1071; clear BK1077; clear BK1085; clear HB; have HO_1072002 := n0_; have HO_1078002 := n1_; have HO_1086002 := n2_; have BK1057 := n3_; have BK1071 := n4_; have BK1077 := n5_; have BK1085 := n6_; have HB := n7_; clear n0_ n1_ n2_ n3_ n4_ n5_ n6_ n7_; (try clear hb); (try clear hb2); (try clear hk); (try clear hi)))
            go_ret
            exact ⟨by first | rfl | (simp [errW_none, errW_some] <;> rfl) | (simp [*, errW_none, errW_some] <;> rfl), hb_ HB.out⟩
           ·
            rw [if_neg c118] at H
            have c118b0 : decide (t1098 < 0) = false := decide_eq_false c118
            clear c118
            by_cases c126 : t1098 = t1096
            ·
             rw [if_pos c126] at H
             have c126b0 : (t1098 == t1096) = true := beq_iff_eq.mpr c126
             have c126b1 : (t1098 != t1096) = false := bne_eq_false_iff_eq.mpr c126
             clear c126
             replace H := Option.bind_eq_some_iff.mp H
             obtain ⟨⟨t1099, t1100, t1101⟩, A1270, H⟩ := H
             replace H : ((impl_RowPut.f kj76 t1099 t1100 t1101 a1 a2 a3 a4).bind fun bt1104 => ((laws_eqRow.f kj76 bt1104.1 bt1104.2.1 bt1104.2.2.1 t1064 t1065 t1066).bind fun t1112 => (if t1112 = true then (if bt1104.2.2.2.1 = t1069 then (laws_FnExactRowPut.j2 kj76 t1096 (bt1104.2.2.2.2 != t1070) t1078 t1079 t1097) else (laws_FnExactRowPut.j2 kj76 t1096 true t1078 t1079 t1097)) else (laws_FnExactRowPut.j2 kj76 t1096 true t1078 t1079 t1097)))) = some r := H
             have A127 := Aside0.mk A1270
             clear A1270
             replace H := Option.bind_eq_some_iff.mp H
             obtain ⟨⟨t1104, t1105, t1106, t1109, t1110⟩, A1280, H⟩ := H
             replace H : ((laws_eqRow.f kj76 t1104 t1105 t1106 t1064 t1065 t1066).bind fun t1112 => (if t1112 = true then (if t1109 = t1069 then (laws_FnExactRowPut.j2 kj76 t1096 (t1110 != t1070) t1078 t1079 t1097) else (laws_FnExactRowPut.j2 kj76 t1096 true t1078 t1079 t1097)) else (laws_FnExactRowPut.j2 kj76 t1096 true t1078 t1079 t1097))) = some r := H
             have A128 := Aside0.mk A1280
             clear A1280
             have HC129 := Aside0.mk H
             clear H
             have hnb130 := NB1085_1057.out
             have hnc130 := NB1057_1085.out
             have hnb131 := NB1085_1071.out
             have hnc131 := NB1071_1085.out
             have hnb132 := NB1085_1077.out
             have hnc132 := NB1077_1085.out
             have hcz133_0 : wc.cell? ⟨gb1085, 0, none⟩ = some (.int .i64 t1078) := (blk_cell BK1085.out 0).trans rfl
             have hcz133_1 : wc.cell? ⟨gb1085, 1, none⟩ = some (.int .i64 t1079) := (blk_cell BK1085.out 1).trans rfl
             have hcz133_2 : wc.cell? ⟨gb1085, 2, none⟩ = some (.slice Ao44 t1080.length co44) := (blk_cell BK1085.out 2).trans rfl
             have hfz133_0 := blk_frozen BK1085.out 0
             have hfz133_1 := blk_frozen BK1085.out 1
             have hfz133_2 := blk_frozen BK1085.out 2
             go_upto_region 29 with (first | ((with_reducible refine gate_callee (f := 34) rfl ?_); refine goesL_ (some 101) rfl rfl Try.func34 (by kernel_rfl) rfl #[.agg #[.int .i64 t1078, .int .i64 t1079, .slice Ao44 t1080.length co44], .int .i64 1] rfl sm_ ?_; (with_reducible refine (laws_markRow.calls kj76 t1078 t1079 (fun k_ => some k_ = (.slice Ao44 t1080.length co44 : Value).ownBlock) (.slice Ao44 t1080.length co44) t1080 1 t1096 t1097 w _ ?side1 ?side2 A116.out).mono ?_); (case side1 => repeat (first | (with_reducible first | exact HB.out | apply below_alloc | apply pw_below_drewN | apply below_drew1 | refine below_set ?_ GE1057.out | refine below_set ?_ GE1071.out | refine below_set ?_ GE1077.out | refine below_set ?_ GE1085.out) | exact HB.out)); (case side2 => exact Kd.R_tight rfl HO_1086002.out); rintro e w134 ⟨rfl, hy0, hb, hkp⟩; refine ⟨_, rfl, ?_⟩; have n0_ := Aside0.mk (Kd.R_mono (ok' := fun k_ => some k_ ≠ (.slice Ao37 t1094.length co37 : Value).ownBlock ∧ some k_ ≠ (.slice Ao44 t1080.length co44 : Value).ownBlock) (Kd.R_keptB (HO_1072002.out) hkp (fun k_ hk_ hs_ => (hk_.2) hs_)) (fun k_ hk_ => ⟨hk_.1.1, hk_.1.2⟩)); have n1_ := Aside0.mk (Kd.R_mono (ok' := fun k_ => some k_ ≠ (.slice Ao30 t1066.length co30 : Value).ownBlock ∧ some k_ ≠ (.slice Ao44 t1080.length co44 : Value).ownBlock) (Kd.R_keptB (HO_1078002.out) hkp (fun k_ hk_ hs_ => (hk_.2) hs_)) (fun k_ hk_ => ⟨hk_.1.1, hk_.1.2⟩)); have n2_ := Aside0.mk (Kd.R_reok rfl hy0 (fun k_ e_ => HO_1086002.out.1 k_ e_)); have n3_ := Aside0.mk (blk_kept (bq_ BK1057.out) hkp (fun hs_ => (fun e_ => (Kd.R_ne HO_1086002.out BK1057.out (by decide)) e_) hs_)); have n4_ := Aside0.mk (blk_kept (bq_ BK1071.out) hkp (fun hs_ => (fun e_ => (Kd.R_ne HO_1086002.out BK1071.out (by decide)) e_) hs_)); have n5_ := Aside0.mk (blk_kept (bq_ BK1077.out) hkp (fun hs_ => (fun e_ => (Kd.R_ne HO_1086002.out BK1077.out (by decide)) e_) hs_)); have n6_ := Aside0.mk (blk_kept (bq_ BK1085.out) hkp (fun hs_ => (fun e_ => (Kd.R_ne HO_1086002.out BK1085.out (by decide)) e_) hs_)); have n7_ := Aside0.mk (hb); clear HO_1072002; clear HO_1078002; clear HO_1086002; clear BK1057; clear BK1071; clear BK1077; clear BK1085; clear HB; have HO_1072002 := n0_; have HO_1078002 := n1_; have HO_1086002 := n2_; have BK1057 := n3_; have BK1071 := n4_; have BK1077 := n5_; have BK1085 := n6_; have HB := n7_; clear n0_ n1_ n2_ n3_ n4_ n5_ n6_ n7_; (try clear hb); (try clear hkp); (try clear hy0); have hcz135_0 : w134.cell? ⟨gb1085, 0, none⟩ = some (.int .i64 t1078) := (blk_cell BK1085.out 0).trans rfl; have hcz135_1 : w134.cell? ⟨gb1085, 1, none⟩ = some (.int .i64 t1079) := (blk_cell BK1085.out 1).trans rfl; have hcz135_2 : w134.cell? ⟨gb1085, 2, none⟩ = some (.slice Ao44 t1080.length co44) := (blk_cell BK1085.out 2).trans rfl; have hfz135_0 := blk_frozen BK1085.out 0; have hfz135_1 := blk_frozen BK1085.out 1; have hfz135_2 := blk_frozen BK1085.out 2) | ((with_reducible refine gate_callee (f := 35) rfl ?_); refine goesL_ (some 104) rfl rfl Try.func35 (by kernel_rfl) rfl #[.agg #[.int .i64 t1078, .int .i64 t1079, .slice Ao44 t1097.length co44], .int .i64 1] rfl (by (try simp only [List.map_toArray, List.map_cons, List.map_nil]); first | done | (rw [show t1097.length = t1080.length from (Kd.R_reads' HO_1086002.out).1.symm] <;> rfl) | rfl | (simp only [List.length_drop, List.length_take]; rfl)) ?_; (with_reducible refine (laws_heldRow.calls kj76 t1078 t1079 _ _ t1097 1 t1098 _ ?side1 ?side2 A117.out).mono ?_); (case side1 => repeat (first | exact (Kd.R_reads' HO_1086002.out).2.2 | (with_reducible refine Kd.C_alloc ?_ _) | (with_reducible refine Kd.C_drewN ?_ _) | (with_reducible refine Kd.C_drew ?_))); (case side2 => rw [show t1097.length = t1080.length from (Kd.R_reads' HO_1086002.out).1.symm]; exact (Kd.R_reads' HO_1086002.out).2.1); rintro e w136 ⟨rfl, hb⟩; refine ⟨_, rfl, ?_⟩; have n0_ := Aside0.mk (Kd.R_below (rq_ HO_1072002.out) hb); have n1_ := Aside0.mk (Kd.R_below (rq_ HO_1078002.out) hb); have n2_ := Aside0.mk (Kd.R_below (rq_ HO_1086002.out) hb); have n3_ := Aside0.mk (bb_ BK1057.out hb); have n4_ := Aside0.mk (bb_ BK1071.out hb); have n5_ := Aside0.mk (bb_ BK1077.out hb); have n6_ := Aside0.mk (bb_ BK1085.out hb); have n7_ := Aside0.mk (below_step (hb_ HB.out) hb); clear HO_1072002; clear HO_1078002; clear HO_1086002; clear BK1057; clear BK1071; clear BK1077; clear BK1085; clear HB; have HO_1072002 := n0_; have HO_1078002 := n1_; have HO_1086002 := n2_; have BK1057 := n3_; have BK1071 := n4_; have BK1077 := n5_; have BK1085 := n6_; have HB := n7_; clear n0_ n1_ n2_ n3_ n4_ n5_ n6_ n7_; (try clear hb); (try clear hb2); (try clear hk); (try clear hi); have hnb137 := NB1057_1071.out; have hnc137 := NB1071_1057.out; have hnb138 := NB1057_1077.out; have hnc138 := NB1077_1057.out; have hcz139_0 : w136.cell? ⟨gb1057, 0, none⟩ = some (.int .i64 a0_0) := (blk_cell BK1057.out 0).trans rfl; have hcz139_1 : w136.cell? ⟨gb1057, 1, none⟩ = some (.int .i64 a0_1) := (blk_cell BK1057.out 1).trans rfl; have hcz139_2 : w136.cell? ⟨gb1057, 2, none⟩ = some (.slice A0_2 l0_2.length c0_2) := (blk_cell BK1057.out 2).trans rfl; have hfz139_0 := blk_frozen BK1057.out 0; have hfz139_1 := blk_frozen BK1057.out 1; have hfz139_2 := blk_frozen BK1057.out 2) | ((with_reducible refine gate_callee (f := 31) rfl ?_); refine goesL_ (some 112) rfl rfl Try.func31 (by kernel_rfl) rfl #[.agg #[.int .i64 a0_0, .int .i64 a0_1, .slice A0_2 l0_2.length c0_2]] rfl sm_ ?_; (with_reducible refine (laws_toRow.calls kj76 a0_0 a0_1 _ _ l0_2 t1099 t1100 t1101 _ ?side1 ?side2 A127.out).mono ?_); (case side1 => repeat (first | exact (Kd.C_below HR0_2.out HB.out) | (with_reducible refine Kd.C_alloc ?_ _) | (with_reducible refine Kd.C_drewN ?_ _) | (with_reducible refine Kd.C_drew ?_))); (case side2 => exact HC0_2.out); rintro e w140 ⟨v1102, rfl, ho0, hb⟩; refine ⟨_, rfl, ?_⟩; have n0_ := Aside0.mk (Kd.R_elder' (rq_ HO_1072002.out) (Kd.R_base ho0) hb); have n1_ := Aside0.mk (Kd.R_elder' (rq_ HO_1078002.out) (Kd.R_base ho0) hb); have n2_ := Aside0.mk (Kd.R_elder' (rq_ HO_1086002.out) (Kd.R_base ho0) hb); have n3_ := Aside0.mk (Kd.R_lower (Kd.R_new' (Kd.R_new' (Kd.R_new' ho0 (Kd.R_lt (rq_ HO_1072002.out))) (Kd.R_lt (rq_ HO_1078002.out))) (Kd.R_lt (rq_ HO_1086002.out))) (below_size (hb_ HB.out))); have n4_ := Aside0.mk (bb_ BK1057.out hb); have n5_ := Aside0.mk (bb_ BK1071.out hb); have n6_ := Aside0.mk (bb_ BK1077.out hb); have n7_ := Aside0.mk (bb_ BK1085.out hb); have n8_ := Aside0.mk (below_step (hb_ HB.out) hb); clear HO_1072002; clear HO_1078002; clear HO_1086002; clear BK1057; clear BK1071; clear BK1077; clear BK1085; clear HB; have HO_1072002 := n0_; have HO_1078002 := n1_; have HO_1086002 := n2_; have HO1103 := n3_; have BK1057 := n4_; have BK1071 := n5_; have BK1077 := n6_; have BK1085 := n7_; have HB := n8_; clear n0_ n1_ n2_ n3_ n4_ n5_ n6_ n7_ n8_; (try clear hb); (try clear hb2); (try clear hk); (try clear hi); (try clear ho0); obtain ⟨Ao141, co141, eo141⟩ := Kd.R_slice HO1103.out; subst eo141) | ((with_reducible refine gate_callee (f := 32) rfl ?_); refine goesL_ (some 117) rfl rfl Try.func32 (by kernel_rfl) rfl #[.agg #[.int .i64 t1099, .int .i64 t1100, .slice Ao141 t1101.length co141], .string a1, .string a2, .int .i64 a3, .int .i64 a4] rfl sm_ ?_; (with_reducible refine (impl_RowPut.calls kj76 t1099 t1100 _ _ t1101 a1 a2 a3 a4 t1104 t1105 t1106 t1109 t1110 _ ?side1 ?side2 A128.out).mono ?_); (case side1 => repeat (first | exact (Kd.R_reads' HO1103.out).2.2 | (with_reducible refine Kd.C_alloc ?_ _) | (with_reducible refine Kd.C_drewN ?_ _) | (with_reducible refine Kd.C_drew ?_))); (case side2 => exact (Kd.R_reads' HO1103.out).2.1); rintro e w142 ⟨v1107, rfl, ho0, hb⟩; refine ⟨_, rfl, ?_⟩; have n0_ := Aside0.mk (Kd.R_elder' (rq_ HO_1072002.out) (Kd.R_base ho0) hb); have n1_ := Aside0.mk (Kd.R_elder' (rq_ HO_1078002.out) (Kd.R_base ho0) hb); have n2_ := Aside0.mk (Kd.R_elder' (rq_ HO_1086002.out) (Kd.R_base ho0) hb); have n3_ := Aside0.mk (Kd.R_elder' (rq_ HO1103.out) (Kd.R_base ho0) hb); have n4_ := Aside0.mk (Kd.R_lower (Kd.R_new' (Kd.R_new' (Kd.R_new' (Kd.R_new' ho0 (Kd.R_lt (rq_ HO_1072002.out))) (Kd.R_lt (rq_ HO_1078002.out))) (Kd.R_lt (rq_ HO_1086002.out))) (Kd.R_lt (rq_ HO1103.out))) (below_size (hb_ HB.out))); have n5_ := Aside0.mk (bb_ BK1057.out hb); have n6_ := Aside0.mk (bb_ BK1071.out hb); have n7_ := Aside0.mk (bb_ BK1077.out hb); have n8_ := Aside0.mk (bb_ BK1085.out hb); have n9_ := Aside0.mk (below_step (hb_ HB.out) hb); clear HO_1072002; clear HO_1078002; clear HO_1086002; clear HO1103; clear BK1057; clear BK1071; clear BK1077; clear BK1085; clear HB; have HO_1072002 := n0_; have HO_1078002 := n1_; have HO_1086002 := n2_; have HO1103 := n3_; have HO1108 := n4_; have BK1057 := n5_; have BK1071 := n6_; have BK1077 := n7_; have BK1085 := n8_; have HB := n9_; clear n0_ n1_ n2_ n3_ n4_ n5_ n6_ n7_ n8_ n9_; (try clear hb); (try clear hb2); (try clear hk); (try clear hi); (try clear ho0)) | ((with_reducible refine gate_dst (N := 22) rfl ?_); refine box_event ?hg (N := 22) ?hd (cs := #[.int .i64 0, .int .i64 0, .slice none 0 0]) (t := 57) ?hr ?_; (case hd => rfl); (case hg => rfl); (case hr => first | (go_simp; done) | (go_simp; rfl)); intro gb1111 hg w143 hbox hb; have n0_ := Aside0.mk (Kd.R_below (rq_ HO_1072002.out) hb); have n1_ := Aside0.mk (Kd.R_below (rq_ HO_1078002.out) hb); have n2_ := Aside0.mk (Kd.R_below (rq_ HO_1086002.out) hb); have n3_ := Aside0.mk (Kd.R_below (rq_ HO1103.out) hb); have n4_ := Aside0.mk (Kd.R_below (rq_ HO1108.out) hb); have n5_ := Aside0.mk (bb_ BK1057.out hb); have n6_ := Aside0.mk (bb_ BK1071.out hb); have n7_ := Aside0.mk (bb_ BK1077.out hb); have n8_ := Aside0.mk (bb_ BK1085.out hb); have n9_ := Aside0.mk (below_step (hb_ HB.out) hb); have n10_ := Aside0.mk (hbox); have n11_ := Aside0.mk ((by rw [hg]; exact (below_size (hb_ HB.out)) : w.heap.size ≤ gb1111)); have n12_ := Aside0.mk ((by rw [hg]; exact (below_size (hb_ HB.out)) : w.heap.size ≤ gb1111)); have n13_ := Aside0.mk ((by rw [hg]; exact Nat.ne_of_lt (blk_lt (g := gb1057) (o := .cells #[.int .i64 a0_0, .int .i64 a0_1, .slice A0_2 l0_2.length c0_2] 53 (0, 0)) (bq_ BK1057.out)) : gb1057 ≠ gb1111)); have n14_ := Aside0.mk ((by rw [hg]; exact Nat.ne_of_gt (blk_lt (g := gb1057) (o := .cells #[.int .i64 a0_0, .int .i64 a0_1, .slice A0_2 l0_2.length c0_2] 53 (0, 0)) (bq_ BK1057.out)) : gb1111 ≠ gb1057)); have n15_ := Aside0.mk ((by rw [hg]; exact Nat.ne_of_lt (blk_lt (g := gb1071) (o := .cells #[.int .i64 t1064, .int .i64 t1065, .slice Ao30 t1066.length co30] 57 (0, 0)) (bq_ BK1071.out)) : gb1071 ≠ gb1111)); have n16_ := Aside0.mk ((by rw [hg]; exact Nat.ne_of_gt (blk_lt (g := gb1071) (o := .cells #[.int .i64 t1064, .int .i64 t1065, .slice Ao30 t1066.length co30] 57 (0, 0)) (bq_ BK1071.out)) : gb1111 ≠ gb1071)); have n17_ := Aside0.mk ((by rw [hg]; exact Nat.ne_of_lt (blk_lt (g := gb1077) (o := .cells #[.int .i64 t1072, .int .i64 t1073, .slice Ao37 t1094.length co37] 57 (0, 0)) (bq_ BK1077.out)) : gb1077 ≠ gb1111)); have n18_ := Aside0.mk ((by rw [hg]; exact Nat.ne_of_gt (blk_lt (g := gb1077) (o := .cells #[.int .i64 t1072, .int .i64 t1073, .slice Ao37 t1094.length co37] 57 (0, 0)) (bq_ BK1077.out)) : gb1111 ≠ gb1077)); have n19_ := Aside0.mk ((by rw [hg]; exact Nat.ne_of_lt (blk_lt (g := gb1085) (o := .cells #[.int .i64 t1078, .int .i64 t1079, .slice Ao44 t1080.length co44] 57 (0, 0)) (bq_ BK1085.out)) : gb1085 ≠ gb1111)); have n20_ := Aside0.mk ((by rw [hg]; exact Nat.ne_of_gt (blk_lt (g := gb1085) (o := .cells #[.int .i64 t1078, .int .i64 t1079, .slice Ao44 t1080.length co44] 57 (0, 0)) (bq_ BK1085.out)) : gb1111 ≠ gb1085)); clear HO_1072002; clear HO_1078002; clear HO_1086002; clear HO1103; clear HO1108; clear BK1057; clear BK1071; clear BK1077; clear BK1085; clear HB; have HO_1072002 := n0_; have HO_1078002 := n1_; have HO_1086002 := n2_; have HO1103 := n3_; have HO1108 := n4_; have BK1057 := n5_; have BK1071 := n6_; have BK1077 := n7_; have BK1085 := n8_; have HB := n9_; have BK1111 := n10_; have GW1111 := n11_; have GE1111 := n12_; have NB1057_1111 := n13_; have NB1111_1057 := n14_; have NB1071_1111 := n15_; have NB1111_1071 := n16_; have NB1077_1111 := n17_; have NB1111_1077 := n18_; have NB1085_1111 := n19_; have NB1111_1085 := n20_; clear n0_ n1_ n2_ n3_ n4_ n5_ n6_ n7_ n8_ n9_ n10_ n11_ n12_ n13_ n14_ n15_ n16_ n17_ n18_ n19_ n20_; clear hb hbox hg; have hnb144 := NB1111_1057.out; have hnc144 := NB1057_1111.out; have hnb145 := NB1111_1071.out; have hnc145 := NB1071_1111.out; have hnb146 := NB1111_1077.out; have hnc146 := NB1077_1111.out; have hnb147 := NB1111_1085.out; have hnc147 := NB1085_1111.out; have hcz148_0 : w143.cell? ⟨gb1111, 0, none⟩ = some (.int .i64 0) := (blk_cell BK1111.out 0).trans rfl; have hcz148_1 : w143.cell? ⟨gb1111, 1, none⟩ = some (.int .i64 0) := (blk_cell BK1111.out 1).trans rfl; have hcz148_2 : w143.cell? ⟨gb1111, 2, none⟩ = some (.slice none 0 0) := (blk_cell BK1111.out 2).trans rfl; have hfz148_0 := blk_frozen BK1111.out 0; have hfz148_1 := blk_frozen BK1111.out 1; have hfz148_2 := blk_frozen BK1111.out 2; obtain ⟨Ao149, co149, eo149⟩ := Kd.R_slice HO1108.out; subst eo149))
             (try simp only [Act.put, List.setIfInBounds_toArray, List.set_cons_zero, List.set_cons_succ])
             go_cut [134] (fun v134 wc => ∃ (kq : Nat) (x134_128 : Bool), v134 = .bool x134_128 ∧ Aside0 (laws_FnExactRowPut.j2 kq t1096 x134_128 t1078 t1079 t1097 = some r) ∧ Aside0 (kq ≤ kj76) ∧ Aside0 (Kd.R k_Item 69 wc w.heap.size (fun k_ => some k_ ≠ ((.slice Ao37 t1094.length co37) : Value).ownBlock ∧ some k_ ≠ ((.slice Ao44 t1080.length co44) : Value).ownBlock ∧ some k_ ≠ ((.slice Ao149 t1106.length co149) : Value).ownBlock) (.slice Ao30 t1066.length co30) t1066) ∧ Aside0 (Kd.R k_Item 69 wc w.heap.size (fun k_ => some k_ ≠ ((.slice Ao30 t1066.length co30) : Value).ownBlock ∧ some k_ ≠ ((.slice Ao44 t1080.length co44) : Value).ownBlock ∧ some k_ ≠ ((.slice Ao149 t1106.length co149) : Value).ownBlock) (.slice Ao37 t1094.length co37) t1094) ∧ Aside0 (Kd.R k_Item 69 wc w.heap.size (fun k_ => some k_ ≠ ((.slice Ao30 t1066.length co30) : Value).ownBlock ∧ some k_ ≠ ((.slice Ao37 t1094.length co37) : Value).ownBlock ∧ some k_ ≠ ((.slice Ao149 t1106.length co149) : Value).ownBlock) (.slice Ao44 t1080.length co44) t1097) ∧ Aside0 (Kd.R k_Item 69 wc w.heap.size (fun k_ => some k_ ≠ ((.slice Ao30 t1066.length co30) : Value).ownBlock ∧ some k_ ≠ ((.slice Ao37 t1094.length co37) : Value).ownBlock ∧ some k_ ≠ ((.slice Ao44 t1080.length co44) : Value).ownBlock) (.slice Ao149 t1106.length co149) t1106) ∧ Aside0 (wc.heap[gb1057]? = some (.cells #[.int .i64 a0_0, .int .i64 a0_1, (.slice A0_2 l0_2.length c0_2)] 53 (0, 0))) ∧ Aside0 (wc.heap[gb1071]? = some (.cells #[.int .i64 t1064, .int .i64 t1065, (.slice Ao30 t1066.length co30)] 57 (0, 0))) ∧ Aside0 (wc.heap[gb1077]? = some (.cells #[.int .i64 t1072, .int .i64 t1073, (.slice Ao37 t1094.length co37)] 57 (0, 0))) ∧ Aside0 (wc.heap[gb1085]? = some (.cells #[.int .i64 t1078, .int .i64 t1079, (.slice Ao44 t1080.length co44)] 57 (0, 0))) ∧ Aside0 (wc.heap[gb1111]? = some (.cells #[.int .i64 t1104, .int .i64 t1105, (.slice Ao149 t1106.length co149)] 57 (0, 0))) ∧ Aside0 (Below w.heap.size w wc))
             case first =>
              have H := HC129.out
              clear HC129
              replace H := Option.bind_eq_some_iff.mp H
              obtain ⟨t1112, A1500, H⟩ := H
              replace H : (if t1112 = true then (if t1109 = t1069 then (laws_FnExactRowPut.j2 kj76 t1096 (t1110 != t1070) t1078 t1079 t1097) else (laws_FnExactRowPut.j2 kj76 t1096 true t1078 t1079 t1097)) else (laws_FnExactRowPut.j2 kj76 t1096 true t1078 t1079 t1097)) = some r := H
              have A150 := Aside0.mk A1500
              clear A1500
              by_cases c151 : t1112 = true
              ·
               subst c151
               have H1 : (if t1109 = t1069 then (laws_FnExactRowPut.j2 kj76 t1096 (t1110 != t1070) t1078 t1079 t1097) else (laws_FnExactRowPut.j2 kj76 t1096 true t1078 t1079 t1097)) = some r := by rw [if_pos rfl] at H; exact H
               clear H
               have H := H1
               clear H1
               by_cases c152 : t1109 = t1069
               ·
                rw [if_pos c152] at H
                have c152b0 : (t1109 == t1069) = true := beq_iff_eq.mpr c152
                have c152b1 : (t1109 != t1069) = false := bne_eq_false_iff_eq.mpr c152
                clear c152
                (first | rw [c152b0] | (simp only [i64_w, i32_w]; rw [c152b0]) | rw [c152b4] | rw [c152b3] | skip)
                have H' := Aside0.mk H
                clear H
                have hnb153 := NB1111_1057.out
                have hnc153 := NB1057_1111.out
                have hnb154 := NB1111_1071.out
                have hnc154 := NB1071_1111.out
                have hnb155 := NB1111_1077.out
                have hnc155 := NB1077_1111.out
                have hnb156 := NB1111_1085.out
                have hnc156 := NB1085_1111.out
                have hcz157_0 : w143.cell? ⟨gb1111, 0, none⟩ = some (.int .i64 0) := (blk_cell BK1111.out 0).trans rfl
                have hcz157_1 : w143.cell? ⟨gb1111, 1, none⟩ = some (.int .i64 0) := (blk_cell BK1111.out 1).trans rfl
                have hcz157_2 : w143.cell? ⟨gb1111, 2, none⟩ = some (.slice none 0 0) := (blk_cell BK1111.out 2).trans rfl
                have hfz157_0 := blk_frozen BK1111.out 0
                have hfz157_1 := blk_frozen BK1111.out 1
                have hfz157_2 := blk_frozen BK1111.out 2
                have hnb158 := NB1071_1057.out
                have hnc158 := NB1057_1071.out
                have hnb159 := NB1071_1077.out
                have hnc159 := NB1077_1071.out
                have hnb160 := NB1071_1085.out
                have hnc160 := NB1085_1071.out
                have hcz161_0 : w143.cell? ⟨gb1071, 0, none⟩ = some (.int .i64 t1064) := (blk_cell BK1071.out 0).trans rfl
                have hcz161_1 : w143.cell? ⟨gb1071, 1, none⟩ = some (.int .i64 t1065) := (blk_cell BK1071.out 1).trans rfl
                have hcz161_2 : w143.cell? ⟨gb1071, 2, none⟩ = some (.slice Ao30 t1066.length co30) := (blk_cell BK1071.out 2).trans rfl
                have hfz161_0 := blk_frozen BK1071.out 0
                have hfz161_1 := blk_frozen BK1071.out 1
                have hfz161_2 := blk_frozen BK1071.out 2
                go_wp2_with (first | ((with_reducible refine gate_callee (f := 33) rfl ?_); refine goesL_ (some 123) rfl rfl Try.func33 (by kernel_rfl) rfl #[.agg #[.int .i64 t1104, .int .i64 t1105, .slice Ao149 t1106.length co149], .agg #[.int .i64 t1064, .int .i64 t1065, .slice Ao30 t1066.length co30]] rfl sm_ ?_; (with_reducible refine (laws_eqRow.calls kj76 t1104 t1105 _ _ t1106 t1064 t1065 _ _ t1066 true _ ?side1 ?side2 ?side3 ?side4 A150.out).mono ?_); (case side1 => refine (Kd.R_reads' (e := 69) (base := w.heap.size) (ok := fun k_ => ((((True ∧ some k_ ≠ (.slice Ao30 t1066.length co30 : Value).ownBlock) ∧ some k_ ≠ (.slice Ao37 t1094.length co37 : Value).ownBlock) ∧ some k_ ≠ (.slice Ao44 t1080.length co44 : Value).ownBlock) ∧ some k_ ≠ (.slice Ao141 t1101.length co141 : Value).ownBlock)) (n := t1106.length) (c := co149) ?_).2.2; exact (rk_ HO1108.out BK1111.out)); (case side2 => exact (Kd.R_reads' HO1108.out).2.1); (case side3 => refine (Kd.R_reads' (e := 69) (base := w.heap.size) (ok := fun k_ => (((some k_ ≠ (.slice Ao37 t1094.length co37 : Value).ownBlock ∧ some k_ ≠ (.slice Ao44 t1080.length co44 : Value).ownBlock) ∧ some k_ ≠ (.slice Ao141 t1101.length co141 : Value).ownBlock) ∧ some k_ ≠ (.slice Ao149 t1106.length co149 : Value).ownBlock)) (n := t1066.length) (c := co30) ?_).2.2; exact (rk_ HO_1072002.out BK1111.out)); (case side4 => exact (Kd.R_reads' HO_1072002.out).2.1); rintro e w162 ⟨rfl, hb⟩; refine ⟨_, rfl, ?_⟩; have n0_ := Aside0.mk (Kd.R_below (rk_ HO_1072002.out BK1111.out) hb); have n1_ := Aside0.mk (Kd.R_below (rk_ HO_1078002.out BK1111.out) hb); have n2_ := Aside0.mk (Kd.R_below (rk_ HO_1086002.out BK1111.out) hb); have n3_ := Aside0.mk (Kd.R_below (rk_ HO1103.out BK1111.out) hb); have n4_ := Aside0.mk (Kd.R_below (rk_ HO1108.out BK1111.out) hb); have n5_ := Aside0.mk (blk_below (g := gb1057) (o := .cells #[.int .i64 a0_0, .int .i64 a0_1, .slice A0_2 l0_2.length c0_2] 53 (0, 0)) (bf_ NB1057_1111.out BK1057.out) hb); have n6_ := Aside0.mk (blk_below (g := gb1071) (o := .cells #[.int .i64 t1064, .int .i64 t1065, .slice Ao30 t1066.length co30] 57 (0, 0)) (bf_ NB1071_1111.out BK1071.out) hb); have n7_ := Aside0.mk (blk_below (g := gb1077) (o := .cells #[.int .i64 t1072, .int .i64 t1073, .slice Ao37 t1094.length co37] 57 (0, 0)) (bf_ NB1077_1111.out BK1077.out) hb); have n8_ := Aside0.mk (blk_below (g := gb1085) (o := .cells #[.int .i64 t1078, .int .i64 t1079, .slice Ao44 t1080.length co44] 57 (0, 0)) (bf_ NB1085_1111.out BK1085.out) hb); have n9_ := Aside0.mk (blk_below (g := gb1111) (o := .cells #[.int .i64 t1104, .int .i64 t1105, .slice Ao149 t1106.length co149] 57 (0, 0)) (bp_ BK1111.out) hb); have n10_ := Aside0.mk (below_step (hb_ HB.out) hb); clear HO_1072002; clear HO_1078002; clear HO_1086002; clear HO1103; clear HO1108; clear BK1057; clear BK1071; clear BK1077; clear BK1085; clear BK1111; clear HB; have HO_1072002 := n0_; have HO_1078002 := n1_; have HO_1086002 := n2_; have HO1103 := n3_; have HO1108 := n4_; have BK1057 := n5_; have BK1071 := n6_; have BK1077 := n7_; have BK1085 := n8_; have BK1111 := n9_; have HB := n10_; clear n0_ n1_ n2_ n3_ n4_ n5_ n6_ n7_ n8_ n9_ n10_; (try clear hb); (try clear hb2); (try clear hk); (try clear hi)))
                go_meet
                case rel => exact ⟨_, ((t1110 != t1070)), (by first | rfl | (simp; done) | (simp [*]; done)), H', ⟨by have := HJ18.out; have := HJ76.out; first | omega | exact Nat.le_refl _⟩, ⟨by (try simp only [hl1078002_76]); (with_reducible repeat (first | apply Kd.R_alloc | apply Kd.R_drewN | apply Kd.R_drew)); exact Kd.R_mono HO_1072002.out (fun _ hk => ⟨hk.1.1.1, ⟨hk.1.1.2, hk.2⟩⟩)⟩, ⟨by (try simp only [hl1078002_76]); (with_reducible repeat (first | apply Kd.R_alloc | apply Kd.R_drewN | apply Kd.R_drew)); exact Kd.R_mono HO_1078002.out (fun _ hk => ⟨hk.1.1.1, ⟨hk.1.1.2, hk.2⟩⟩)⟩, ⟨by (try simp only [hl1078002_76]); (with_reducible repeat (first | apply Kd.R_alloc | apply Kd.R_drewN | apply Kd.R_drew)); exact Kd.R_mono HO_1086002.out (fun _ hk => ⟨hk.1.1.1, ⟨hk.1.1.2, hk.2⟩⟩)⟩, ⟨by (try simp only [hl1078002_76]); (with_reducible repeat (first | apply Kd.R_alloc | apply Kd.R_drewN | apply Kd.R_drew)); exact Kd.R_mono HO1108.out (fun _ hk => ⟨hk.1.1.1.2, ⟨hk.1.1.2, hk.1.2⟩⟩)⟩, ⟨by (try simp only [hl1078002_76]); (with_reducible repeat (first | refine blk_drewN ?_ _ | refine blk_drew ?_ | refine blk_alloc ?_ _)); exact BK1057.out⟩, ⟨by (try simp only [hl1078002_76]); (with_reducible repeat (first | refine blk_drewN ?_ _ | refine blk_drew ?_ | refine blk_alloc ?_ _)); exact BK1071.out⟩, ⟨by (try simp only [hl1078002_76]); (with_reducible repeat (first | refine blk_drewN ?_ _ | refine blk_drew ?_ | refine blk_alloc ?_ _)); exact BK1077.out⟩, ⟨by (try simp only [hl1078002_76]); (with_reducible repeat (first | refine blk_drewN ?_ _ | refine blk_drew ?_ | refine blk_alloc ?_ _)); exact BK1085.out⟩, ⟨by (try simp only [hl1078002_76]); (with_reducible repeat (first | refine blk_drewN ?_ _ | refine blk_drew ?_ | refine blk_alloc ?_ _)); exact BK1111.out⟩, ⟨hb_ HB.out⟩⟩
               ·
                rw [if_neg c152] at H
                have c152b0 : (t1109 == t1069) = false := beq_eq_false_iff_ne.mpr c152
                have c152b1 : (t1109 != t1069) = true := bne_iff_ne.mpr c152
                (first | rw [c152b0] | (simp only [i64_w, i32_w]; rw [c152b0]) | rw [c152b4] | rw [c152b3] | skip)
                have H' := Aside0.mk H
                clear H
                have hnb163 := NB1111_1057.out
                have hnc163 := NB1057_1111.out
                have hnb164 := NB1111_1071.out
                have hnc164 := NB1071_1111.out
                have hnb165 := NB1111_1077.out
                have hnc165 := NB1077_1111.out
                have hnb166 := NB1111_1085.out
                have hnc166 := NB1085_1111.out
                have hcz167_0 : w143.cell? ⟨gb1111, 0, none⟩ = some (.int .i64 0) := (blk_cell BK1111.out 0).trans rfl
                have hcz167_1 : w143.cell? ⟨gb1111, 1, none⟩ = some (.int .i64 0) := (blk_cell BK1111.out 1).trans rfl
                have hcz167_2 : w143.cell? ⟨gb1111, 2, none⟩ = some (.slice none 0 0) := (blk_cell BK1111.out 2).trans rfl
                have hfz167_0 := blk_frozen BK1111.out 0
                have hfz167_1 := blk_frozen BK1111.out 1
                have hfz167_2 := blk_frozen BK1111.out 2
                have hnb168 := NB1071_1057.out
                have hnc168 := NB1057_1071.out
                have hnb169 := NB1071_1077.out
                have hnc169 := NB1077_1071.out
                have hnb170 := NB1071_1085.out
                have hnc170 := NB1085_1071.out
                have hcz171_0 : w143.cell? ⟨gb1071, 0, none⟩ = some (.int .i64 t1064) := (blk_cell BK1071.out 0).trans rfl
                have hcz171_1 : w143.cell? ⟨gb1071, 1, none⟩ = some (.int .i64 t1065) := (blk_cell BK1071.out 1).trans rfl
                have hcz171_2 : w143.cell? ⟨gb1071, 2, none⟩ = some (.slice Ao30 t1066.length co30) := (blk_cell BK1071.out 2).trans rfl
                have hfz171_0 := blk_frozen BK1071.out 0
                have hfz171_1 := blk_frozen BK1071.out 1
                have hfz171_2 := blk_frozen BK1071.out 2
                go_wp2_with (first | ((with_reducible refine gate_callee (f := 33) rfl ?_); refine goesL_ (some 123) rfl rfl Try.func33 (by kernel_rfl) rfl #[.agg #[.int .i64 t1104, .int .i64 t1105, .slice Ao149 t1106.length co149], .agg #[.int .i64 t1064, .int .i64 t1065, .slice Ao30 t1066.length co30]] rfl sm_ ?_; (with_reducible refine (laws_eqRow.calls kj76 t1104 t1105 _ _ t1106 t1064 t1065 _ _ t1066 true _ ?side1 ?side2 ?side3 ?side4 A150.out).mono ?_); (case side1 => refine (Kd.R_reads' (e := 69) (base := w.heap.size) (ok := fun k_ => ((((True ∧ some k_ ≠ (.slice Ao30 t1066.length co30 : Value).ownBlock) ∧ some k_ ≠ (.slice Ao37 t1094.length co37 : Value).ownBlock) ∧ some k_ ≠ (.slice Ao44 t1080.length co44 : Value).ownBlock) ∧ some k_ ≠ (.slice Ao141 t1101.length co141 : Value).ownBlock)) (n := t1106.length) (c := co149) ?_).2.2; exact (rk_ HO1108.out BK1111.out)); (case side2 => exact (Kd.R_reads' HO1108.out).2.1); (case side3 => refine (Kd.R_reads' (e := 69) (base := w.heap.size) (ok := fun k_ => (((some k_ ≠ (.slice Ao37 t1094.length co37 : Value).ownBlock ∧ some k_ ≠ (.slice Ao44 t1080.length co44 : Value).ownBlock) ∧ some k_ ≠ (.slice Ao141 t1101.length co141 : Value).ownBlock) ∧ some k_ ≠ (.slice Ao149 t1106.length co149 : Value).ownBlock)) (n := t1066.length) (c := co30) ?_).2.2; exact (rk_ HO_1072002.out BK1111.out)); (case side4 => exact (Kd.R_reads' HO_1072002.out).2.1); rintro e w172 ⟨rfl, hb⟩; refine ⟨_, rfl, ?_⟩; have n0_ := Aside0.mk (Kd.R_below (rk_ HO_1072002.out BK1111.out) hb); have n1_ := Aside0.mk (Kd.R_below (rk_ HO_1078002.out BK1111.out) hb); have n2_ := Aside0.mk (Kd.R_below (rk_ HO_1086002.out BK1111.out) hb); have n3_ := Aside0.mk (Kd.R_below (rk_ HO1103.out BK1111.out) hb); have n4_ := Aside0.mk (Kd.R_below (rk_ HO1108.out BK1111.out) hb); have n5_ := Aside0.mk (blk_below (g := gb1057) (o := .cells #[.int .i64 a0_0, .int .i64 a0_1, .slice A0_2 l0_2.length c0_2] 53 (0, 0)) (bf_ NB1057_1111.out BK1057.out) hb); have n6_ := Aside0.mk (blk_below (g := gb1071) (o := .cells #[.int .i64 t1064, .int .i64 t1065, .slice Ao30 t1066.length co30] 57 (0, 0)) (bf_ NB1071_1111.out BK1071.out) hb); have n7_ := Aside0.mk (blk_below (g := gb1077) (o := .cells #[.int .i64 t1072, .int .i64 t1073, .slice Ao37 t1094.length co37] 57 (0, 0)) (bf_ NB1077_1111.out BK1077.out) hb); have n8_ := Aside0.mk (blk_below (g := gb1085) (o := .cells #[.int .i64 t1078, .int .i64 t1079, .slice Ao44 t1080.length co44] 57 (0, 0)) (bf_ NB1085_1111.out BK1085.out) hb); have n9_ := Aside0.mk (blk_below (g := gb1111) (o := .cells #[.int .i64 t1104, .int .i64 t1105, .slice Ao149 t1106.length co149] 57 (0, 0)) (bp_ BK1111.out) hb); have n10_ := Aside0.mk (below_step (hb_ HB.out) hb); clear HO_1072002; clear HO_1078002; clear HO_1086002; clear HO1103; clear HO1108; clear BK1057; clear BK1071; clear BK1077; clear BK1085; clear BK1111; clear HB; have HO_1072002 := n0_; have HO_1078002 := n1_; have HO_1086002 := n2_; have HO1103 := n3_; have HO1108 := n4_; have BK1057 := n5_; have BK1071 := n6_; have BK1077 := n7_; have BK1085 := n8_; have BK1111 := n9_; have HB := n10_; clear n0_ n1_ n2_ n3_ n4_ n5_ n6_ n7_ n8_ n9_ n10_; (try clear hb); (try clear hb2); (try clear hk); (try clear hi)))
                go_meet
                case rel => exact ⟨_, (true), (by first | rfl | (simp; done) | (simp [*]; done)), H', ⟨by have := HJ18.out; have := HJ76.out; first | omega | exact Nat.le_refl _⟩, ⟨by (try simp only [hl1078002_76]); (with_reducible repeat (first | apply Kd.R_alloc | apply Kd.R_drewN | apply Kd.R_drew)); exact Kd.R_mono HO_1072002.out (fun _ hk => ⟨hk.1.1.1, ⟨hk.1.1.2, hk.2⟩⟩)⟩, ⟨by (try simp only [hl1078002_76]); (with_reducible repeat (first | apply Kd.R_alloc | apply Kd.R_drewN | apply Kd.R_drew)); exact Kd.R_mono HO_1078002.out (fun _ hk => ⟨hk.1.1.1, ⟨hk.1.1.2, hk.2⟩⟩)⟩, ⟨by (try simp only [hl1078002_76]); (with_reducible repeat (first | apply Kd.R_alloc | apply Kd.R_drewN | apply Kd.R_drew)); exact Kd.R_mono HO_1086002.out (fun _ hk => ⟨hk.1.1.1, ⟨hk.1.1.2, hk.2⟩⟩)⟩, ⟨by (try simp only [hl1078002_76]); (with_reducible repeat (first | apply Kd.R_alloc | apply Kd.R_drewN | apply Kd.R_drew)); exact Kd.R_mono HO1108.out (fun _ hk => ⟨hk.1.1.1.2, ⟨hk.1.1.2, hk.1.2⟩⟩)⟩, ⟨by (try simp only [hl1078002_76]); (with_reducible repeat (first | refine blk_drewN ?_ _ | refine blk_drew ?_ | refine blk_alloc ?_ _)); exact BK1057.out⟩, ⟨by (try simp only [hl1078002_76]); (with_reducible repeat (first | refine blk_drewN ?_ _ | refine blk_drew ?_ | refine blk_alloc ?_ _)); exact BK1071.out⟩, ⟨by (try simp only [hl1078002_76]); (with_reducible repeat (first | refine blk_drewN ?_ _ | refine blk_drew ?_ | refine blk_alloc ?_ _)); exact BK1077.out⟩, ⟨by (try simp only [hl1078002_76]); (with_reducible repeat (first | refine blk_drewN ?_ _ | refine blk_drew ?_ | refine blk_alloc ?_ _)); exact BK1085.out⟩, ⟨by (try simp only [hl1078002_76]); (with_reducible repeat (first | refine blk_drewN ?_ _ | refine blk_drew ?_ | refine blk_alloc ?_ _)); exact BK1111.out⟩, ⟨hb_ HB.out⟩⟩
              ·
               replace c151 := Bool.eq_false_iff.mpr c151
               subst c151
               have H1 : (laws_FnExactRowPut.j2 kj76 t1096 true t1078 t1079 t1097) = some r := by rw [if_neg (show ¬ (false = true) by decide)] at H; exact H
               clear H
               have H := H1
               clear H1
               have H' := Aside0.mk H
               clear H
               have hnb173 := NB1111_1057.out
               have hnc173 := NB1057_1111.out
               have hnb174 := NB1111_1071.out
               have hnc174 := NB1071_1111.out
               have hnb175 := NB1111_1077.out
               have hnc175 := NB1077_1111.out
               have hnb176 := NB1111_1085.out
               have hnc176 := NB1085_1111.out
               have hcz177_0 : w143.cell? ⟨gb1111, 0, none⟩ = some (.int .i64 0) := (blk_cell BK1111.out 0).trans rfl
               have hcz177_1 : w143.cell? ⟨gb1111, 1, none⟩ = some (.int .i64 0) := (blk_cell BK1111.out 1).trans rfl
               have hcz177_2 : w143.cell? ⟨gb1111, 2, none⟩ = some (.slice none 0 0) := (blk_cell BK1111.out 2).trans rfl
               have hfz177_0 := blk_frozen BK1111.out 0
               have hfz177_1 := blk_frozen BK1111.out 1
               have hfz177_2 := blk_frozen BK1111.out 2
               have hnb178 := NB1071_1057.out
               have hnc178 := NB1057_1071.out
               have hnb179 := NB1071_1077.out
               have hnc179 := NB1077_1071.out
               have hnb180 := NB1071_1085.out
               have hnc180 := NB1085_1071.out
               have hcz181_0 : w143.cell? ⟨gb1071, 0, none⟩ = some (.int .i64 t1064) := (blk_cell BK1071.out 0).trans rfl
               have hcz181_1 : w143.cell? ⟨gb1071, 1, none⟩ = some (.int .i64 t1065) := (blk_cell BK1071.out 1).trans rfl
               have hcz181_2 : w143.cell? ⟨gb1071, 2, none⟩ = some (.slice Ao30 t1066.length co30) := (blk_cell BK1071.out 2).trans rfl
               have hfz181_0 := blk_frozen BK1071.out 0
               have hfz181_1 := blk_frozen BK1071.out 1
               have hfz181_2 := blk_frozen BK1071.out 2
               go_wp2_with (first | ((with_reducible refine gate_callee (f := 33) rfl ?_); refine goesL_ (some 123) rfl rfl Try.func33 (by kernel_rfl) rfl #[.agg #[.int .i64 t1104, .int .i64 t1105, .slice Ao149 t1106.length co149], .agg #[.int .i64 t1064, .int .i64 t1065, .slice Ao30 t1066.length co30]] rfl sm_ ?_; (with_reducible refine (laws_eqRow.calls kj76 t1104 t1105 _ _ t1106 t1064 t1065 _ _ t1066 false _ ?side1 ?side2 ?side3 ?side4 A150.out).mono ?_); (case side1 => refine (Kd.R_reads' (e := 69) (base := w.heap.size) (ok := fun k_ => ((((True ∧ some k_ ≠ (.slice Ao30 t1066.length co30 : Value).ownBlock) ∧ some k_ ≠ (.slice Ao37 t1094.length co37 : Value).ownBlock) ∧ some k_ ≠ (.slice Ao44 t1080.length co44 : Value).ownBlock) ∧ some k_ ≠ (.slice Ao141 t1101.length co141 : Value).ownBlock)) (n := t1106.length) (c := co149) ?_).2.2; exact (rk_ HO1108.out BK1111.out)); (case side2 => exact (Kd.R_reads' HO1108.out).2.1); (case side3 => refine (Kd.R_reads' (e := 69) (base := w.heap.size) (ok := fun k_ => (((some k_ ≠ (.slice Ao37 t1094.length co37 : Value).ownBlock ∧ some k_ ≠ (.slice Ao44 t1080.length co44 : Value).ownBlock) ∧ some k_ ≠ (.slice Ao141 t1101.length co141 : Value).ownBlock) ∧ some k_ ≠ (.slice Ao149 t1106.length co149 : Value).ownBlock)) (n := t1066.length) (c := co30) ?_).2.2; exact (rk_ HO_1072002.out BK1111.out)); (case side4 => exact (Kd.R_reads' HO_1072002.out).2.1); rintro e w182 ⟨rfl, hb⟩; refine ⟨_, rfl, ?_⟩; have n0_ := Aside0.mk (Kd.R_below (rk_ HO_1072002.out BK1111.out) hb); have n1_ := Aside0.mk (Kd.R_below (rk_ HO_1078002.out BK1111.out) hb); have n2_ := Aside0.mk (Kd.R_below (rk_ HO_1086002.out BK1111.out) hb); have n3_ := Aside0.mk (Kd.R_below (rk_ HO1103.out BK1111.out) hb); have n4_ := Aside0.mk (Kd.R_below (rk_ HO1108.out BK1111.out) hb); have n5_ := Aside0.mk (blk_below (g := gb1057) (o := .cells #[.int .i64 a0_0, .int .i64 a0_1, .slice A0_2 l0_2.length c0_2] 53 (0, 0)) (bf_ NB1057_1111.out BK1057.out) hb); have n6_ := Aside0.mk (blk_below (g := gb1071) (o := .cells #[.int .i64 t1064, .int .i64 t1065, .slice Ao30 t1066.length co30] 57 (0, 0)) (bf_ NB1071_1111.out BK1071.out) hb); have n7_ := Aside0.mk (blk_below (g := gb1077) (o := .cells #[.int .i64 t1072, .int .i64 t1073, .slice Ao37 t1094.length co37] 57 (0, 0)) (bf_ NB1077_1111.out BK1077.out) hb); have n8_ := Aside0.mk (blk_below (g := gb1085) (o := .cells #[.int .i64 t1078, .int .i64 t1079, .slice Ao44 t1080.length co44] 57 (0, 0)) (bf_ NB1085_1111.out BK1085.out) hb); have n9_ := Aside0.mk (blk_below (g := gb1111) (o := .cells #[.int .i64 t1104, .int .i64 t1105, .slice Ao149 t1106.length co149] 57 (0, 0)) (bp_ BK1111.out) hb); have n10_ := Aside0.mk (below_step (hb_ HB.out) hb); clear HO_1072002; clear HO_1078002; clear HO_1086002; clear HO1103; clear HO1108; clear BK1057; clear BK1071; clear BK1077; clear BK1085; clear BK1111; clear HB; have HO_1072002 := n0_; have HO_1078002 := n1_; have HO_1086002 := n2_; have HO1103 := n3_; have HO1108 := n4_; have BK1057 := n5_; have BK1071 := n6_; have BK1077 := n7_; have BK1085 := n8_; have BK1111 := n9_; have HB := n10_; clear n0_ n1_ n2_ n3_ n4_ n5_ n6_ n7_ n8_ n9_ n10_; (try clear hb); (try clear hb2); (try clear hk); (try clear hi)))
               go_meet
               case rel => exact ⟨_, (true), (by first | rfl | (simp; done) | (simp [*]; done)), H', ⟨by have := HJ18.out; have := HJ76.out; first | omega | exact Nat.le_refl _⟩, ⟨by (try simp only [hl1078002_76]); (with_reducible repeat (first | apply Kd.R_alloc | apply Kd.R_drewN | apply Kd.R_drew)); exact Kd.R_mono HO_1072002.out (fun _ hk => ⟨hk.1.1.1, ⟨hk.1.1.2, hk.2⟩⟩)⟩, ⟨by (try simp only [hl1078002_76]); (with_reducible repeat (first | apply Kd.R_alloc | apply Kd.R_drewN | apply Kd.R_drew)); exact Kd.R_mono HO_1078002.out (fun _ hk => ⟨hk.1.1.1, ⟨hk.1.1.2, hk.2⟩⟩)⟩, ⟨by (try simp only [hl1078002_76]); (with_reducible repeat (first | apply Kd.R_alloc | apply Kd.R_drewN | apply Kd.R_drew)); exact Kd.R_mono HO_1086002.out (fun _ hk => ⟨hk.1.1.1, ⟨hk.1.1.2, hk.2⟩⟩)⟩, ⟨by (try simp only [hl1078002_76]); (with_reducible repeat (first | apply Kd.R_alloc | apply Kd.R_drewN | apply Kd.R_drew)); exact Kd.R_mono HO1108.out (fun _ hk => ⟨hk.1.1.1.2, ⟨hk.1.1.2, hk.1.2⟩⟩)⟩, ⟨by (try simp only [hl1078002_76]); (with_reducible repeat (first | refine blk_drewN ?_ _ | refine blk_drew ?_ | refine blk_alloc ?_ _)); exact BK1057.out⟩, ⟨by (try simp only [hl1078002_76]); (with_reducible repeat (first | refine blk_drewN ?_ _ | refine blk_drew ?_ | refine blk_alloc ?_ _)); exact BK1071.out⟩, ⟨by (try simp only [hl1078002_76]); (with_reducible repeat (first | refine blk_drewN ?_ _ | refine blk_drew ?_ | refine blk_alloc ?_ _)); exact BK1077.out⟩, ⟨by (try simp only [hl1078002_76]); (with_reducible repeat (first | refine blk_drewN ?_ _ | refine blk_drew ?_ | refine blk_alloc ?_ _)); exact BK1085.out⟩, ⟨by (try simp only [hl1078002_76]); (with_reducible repeat (first | refine blk_drewN ?_ _ | refine blk_drew ?_ | refine blk_alloc ?_ _)); exact BK1111.out⟩, ⟨hb_ HB.out⟩⟩
             case rest =>
              clear HC129
              (try clear c1); (try clear c2); (try clear p2); (try clear c3); (try clear c4); (try clear c5); (try clear c6); (try clear c6b0); (try clear c6b1); (try clear c7); (try clear c8); (try clear c8b0); (try clear c8b1); (try clear c9); (try clear c10); (try clear c11); (try clear c11b0); (try clear c12); (try clear c13); (try clear c14); (try clear c15); (try clear c16); (try clear c17); (try clear c18); (try clear c28); (try clear c29); (try clear c30); (try clear c31); (try clear c32); (try clear c33); (try clear c34); (try clear c35); (try clear c40); (try clear c41); (try clear c42); (try clear c46); (try clear c47); (try clear c47b0); (try clear c47b1); (try clear c48); (try clear c49); (try clear c50); (try clear c52); (try clear c53); (try clear c56); (try clear c57); (try clear c58); (try clear c60); (try clear c61); (try clear c64); (try clear c65); (try clear c66); (try clear c68); (try clear c69); (try clear c72); (try clear c75); (try clear c82); (try clear c83); (try clear c84); (try clear c87); (try clear c87b0); (try clear c89); (try clear c90); (try clear c90b0); (try clear c90b1); (try clear c91); (try clear c92); (try clear c93); (try clear c95); (try clear c96); (try clear c99); (try clear c100); (try clear c101); (try clear c103); (try clear c104); (try clear c107); (try clear c108); (try clear c109); (try clear c111); (try clear c112); (try clear c115); (try clear c118); (try clear c118b0); (try clear c119); (try clear c120); (try clear c121); (try clear c126); (try clear c126b0); (try clear c126b1); (try clear c130); (try clear c131); (try clear c132); (try clear c137); (try clear c138); (try clear c144); (try clear c145); (try clear c146); (try clear c147); (try clear c151); (try clear c152); (try clear c152b0); (try clear c152b1); (try clear c153); (try clear c154); (try clear c155); (try clear c156); (try clear c158); (try clear c159); (try clear c160); (try clear c163); (try clear c164); (try clear c165); (try clear c166); (try clear c168); (try clear c169); (try clear c170); (try clear c173); (try clear c174); (try clear c175); (try clear c176); (try clear c178); (try clear c179); (try clear c180); (try clear hcz102_0); (try clear hcz102_1); (try clear hcz102_2); (try clear hcz105_0); (try clear hcz105_1); (try clear hcz105_2); (try clear hcz110_0); (try clear hcz110_1); (try clear hcz110_2); (try clear hcz113_0); (try clear hcz113_1); (try clear hcz113_2); (try clear hcz122_0); (try clear hcz122_1); (try clear hcz122_2); (try clear hcz124_0); (try clear hcz124_1); (try clear hcz124_2); (try clear hcz133_0); (try clear hcz133_1); (try clear hcz133_2); (try clear hcz135_0); (try clear hcz135_1); (try clear hcz135_2); (try clear hcz139_0); (try clear hcz139_1); (try clear hcz139_2); (try clear hcz13_0); (try clear hcz13_1); (try clear hcz13_2); (try clear hcz148_0); (try clear hcz148_1); (try clear hcz148_2); (try clear hcz157_0); (try clear hcz157_1); (try clear hcz157_2); (try clear hcz161_0); (try clear hcz161_1); (try clear hcz161_2); (try clear hcz167_0); (try clear hcz167_1); (try clear hcz167_2); (try clear hcz171_0); (try clear hcz171_1); (try clear hcz171_2); (try clear hcz177_0); (try clear hcz177_1); (try clear hcz177_2); (try clear hcz181_0); (try clear hcz181_1); (try clear hcz181_2); (try clear hcz21_0); (try clear hcz21_1); (try clear hcz21_2); (try clear hcz23_0); (try clear hcz23_1); (try clear hcz23_2); (try clear hcz29_0); (try clear hcz29_1); (try clear hcz29_2); (try clear hcz31_0); (try clear hcz31_1); (try clear hcz31_2); (try clear hcz36_0); (try clear hcz36_1); (try clear hcz36_2); (try clear hcz43_0); (try clear hcz43_1); (try clear hcz43_2); (try clear hcz51_0); (try clear hcz51_1); (try clear hcz51_2); (try clear hcz54_0); (try clear hcz54_1); (try clear hcz54_2); (try clear hcz59_0); (try clear hcz59_1); (try clear hcz59_2); (try clear hcz62_0); (try clear hcz62_1); (try clear hcz62_2); (try clear hcz67_0); (try clear hcz67_1); (try clear hcz67_2); (try clear hcz70_0); (try clear hcz70_1); (try clear hcz70_2); (try clear hcz85_0); (try clear hcz85_1); (try clear hcz85_2); (try clear hcz94_0); (try clear hcz94_1); (try clear hcz94_2); (try clear hcz97_0); (try clear hcz97_1); (try clear hcz97_2); (try clear hfz102_0); (try clear hfz102_1); (try clear hfz102_2); (try clear hfz105_0); (try clear hfz105_1); (try clear hfz105_2); (try clear hfz110_0); (try clear hfz110_1); (try clear hfz110_2); (try clear hfz113_0); (try clear hfz113_1); (try clear hfz113_2); (try clear hfz122_0); (try clear hfz122_1); (try clear hfz122_2); (try clear hfz124_0); (try clear hfz124_1); (try clear hfz124_2); (try clear hfz133_0); (try clear hfz133_1); (try clear hfz133_2); (try clear hfz135_0); (try clear hfz135_1); (try clear hfz135_2); (try clear hfz139_0); (try clear hfz139_1); (try clear hfz139_2); (try clear hfz13_0); (try clear hfz13_1); (try clear hfz13_2); (try clear hfz148_0); (try clear hfz148_1); (try clear hfz148_2); (try clear hfz157_0); (try clear hfz157_1); (try clear hfz157_2); (try clear hfz161_0); (try clear hfz161_1); (try clear hfz161_2); (try clear hfz167_0); (try clear hfz167_1); (try clear hfz167_2); (try clear hfz171_0); (try clear hfz171_1); (try clear hfz171_2); (try clear hfz177_0); (try clear hfz177_1); (try clear hfz177_2); (try clear hfz181_0); (try clear hfz181_1); (try clear hfz181_2); (try clear hfz21_0); (try clear hfz21_1); (try clear hfz21_2); (try clear hfz23_0); (try clear hfz23_1); (try clear hfz23_2); (try clear hfz29_0); (try clear hfz29_1); (try clear hfz29_2); (try clear hfz31_0); (try clear hfz31_1); (try clear hfz31_2); (try clear hfz36_0); (try clear hfz36_1); (try clear hfz36_2); (try clear hfz43_0); (try clear hfz43_1); (try clear hfz43_2); (try clear hfz51_0); (try clear hfz51_1); (try clear hfz51_2); (try clear hfz54_0); (try clear hfz54_1); (try clear hfz54_2); (try clear hfz59_0); (try clear hfz59_1); (try clear hfz59_2); (try clear hfz62_0); (try clear hfz62_1); (try clear hfz62_2); (try clear hfz67_0); (try clear hfz67_1); (try clear hfz67_2); (try clear hfz70_0); (try clear hfz70_1); (try clear hfz70_2); (try clear hfz85_0); (try clear hfz85_1); (try clear hfz85_2); (try clear hfz94_0); (try clear hfz94_1); (try clear hfz94_2); (try clear hfz97_0); (try clear hfz97_1); (try clear hfz97_2); (try clear p2)
              obtain ⟨kq, x134_128, rfl, HA, HJ128, HO_1072002, HO_1078002, HO_1086002, HO_1112002, BK1057, BK1071, BK1077, BK1085, BK1111, HB⟩ := hcut
              have hl1086002_128 := (Kd.R_reads' HO_1086002.out).1
              rw [hl1086002_128] at HO_1086002
              (try simp only [hl1086002_128])
              (try simp only [hl1086002_128] at BK1057)
              (try simp only [hl1086002_128] at BK1071)
              (try simp only [hl1086002_128] at BK1077)
              (try simp only [hl1086002_128] at BK1085)
              (try simp only [hl1086002_128] at BK1111)
              (try simp only [hl1086002_128] at HO_1072002)
              (try simp only [hl1086002_128] at HO_1078002)
              (try simp only [hl1086002_128] at HO_1112002)
              cases kq with
              | zero => exact absurd HA.out (by simp [laws_FnExactRowPut.j2])
              | succ kj128 =>
               have H := HA.out
               clear HA
               simp only [laws_FnExactRowPut.j2] at H
               by_cases c183 : x134_128 = true
               ·
                subst c183
                have H1 : (some false) = some r := by rw [if_pos rfl] at H; exact H
                clear H
                have H := H1
                clear H1
                obtain rfl := Option.some.inj H
                go_wp2
                go_ret
                exact ⟨by first | rfl | (simp [errW_none, errW_some] <;> rfl) | (simp [*, errW_none, errW_some] <;> rfl), hb_ HB.out⟩
               ·
                replace c183 := Bool.eq_false_iff.mpr c183
                subst c183
                have H1 : ((laws_heldRow.f kj128 t1078 t1079 t1097 1).bind fun t1113 => (if t1113 < 0 then (some false) else (if t1113 = t1096 then (some true) else (some false)))) = some r := by rw [if_neg (show ¬ (false = true) by decide)] at H; exact H
                clear H
                have H := H1
                clear H1
                replace H := Option.bind_eq_some_iff.mp H
                obtain ⟨t1113, A1840, H⟩ := H
                replace H : (if t1113 < 0 then (some false) else (if t1113 = t1096 then (some true) else (some false))) = some r := H
                have A184 := Aside0.mk A1840
                clear A1840
                by_cases c185 : t1113 < 0
                ·
                 rw [if_pos c185] at H
                 have c185b0 : decide (t1113 < 0) = true := decide_eq_true c185
                 clear c185
                 obtain rfl := Option.some.inj H
                 have hnb186 := NB1085_1057.out
                 have hnc186 := NB1057_1085.out
                 have hnb187 := NB1085_1071.out
                 have hnc187 := NB1071_1085.out
                 have hnb188 := NB1085_1077.out
                 have hnc188 := NB1077_1085.out
                 have hnb189 := NB1085_1111.out
                 have hnc189 := NB1111_1085.out
                 have hcz190_0 : wc.cell? ⟨gb1085, 0, none⟩ = some (.int .i64 t1078) := (blk_cell BK1085.out 0).trans rfl
                 have hcz190_1 : wc.cell? ⟨gb1085, 1, none⟩ = some (.int .i64 t1079) := (blk_cell BK1085.out 1).trans rfl
                 have hcz190_2 : wc.cell? ⟨gb1085, 2, none⟩ = some (.slice Ao44 t1097.length co44) := (blk_cell BK1085.out 2).trans rfl
                 have hfz190_0 := blk_frozen BK1085.out 0
                 have hfz190_1 := blk_frozen BK1085.out 1
                 have hfz190_2 := blk_frozen BK1085.out 2
                 go_wp2_with (first | ((with_reducible refine gate_callee (f := 35) rfl ?_); refine goesL_ (some 137) rfl rfl Try.func35 (by kernel_rfl) rfl #[.agg #[.int .i64 t1078, .int .i64 t1079, .slice Ao44 t1097.length co44], .int .i64 1] rfl sm_ ?_; (with_reducible refine (laws_heldRow.calls kj128 t1078 t1079 _ _ t1097 1 t1113 _ ?side1 ?side2 A184.out).mono ?_); (case side1 => repeat (first | exact (Kd.R_reads' HO_1086002.out).2.2 | (with_reducible refine Kd.C_alloc ?_ _) | (with_reducible refine Kd.C_drewN ?_ _) | (with_reducible refine Kd.C_drew ?_))); (case side2 => exact (Kd.R_reads' HO_1086002.out).2.1); rintro e w191 ⟨rfl, hb⟩; refine ⟨_, rfl, ?_⟩; have n0_ := Aside0.mk (Kd.R_below (rq_ HO_1072002.out) hb); have n1_ := Aside0.mk (Kd.R_below (rq_ HO_1078002.out) hb); have n2_ := Aside0.mk (Kd.R_below (rq_ HO_1086002.out) hb); have n3_ := Aside0.mk (Kd.R_below (rq_ HO_1112002.out) hb); have n4_ := Aside0.mk (bb_ BK1057.out hb); have n5_ := Aside0.mk (bb_ BK1071.out hb); have n6_ := Aside0.mk (bb_ BK1077.out hb); have n7_ := Aside0.mk (bb_ BK1085.out hb); have n8_ := Aside0.mk (bb_ BK1111.out hb); have n9_ := Aside0.mk (below_step (hb_ HB.out) hb); clear HO_1072002; clear HO_1078002; clear HO_1086002; clear HO_1112002; clear BK1057; clear BK1071; clear BK1077; clear BK1085; clear BK1111; clear HB; have HO_1072002 := n0_; have HO_1078002 := n1_; have HO_1086002 := n2_; have HO_1112002 := n3_; have BK1057 := n4_; have BK1071 := n5_; have BK1077 := n6_; have BK1085 := n7_; have BK1111 := n8_; have HB := n9_; clear n0_ n1_ n2_ n3_ n4_ n5_ n6_ n7_ n8_ n9_; (try clear hb); (try clear hb2); (try clear hk); (try clear hi)))
                 go_ret
                 exact ⟨by first | rfl | (simp [errW_none, errW_some] <;> rfl) | (simp [*, errW_none, errW_some] <;> rfl), hb_ HB.out⟩
                ·
                 rw [if_neg c185] at H
                 have c185b0 : decide (t1113 < 0) = false := decide_eq_false c185
                 clear c185
                 by_cases c192 : t1113 = t1096
                 ·
                  rw [if_pos c192] at H
                  have c192b0 : (t1113 == t1096) = true := beq_iff_eq.mpr c192
                  have c192b1 : (t1113 != t1096) = false := bne_eq_false_iff_eq.mpr c192
                  clear c192
                  obtain rfl := Option.some.inj H
                  have hnb193 := NB1085_1057.out
                  have hnc193 := NB1057_1085.out
                  have hnb194 := NB1085_1071.out
                  have hnc194 := NB1071_1085.out
                  have hnb195 := NB1085_1077.out
                  have hnc195 := NB1077_1085.out
                  have hnb196 := NB1085_1111.out
                  have hnc196 := NB1111_1085.out
                  have hcz197_0 : wc.cell? ⟨gb1085, 0, none⟩ = some (.int .i64 t1078) := (blk_cell BK1085.out 0).trans rfl
                  have hcz197_1 : wc.cell? ⟨gb1085, 1, none⟩ = some (.int .i64 t1079) := (blk_cell BK1085.out 1).trans rfl
                  have hcz197_2 : wc.cell? ⟨gb1085, 2, none⟩ = some (.slice Ao44 t1097.length co44) := (blk_cell BK1085.out 2).trans rfl
                  have hfz197_0 := blk_frozen BK1085.out 0
                  have hfz197_1 := blk_frozen BK1085.out 1
                  have hfz197_2 := blk_frozen BK1085.out 2
                  go_wp2_with (first | ((with_reducible refine gate_callee (f := 35) rfl ?_); refine goesL_ (some 137) rfl rfl Try.func35 (by kernel_rfl) rfl #[.agg #[.int .i64 t1078, .int .i64 t1079, .slice Ao44 t1097.length co44], .int .i64 1] rfl sm_ ?_; (with_reducible refine (laws_heldRow.calls kj128 t1078 t1079 _ _ t1097 1 t1113 _ ?side1 ?side2 A184.out).mono ?_); (case side1 => repeat (first | exact (Kd.R_reads' HO_1086002.out).2.2 | (with_reducible refine Kd.C_alloc ?_ _) | (with_reducible refine Kd.C_drewN ?_ _) | (with_reducible refine Kd.C_drew ?_))); (case side2 => exact (Kd.R_reads' HO_1086002.out).2.1); rintro e w198 ⟨rfl, hb⟩; refine ⟨_, rfl, ?_⟩; have n0_ := Aside0.mk (Kd.R_below (rq_ HO_1072002.out) hb); have n1_ := Aside0.mk (Kd.R_below (rq_ HO_1078002.out) hb); have n2_ := Aside0.mk (Kd.R_below (rq_ HO_1086002.out) hb); have n3_ := Aside0.mk (Kd.R_below (rq_ HO_1112002.out) hb); have n4_ := Aside0.mk (bb_ BK1057.out hb); have n5_ := Aside0.mk (bb_ BK1071.out hb); have n6_ := Aside0.mk (bb_ BK1077.out hb); have n7_ := Aside0.mk (bb_ BK1085.out hb); have n8_ := Aside0.mk (bb_ BK1111.out hb); have n9_ := Aside0.mk (below_step (hb_ HB.out) hb); clear HO_1072002; clear HO_1078002; clear HO_1086002; clear HO_1112002; clear BK1057; clear BK1071; clear BK1077; clear BK1085; clear BK1111; clear HB; have HO_1072002 := n0_; have HO_1078002 := n1_; have HO_1086002 := n2_; have HO_1112002 := n3_; have BK1057 := n4_; have BK1071 := n5_; have BK1077 := n6_; have BK1085 := n7_; have BK1111 := n8_; have HB := n9_; clear n0_ n1_ n2_ n3_ n4_ n5_ n6_ n7_ n8_ n9_; (try clear hb); (try clear hb2); (try clear hk); (try clear hi)))
                  go_ret
                  exact ⟨by first | rfl | (simp [errW_none, errW_some] <;> rfl) | (simp [*, errW_none, errW_some] <;> rfl), hb_ HB.out⟩
                 ·
                  rw [if_neg c192] at H
                  have c192b0 : (t1113 == t1096) = false := beq_eq_false_iff_ne.mpr c192
                  have c192b1 : (t1113 != t1096) = true := bne_iff_ne.mpr c192
                  obtain rfl := Option.some.inj H
                  have hnb199 := NB1085_1057.out
                  have hnc199 := NB1057_1085.out
                  have hnb200 := NB1085_1071.out
                  have hnc200 := NB1071_1085.out
                  have hnb201 := NB1085_1077.out
                  have hnc201 := NB1077_1085.out
                  have hnb202 := NB1085_1111.out
                  have hnc202 := NB1111_1085.out
                  have hcz203_0 : wc.cell? ⟨gb1085, 0, none⟩ = some (.int .i64 t1078) := (blk_cell BK1085.out 0).trans rfl
                  have hcz203_1 : wc.cell? ⟨gb1085, 1, none⟩ = some (.int .i64 t1079) := (blk_cell BK1085.out 1).trans rfl
                  have hcz203_2 : wc.cell? ⟨gb1085, 2, none⟩ = some (.slice Ao44 t1097.length co44) := (blk_cell BK1085.out 2).trans rfl
                  have hfz203_0 := blk_frozen BK1085.out 0
                  have hfz203_1 := blk_frozen BK1085.out 1
                  have hfz203_2 := blk_frozen BK1085.out 2
                  go_wp2_with (first | ((with_reducible refine gate_callee (f := 35) rfl ?_); refine goesL_ (some 137) rfl rfl Try.func35 (by kernel_rfl) rfl #[.agg #[.int .i64 t1078, .int .i64 t1079, .slice Ao44 t1097.length co44], .int .i64 1] rfl sm_ ?_; (with_reducible refine (laws_heldRow.calls kj128 t1078 t1079 _ _ t1097 1 t1113 _ ?side1 ?side2 A184.out).mono ?_); (case side1 => repeat (first | exact (Kd.R_reads' HO_1086002.out).2.2 | (with_reducible refine Kd.C_alloc ?_ _) | (with_reducible refine Kd.C_drewN ?_ _) | (with_reducible refine Kd.C_drew ?_))); (case side2 => exact (Kd.R_reads' HO_1086002.out).2.1); rintro e w204 ⟨rfl, hb⟩; refine ⟨_, rfl, ?_⟩; have n0_ := Aside0.mk (Kd.R_below (rq_ HO_1072002.out) hb); have n1_ := Aside0.mk (Kd.R_below (rq_ HO_1078002.out) hb); have n2_ := Aside0.mk (Kd.R_below (rq_ HO_1086002.out) hb); have n3_ := Aside0.mk (Kd.R_below (rq_ HO_1112002.out) hb); have n4_ := Aside0.mk (bb_ BK1057.out hb); have n5_ := Aside0.mk (bb_ BK1071.out hb); have n6_ := Aside0.mk (bb_ BK1077.out hb); have n7_ := Aside0.mk (bb_ BK1085.out hb); have n8_ := Aside0.mk (bb_ BK1111.out hb); have n9_ := Aside0.mk (below_step (hb_ HB.out) hb); clear HO_1072002; clear HO_1078002; clear HO_1086002; clear HO_1112002; clear BK1057; clear BK1071; clear BK1077; clear BK1085; clear BK1111; clear HB; have HO_1072002 := n0_; have HO_1078002 := n1_; have HO_1086002 := n2_; have HO_1112002 := n3_; have BK1057 := n4_; have BK1071 := n5_; have BK1077 := n6_; have BK1085 := n7_; have BK1111 := n8_; have HB := n9_; clear n0_ n1_ n2_ n3_ n4_ n5_ n6_ n7_ n8_ n9_; (try clear hb); (try clear hb2); (try clear hk); (try clear hi)))
                  go_ret
                  exact ⟨by first | rfl | (simp [errW_none, errW_some] <;> rfl) | (simp [*, errW_none, errW_some] <;> rfl), hb_ HB.out⟩
            ·
             rw [if_neg c126] at H
             have c126b0 : (t1098 == t1096) = false := beq_eq_false_iff_ne.mpr c126
             have c126b1 : (t1098 != t1096) = true := bne_iff_ne.mpr c126
             obtain rfl := Option.some.inj H
             have hnb205 := NB1085_1057.out
             have hnc205 := NB1057_1085.out
             have hnb206 := NB1085_1071.out
             have hnc206 := NB1071_1085.out
             have hnb207 := NB1085_1077.out
             have hnc207 := NB1077_1085.out
             have hcz208_0 : wc.cell? ⟨gb1085, 0, none⟩ = some (.int .i64 t1078) := (blk_cell BK1085.out 0).trans rfl
             have hcz208_1 : wc.cell? ⟨gb1085, 1, none⟩ = some (.int .i64 t1079) := (blk_cell BK1085.out 1).trans rfl
             have hcz208_2 : wc.cell? ⟨gb1085, 2, none⟩ = some (.slice Ao44 t1080.length co44) := (blk_cell BK1085.out 2).trans rfl
             have hfz208_0 := blk_frozen BK1085.out 0
             have hfz208_1 := blk_frozen BK1085.out 1
             have hfz208_2 := blk_frozen BK1085.out 2
             go_wp2_with (first | ((with_reducible refine gate_callee (f := 34) rfl ?_); refine goesL_ (some 101) rfl rfl Try.func34 (by kernel_rfl) rfl #[.agg #[.int .i64 t1078, .int .i64 t1079, .slice Ao44 t1080.length co44], .int .i64 1] rfl sm_ ?_; (with_reducible refine (laws_markRow.calls kj76 t1078 t1079 (fun k_ => some k_ = (.slice Ao44 t1080.length co44 : Value).ownBlock) (.slice Ao44 t1080.length co44) t1080 1 t1096 t1097 w _ ?side1 ?side2 A116.out).mono ?_); (case side1 => repeat (first | (with_reducible first | exact HB.out | apply below_alloc | apply pw_below_drewN | apply below_drew1 | refine below_set ?_ GE1057.out | refine below_set ?_ GE1071.out | refine below_set ?_ GE1077.out | refine below_set ?_ GE1085.out) | exact HB.out)); (case side2 => exact Kd.R_tight rfl HO_1086002.out); rintro e w209 ⟨rfl, hy0, hb, hkp⟩; refine ⟨_, rfl, ?_⟩; have n0_ := Aside0.mk (Kd.R_mono (ok' := fun k_ => some k_ ≠ (.slice Ao37 t1094.length co37 : Value).ownBlock ∧ some k_ ≠ (.slice Ao44 t1080.length co44 : Value).ownBlock) (Kd.R_keptB (HO_1072002.out) hkp (fun k_ hk_ hs_ => (hk_.2) hs_)) (fun k_ hk_ => ⟨hk_.1.1, hk_.1.2⟩)); have n1_ := Aside0.mk (Kd.R_mono (ok' := fun k_ => some k_ ≠ (.slice Ao30 t1066.length co30 : Value).ownBlock ∧ some k_ ≠ (.slice Ao44 t1080.length co44 : Value).ownBlock) (Kd.R_keptB (HO_1078002.out) hkp (fun k_ hk_ hs_ => (hk_.2) hs_)) (fun k_ hk_ => ⟨hk_.1.1, hk_.1.2⟩)); have n2_ := Aside0.mk (Kd.R_reok rfl hy0 (fun k_ e_ => HO_1086002.out.1 k_ e_)); have n3_ := Aside0.mk (blk_kept (bq_ BK1057.out) hkp (fun hs_ => (fun e_ => (Kd.R_ne HO_1086002.out BK1057.out (by decide)) e_) hs_)); have n4_ := Aside0.mk (blk_kept (bq_ BK1071.out) hkp (fun hs_ => (fun e_ => (Kd.R_ne HO_1086002.out BK1071.out (by decide)) e_) hs_)); have n5_ := Aside0.mk (blk_kept (bq_ BK1077.out) hkp (fun hs_ => (fun e_ => (Kd.R_ne HO_1086002.out BK1077.out (by decide)) e_) hs_)); have n6_ := Aside0.mk (blk_kept (bq_ BK1085.out) hkp (fun hs_ => (fun e_ => (Kd.R_ne HO_1086002.out BK1085.out (by decide)) e_) hs_)); have n7_ := Aside0.mk (hb); clear HO_1072002; clear HO_1078002; clear HO_1086002; clear BK1057; clear BK1071; clear BK1077; clear BK1085; clear HB; have HO_1072002 := n0_; have HO_1078002 := n1_; have HO_1086002 := n2_; have BK1057 := n3_; have BK1071 := n4_; have BK1077 := n5_; have BK1085 := n6_; have HB := n7_; clear n0_ n1_ n2_ n3_ n4_ n5_ n6_ n7_; (try clear hb); (try clear hkp); (try clear hy0); have hcz210_0 : w209.cell? ⟨gb1085, 0, none⟩ = some (.int .i64 t1078) := (blk_cell BK1085.out 0).trans rfl; have hcz210_1 : w209.cell? ⟨gb1085, 1, none⟩ = some (.int .i64 t1079) := (blk_cell BK1085.out 1).trans rfl; have hcz210_2 : w209.cell? ⟨gb1085, 2, none⟩ = some (.slice Ao44 t1080.length co44) := (blk_cell BK1085.out 2).trans rfl; have hfz210_0 := blk_frozen BK1085.out 0; have hfz210_1 := blk_frozen BK1085.out 1; have hfz210_2 := blk_frozen BK1085.out 2) | ((with_reducible refine gate_callee (f := 35) rfl ?_); refine goesL_ (some 104) rfl rfl Try.func35 (by kernel_rfl) rfl #[.agg #[.int .i64 t1078, .int .i64 t1079, .slice Ao44 t1097.length co44], .int .i64 1] rfl (by (try simp only [List.map_toArray, List.map_cons, List.map_nil]); first | done | (rw [show t1097.length = t1080.length from (Kd.R_reads' HO_1086002.out).1.symm] <;> rfl) | rfl | (simp only [List.length_drop, List.length_take]; rfl)) ?_; (with_reducible refine (laws_heldRow.calls kj76 t1078 t1079 _ _ t1097 1 t1098 _ ?side1 ?side2 A117.out).mono ?_); (case side1 => repeat (first | exact (Kd.R_reads' HO_1086002.out).2.2 | (with_reducible refine Kd.C_alloc ?_ _) | (with_reducible refine Kd.C_drewN ?_ _) | (with_reducible refine Kd.C_drew ?_))); (case side2 => rw [show t1097.length = t1080.length from (Kd.R_reads' HO_1086002.out).1.symm]; exact (Kd.R_reads' HO_1086002.out).2.1); rintro e w211 ⟨rfl, hb⟩; refine ⟨_, rfl, ?_⟩; have n0_ := Aside0.mk (Kd.R_below (rq_ HO_1072002.out) hb); have n1_ := Aside0.mk (Kd.R_below (rq_ HO_1078002.out) hb); have n2_ := Aside0.mk (Kd.R_below (rq_ HO_1086002.out) hb); have n3_ := Aside0.mk (bb_ BK1057.out hb); have n4_ := Aside0.mk (bb_ BK1071.out hb); have n5_ := Aside0.mk (bb_ BK1077.out hb); have n6_ := Aside0.mk (bb_ BK1085.out hb); have n7_ := Aside0.mk (below_step (hb_ HB.out) hb); clear HO_1072002; clear HO_1078002; clear HO_1086002; clear BK1057; clear BK1071; clear BK1077; clear BK1085; clear HB; have HO_1072002 := n0_; have HO_1078002 := n1_; have HO_1086002 := n2_; have BK1057 := n3_; have BK1071 := n4_; have BK1077 := n5_; have BK1085 := n6_; have HB := n7_; clear n0_ n1_ n2_ n3_ n4_ n5_ n6_ n7_; (try clear hb); (try clear hb2); (try clear hk); (try clear hi)))
             go_ret
             exact ⟨by first | rfl | (simp [errW_none, errW_some] <;> rfl) | (simp [*, errW_none, errW_some] <;> rfl), hb_ HB.out⟩
       ·
        replace c75 := Bool.eq_false_iff.mpr c75
        subst c75
        have H1 : (some false) = some r := by rw [if_neg (show ¬ (false = true) by decide)] at H; exact H
        clear H
        have H := H1
        clear H1
        obtain rfl := Option.some.inj H
        try go_wp2
        have n0_ := Aside0.mk (Kd.R_drew HO_1072002.out)
        have n1_ := Aside0.mk (Kd.R_drew HO_1078002.out)
        have n2_ := Aside0.mk (Kd.R_drew HO_1086002.out)
        have n3_ := Aside0.mk (blk_drew BK1057.out)
        have n4_ := Aside0.mk (blk_drew BK1071.out)
        have n5_ := Aside0.mk (blk_drew BK1077.out)
        have n6_ := Aside0.mk (blk_drew BK1085.out)
        have n7_ := Aside0.mk (below_drew1 HB.out)
        clear HO_1072002; clear HO_1078002
        clear HO_1086002; clear BK1057
        clear BK1071; clear BK1077
        clear BK1085; clear HB
        have HO_1072002 := n0_
        have HO_1078002 := n1_
        have HO_1086002 := n2_
        have BK1057 := n3_
        have BK1071 := n4_
        have BK1077 := n5_
        have BK1085 := n6_
        have HB := n7_
        clear n0_ n1_ n2_ n3_ n4_ n5_ n6_ n7_
        refine start_ (n := 5) (S := fun w' => w'.cell? ⟨gb1077, 0, none⟩ = some (.int .i64 t1072) ∧ w'.cell? ⟨gb1077, 1, none⟩ = some (.int .i64 t1073) ∧ w'.cell? ⟨gb1077, 2, none⟩ = some (.slice Ao37 t1074.length co37) ∧ w'.cell? ⟨gb1057, 0, none⟩ = some (.int .i64 a0_0) ∧ w'.cell? ⟨gb1057, 1, none⟩ = some (.int .i64 a0_1) ∧ w'.cell? ⟨gb1057, 2, none⟩ = some (.slice A0_2 l0_2.length c0_2)) (ds := []) #[false, false, false, false, false] (by kernel_rfl) rfl rfl ⟨(blk_cell BK1077.out 0).trans rfl, (blk_cell BK1077.out 1).trans rfl, (blk_cell BK1077.out 2).trans rfl, (blk_cell BK1057.out 0).trans rfl, (blk_cell BK1057.out 1).trans rfl, (blk_cell BK1057.out 2).trans rfl⟩ (fun hHeld => ?_)
        generalize wc.drew = w212 at HO_1072002 HO_1078002 HO_1086002 BK1057 BK1071 BK1077 BK1085 HB hHeld ⊢
        refine take_ (i := 0) (N := some 73) (v := ?_) (a' := ?_) #[true, false, false, false, false] rfl rfl (by kernel_rfl) (fun _ _ _ h => h) (Or.inl ⟨by rfl, ?_⟩) hHeld ?_ ?_
        rotate_left
        ·
         rintro w' ⟨s0, s1, s2, s3, s4, s5⟩
         go_simp
         with_reducible rfl
        rotate_left; (focus simp only [Act.put, List.setIfInBounds_toArray, List.set_cons_zero, List.set_cons_succ, i64_w, i32_w]; rfl)
        refine take_ (i := 1) (N := some 74) (v := ?_) (a' := ?_) #[true, true, false, false, false] rfl rfl (by kernel_rfl) (fun _ _ _ h => h) (Or.inl ⟨by rfl, ?_⟩) hHeld ?_ ?_
        rotate_left
        ·
         rintro w' ⟨s0, s1, s2, s3, s4, s5⟩
         go_simp
         with_reducible rfl
        rotate_left; (focus simp only [Act.put, List.setIfInBounds_toArray, List.set_cons_zero, List.set_cons_succ, i64_w, i32_w]; rfl)
        refine one_ (i := 2) (N := some 75) #[true, true, true, false, false] rfl rfl (by kernel_rfl) (by decide) (fun K hK => ?_)
        refine goes_ Try.func31 (by kernel_rfl) rfl #[.agg #[.int .i64 a0_0, .int .i64 a0_1, .slice A0_2 l0_2.length c0_2]] (by rfl) rfl rfl sm_ ?_
        with_reducible refine (laws_toRow.calls kj18 a0_0 a0_1 _ _ l0_2 t1087 t1088 t1089 _ ?side1 ?side2 A73.out).mono ?_
        (case side1 => repeat (first | exact (Kd.C_below HR0_2.out HB.out) | (with_reducible refine Kd.C_alloc ?_ _) | (with_reducible refine Kd.C_drewN ?_ _) | (with_reducible refine Kd.C_drew ?_)))
        (case side2 => exact HC0_2.out)
        rintro e w213 ⟨v1090, rfl, ho0, hb⟩
        refine ⟨_, rfl, ?_⟩
        have n0_ := Aside0.mk (Kd.R_elder' (rq_ HO_1072002.out) (Kd.R_base ho0) hb)
        have n1_ := Aside0.mk (Kd.R_elder' (rq_ HO_1078002.out) (Kd.R_base ho0) hb)
        have n2_ := Aside0.mk (Kd.R_elder' (rq_ HO_1086002.out) (Kd.R_base ho0) hb)
        have n3_ := Aside0.mk (Kd.R_lower (Kd.R_new' (Kd.R_new' (Kd.R_new' ho0 (Kd.R_lt (rq_ HO_1072002.out))) (Kd.R_lt (rq_ HO_1078002.out))) (Kd.R_lt (rq_ HO_1086002.out))) (below_size (hb_ HB.out)))
        have n4_ := Aside0.mk (bb_ BK1057.out hb)
        have n5_ := Aside0.mk (bb_ BK1071.out hb)
        have n6_ := Aside0.mk (bb_ BK1077.out hb)
        have n7_ := Aside0.mk (bb_ BK1085.out hb)
        have n8_ := Aside0.mk (below_step (hb_ HB.out) hb)
        clear HO_1072002; clear HO_1078002
        clear HO_1086002; clear BK1057
        clear BK1071; clear BK1077
        clear BK1085; clear HB
        have HO_1072002 := n0_
        have HO_1078002 := n1_
        have HO_1086002 := n2_
        have HO1091 := n3_
        have BK1057 := n4_
        have BK1071 := n5_
        have BK1077 := n6_
        have BK1085 := n7_
        have HB := n8_
        clear n0_ n1_ n2_ n3_ n4_ n5_ n6_ n7_ n8_
        (try clear hb)
        (try clear hb2)
        (try clear hk)
        (try clear hi)
        (try clear ho0)
        obtain ⟨Ao214, co214, eo214⟩ := Kd.R_slice HO1091.out
        (first | subst eo214 | (injection eo214 with f1_ f2_ f3_; have f4_ := f1_.symm; have f5_ := f3_.symm; clear f1_ f2_ f3_; subst f4_; subst f5_))
        refine hK.out _ _ ⟨(blk_cell BK1077.out 0).trans rfl, (blk_cell BK1077.out 1).trans rfl, (blk_cell BK1077.out 2).trans rfl, (blk_cell BK1057.out 0).trans rfl, (blk_cell BK1057.out 1).trans rfl, (blk_cell BK1057.out 2).trans rfl⟩ (fun hHeld => ?_)
        clear hK K
        refine norm_ (a' := ?_) ?_ ?_
        rotate_left
        ·
         show Act.put _ (some 75) _ = _
         simp only [Act.put, List.setIfInBounds_toArray, List.set_cons_zero, List.set_cons_succ, i64_w, i32_w]
         rfl
        refine one_ (i := 3) (N := some 76) #[true, true, true, true, false] rfl rfl (by kernel_rfl) (by decide) (fun K hK => ?_)
        refine goes_ Try.func33 (by kernel_rfl) rfl #[.agg #[.int .i64 t1072, .int .i64 t1073, .slice Ao37 t1074.length co37], .agg #[.int .i64 t1087, .int .i64 t1088, .slice Ao214 t1089.length co214]] (by rfl) rfl rfl sm_ ?_
        with_reducible refine (laws_eqRow.calls kj18 t1072 t1073 _ _ t1074 t1087 t1088 _ _ t1089 false _ ?side1 ?side2 ?side3 ?side4 A74.out).mono ?_
        (case side1 => repeat (first | exact (Kd.R_reads' HO_1078002.out).2.2 | (with_reducible refine Kd.C_alloc ?_ _) | (with_reducible refine Kd.C_drewN ?_ _) | (with_reducible refine Kd.C_drew ?_)))
        (case side2 => exact (Kd.R_reads' HO_1078002.out).2.1)
        (case side3 => repeat (first | exact (Kd.R_reads' HO1091.out).2.2 | (with_reducible refine Kd.C_alloc ?_ _) | (with_reducible refine Kd.C_drewN ?_ _) | (with_reducible refine Kd.C_drew ?_)))
        (case side4 => exact (Kd.R_reads' HO1091.out).2.1)
        rintro e w215 ⟨rfl, hb⟩
        refine ⟨_, rfl, ?_⟩
        have n0_ := Aside0.mk (Kd.R_below (rq_ HO_1072002.out) hb)
        have n1_ := Aside0.mk (Kd.R_below (rq_ HO_1078002.out) hb)
        have n2_ := Aside0.mk (Kd.R_below (rq_ HO_1086002.out) hb)
        have n3_ := Aside0.mk (Kd.R_below (rq_ HO1091.out) hb)
        have n4_ := Aside0.mk (bb_ BK1057.out hb)
        have n5_ := Aside0.mk (bb_ BK1071.out hb)
        have n6_ := Aside0.mk (bb_ BK1077.out hb)
        have n7_ := Aside0.mk (bb_ BK1085.out hb)
        have n8_ := Aside0.mk (below_step (hb_ HB.out) hb)
        clear HO_1072002; clear HO_1078002
        clear HO_1086002; clear HO1091
        clear BK1057; clear BK1071
        clear BK1077; clear BK1085
        clear HB
        have HO_1072002 := n0_
        have HO_1078002 := n1_
        have HO_1086002 := n2_
        have HO1091 := n3_
        have BK1057 := n4_
        have BK1071 := n5_
        have BK1077 := n6_
        have BK1085 := n7_
        have HB := n8_
        clear n0_ n1_ n2_ n3_ n4_ n5_ n6_ n7_ n8_
        (try clear hb)
        (try clear hb2)
        (try clear hk)
        (try clear hi)
        refine hK.out _ _ ⟨(blk_cell BK1077.out 0).trans rfl, (blk_cell BK1077.out 1).trans rfl, (blk_cell BK1077.out 2).trans rfl, (blk_cell BK1057.out 0).trans rfl, (blk_cell BK1057.out 1).trans rfl, (blk_cell BK1057.out 2).trans rfl⟩ (fun hHeld => ?_)
        clear hK K
        refine norm_ (a' := ?_) ?_ ?_
        rotate_left
        ·
         show Act.put _ (some 76) _ = _
         simp only [Act.put, List.setIfInBounds_toArray, List.set_cons_zero, List.set_cons_succ, i64_w, i32_w]
         rfl
        refine pure_ (i := 4) (N := some 77) (v := ?_) (a' := ?_) #[true, true, true, true, true] rfl rfl (by kernel_rfl) (fun _ _ _ h => h) (Or.inl ⟨by rfl, ?_⟩) ?_ ?_; rotate_left; (focus intro w'; go_simp; with_reducible rfl); rotate_left; (focus simp only [Act.put, List.setIfInBounds_toArray, List.set_cons_zero, List.set_cons_succ, i64_w, i32_w]; rfl)
        refine done_ (by kernel_rfl) ?_
        try go_wp2
        go_ret
        exact ⟨by first | rfl | (simp [errW_none, errW_some] <;> rfl) | (simp [*, errW_none, errW_some] <;> rfl), hb_ HB.out⟩
end Go.Proofs.Ytiknkolclcdajaa.Q
