/- Made by a program of ours out of the print of the loaded functions: for each of some functions a plain function, and the walk that shows that a call comes to what it says. No condition but those of each theorem. -/
import Derived.Test.YtiknkolclcdajaaZFnRows0
import Derived.Test.YtiknkolclcdajaaZFnRowsa
namespace Go.Proofs.Ytiknkolclcdajaa.Q
open Go.RowKit Go.Proofs.YtiknkolclcdajaaW.PrintWords Go.Proofs.YtiknkolclcdajaaW.PrintLast Go.Proofs.YtiknkolclcdajaaW.PrintMore
attribute [local go_sem] max2_int min2_int max_two min_two max_three min_three max_four min_four   -- for this text's walks alone
set_option linter.unusedVariables false
set_option linter.unusedSimpArgs false
theorem qb0_ {P : Prop} (h : P := by rw [qe_]; exact by (with_reducible repeat (first | apply Kd.R_alloc | apply Kd.R_drewN | apply Kd.R_drew)); exact Kd.R_mono (Kd.R_far (p := ⟨gb1106, 4, none⟩) (Kd.R_far (p := ⟨gb1106, 3, none⟩) (Kd.R_far (p := ⟨gb1106, 2, none⟩) (Kd.R_far (p := ⟨gb1106, 1, none⟩) (Kd.R_far (p := ⟨gb1106, 0, none⟩) (Kd.R_mono HO_1105002.out (fun k_ hk => (⟨hk, hk.2⟩ : _ ∧ k_ ≠ gb1106))) (fun _ hk => hk.2) (.int .i64 ((rd_Item l0_2 x6_3).f0))) (fun _ hk => hk.2) (.string ((rd_Item l0_2 x6_3).f1))) (fun _ hk => hk.2) (.string ((rd_Item l0_2 x6_3).f2))) (fun _ hk => hk.2) (.int .i64 ((rd_Item l0_2 x6_3).f3))) (fun _ hk => hk.2) (.int .i64 ((rd_Item l0_2 x6_3).f4))) (fun _ hk => hk.1.2)) : P := h
theorem qb1_ {P : Prop} (h : P := by first | rfl | (simp; done) | (simp [*]; done)) : P := h
theorem qb2_ {P : Prop} (h : P := by have := HJ2.out; have := HJ10.out; have := HK3.out; have := HJ24.out; first | omega | exact Nat.le_refl _) : P := h
theorem qbh0_ {P : Prop} (h : P := by repeat' first | (with_reducible exact ih0 _ _ _ _ _) | (with_reducible exact ih1 _ _ _ _) | (with_reducible exact ih2 _ _ _ _ _ _ _ _) | (with_reducible exact ih3 _ _ _ _ _ _ _ _) | (with_reducible exact ih4 _ _ _ _ _ _ _ _ _ _ _ _ _ _) | (with_reducible exact spec_RowOk.mono _ _ _ _) | (with_reducible exact spec_l3Behind.mono _ _ _ _ _) | (with_reducible exact LeO.refl _) | (with_reducible exact LeO.none _) | (with_reducible refine LeO.ite ?_ ?_) | (with_reducible refine LeO.bind ?_ (fun _ => ?_)) | exact ih0 _ _ _ _ _ | exact ih1 _ _ _ _ | exact ih2 _ _ _ _ _ _ _ _ | exact ih3 _ _ _ _ _ _ _ _ | exact ih4 _ _ _ _ _ _ _ _ _ _ _ _ _ _ | exact spec_RowOk.mono _ _ _ _ | exact spec_l3Behind.mono _ _ _ _ _ | exact LeO.none _ | refine LeO.ite ?_ ?_ | refine LeO.bind ?_ (fun _ => ?_)) : P := h

/-! ### spec_RowPack: function 46 -/
abbrev spec_RowPack.m0 : Array Bool := #[f_,f_,f_,f_,f_,f_,f_,f_,f_,f_,f_,f_,f_,f_,f_,f_,f_,f_,f_,f_,f_]
abbrev spec_RowPack.m1 : Array Bool := #[t_,f_,f_,f_,f_,f_,f_,f_,f_,f_,f_,f_,f_,f_,f_,f_,f_,f_,f_,f_,f_]
abbrev spec_RowPack.m2 : Array Bool := #[t_,t_,f_,f_,f_,f_,f_,f_,f_,f_,f_,f_,f_,f_,f_,f_,f_,f_,f_,f_,f_]
abbrev spec_RowPack.m3 : Array Bool := #[t_,t_,t_,f_,f_,f_,f_,f_,f_,f_,f_,f_,f_,f_,f_,f_,f_,f_,f_,f_,f_]
abbrev spec_RowPack.m4 : Array Bool := #[t_,t_,t_,t_,f_,f_,f_,f_,f_,f_,f_,f_,f_,f_,f_,f_,f_,f_,f_,f_,f_]
abbrev spec_RowPack.m5 : Array Bool := #[t_,t_,t_,t_,t_,t_,f_,f_,f_,f_,f_,f_,f_,f_,f_,f_,f_,f_,f_,f_,f_]
abbrev spec_RowPack.m6 : Array Bool := #[t_,t_,t_,t_,t_,t_,t_,f_,f_,f_,f_,f_,f_,f_,f_,f_,f_,f_,f_,f_,f_]
abbrev spec_RowPack.m7 : Array Bool := #[t_,t_,t_,t_,t_,t_,t_,t_,f_,f_,f_,f_,f_,f_,f_,f_,f_,f_,f_,f_,f_]
abbrev spec_RowPack.m8 : Array Bool := #[t_,t_,t_,t_,t_,t_,t_,t_,t_,f_,f_,f_,f_,f_,f_,f_,f_,f_,f_,f_,f_]
abbrev spec_RowPack.m9 : Array Bool := #[t_,t_,t_,t_,t_,t_,t_,t_,t_,t_,f_,f_,f_,f_,f_,f_,f_,f_,f_,f_,f_]
abbrev spec_RowPack.m10 : Array Bool := #[t_,t_,t_,t_,t_,t_,t_,t_,t_,t_,t_,f_,f_,f_,f_,f_,f_,f_,f_,f_,f_]
abbrev spec_RowPack.m11 : Array Bool := #[t_,t_,t_,t_,t_,t_,t_,t_,t_,t_,t_,t_,f_,f_,f_,f_,f_,f_,f_,f_,f_]
abbrev spec_RowPack.m12 : Array Bool := #[t_,t_,t_,t_,t_,t_,t_,t_,t_,t_,t_,t_,t_,f_,f_,f_,f_,f_,f_,f_,f_]
abbrev spec_RowPack.m13 : Array Bool := #[t_,t_,t_,t_,t_,t_,t_,t_,t_,t_,t_,t_,t_,t_,f_,f_,f_,f_,f_,f_,f_]
abbrev spec_RowPack.m14 : Array Bool := #[t_,t_,t_,t_,t_,t_,t_,t_,t_,t_,t_,t_,t_,t_,t_,f_,f_,f_,f_,f_,f_]
abbrev spec_RowPack.m15 : Array Bool := #[t_,t_,t_,t_,t_,t_,t_,t_,t_,t_,t_,t_,t_,t_,t_,t_,f_,f_,f_,f_,f_]
abbrev spec_RowPack.m16 : Array Bool := #[t_,t_,t_,t_,t_,t_,t_,t_,t_,t_,t_,t_,t_,t_,t_,t_,t_,f_,f_,f_,f_]
abbrev spec_RowPack.m17 : Array Bool := #[t_,t_,t_,t_,t_,t_,t_,t_,t_,t_,t_,t_,t_,t_,t_,t_,t_,t_,f_,f_,f_]
abbrev spec_RowPack.m18 : Array Bool := #[t_,t_,t_,t_,t_,t_,t_,t_,t_,t_,t_,t_,t_,t_,t_,t_,t_,t_,t_,f_,f_]
abbrev spec_RowPack.m19 : Array Bool := #[t_,t_,t_,t_,t_,t_,t_,t_,t_,t_,t_,t_,t_,t_,t_,t_,t_,t_,t_,t_,f_]
abbrev spec_RowPack.m20 : Array Bool := #[t_,t_,t_,t_,t_,t_,t_,t_,t_,t_,t_,t_,t_,t_,t_,t_,t_,t_,t_,t_,t_]
abbrev spec_RowPack.m21 : Array Bool := #[t_,t_,t_,t_,f_,t_,f_,f_,f_,f_,f_,f_,f_,f_,f_,f_,f_,f_,f_,f_,f_]
mutual
def spec_RowPack.j0 : Nat → Int → Bool → Int → Int → List (S_Item) → Option (Int × Int × (List (S_Item)))
 | 0, _, _, _, _, _ => none
 | k + 1, x1, x14, x1097000, x1097001, x1097002 => if x14 = true then ((spec_l3Copy.f x1097000 x1097001 x1097002).bind fun bt1099 => (some (bt1099.1, bt1099.2.1, bt1099.2.2))) else (spec_RowPack.j1 k x1 x1097000 x1097001 x1097002)
def spec_RowPack.j1 : Nat → Int → Int → Int → List (S_Item) → Option (Int × Int × (List (S_Item)))
 | 0, _, _, _, _ => none
 | k + 1, x1, x1097000, x1097001, x1097002 => spec_RowPack.l0 k x1 0 x1097000 x1097001 x1097002 x1097000 x1097001 ([] : List (S_Item))
def spec_RowPack.l0 : Nat → Int → Int → Int → Int → List (S_Item) → Int → Int → List (S_Item) → Option (Int × Int × (List (S_Item)))
 | 0, _, _, _, _, _, _, _, _ => none
 | k + 1, x1, x6, x1097000, x1097001, x1097002, x1105000, x1105001, x1105002 => if x6 < (x1097002.length : Int) then (spec_RowPack.j3 k x1 x6 x1097000 x1097001 x1097002 x1105000 x1105001 x1105002) else (some (x1105000, x1105001, x1105002))
def spec_RowPack.j3 : Nat → Int → Int → Int → Int → List (S_Item) → Int → Int → List (S_Item) → Option (Int × Int × (List (S_Item)))
 | 0, _, _, _, _, _, _, _, _ => none
 | k + 1, x1, x6, x1097000, x1097001, x1097002, x1105000, x1105001, x1105002 => if 0 ≤ x6 then (if x6 < (x1097002.length : Int) then (if ((rd_Item x1097002 x6).f1).toList = ([] : List UInt8) then (spec_RowPack.j4 k x1 x6 true x1097000 x1097001 x1097002 x1105000 x1105001 x1105002 ((rd_Item x1097002 x6).f0) ((rd_Item x1097002 x6).f1) ((rd_Item x1097002 x6).f2) ((rd_Item x1097002 x6).f3) ((rd_Item x1097002 x6).f4)) else ((spec_l3Behind.f k x1097000 x1097001 x1097002 x6).bind fun t1107 => (if t1107 = true then (if x1 = 0 then (none) else (spec_RowPack.j4 k x1 x6 ((wrap64 (Int.tdiv ((rd_Item x1097002 x6).f0) x1)) == (wrap64 (Int.tdiv (wrap64 (x1097001 - 1)) x1))) x1097000 x1097001 x1097002 x1105000 x1105001 x1105002 ((rd_Item x1097002 x6).f0) ((rd_Item x1097002 x6).f1) ((rd_Item x1097002 x6).f2) ((rd_Item x1097002 x6).f3) ((rd_Item x1097002 x6).f4))) else (spec_RowPack.j4 k x1 x6 true x1097000 x1097001 x1097002 x1105000 x1105001 x1105002 ((rd_Item x1097002 x6).f0) ((rd_Item x1097002 x6).f1) ((rd_Item x1097002 x6).f2) ((rd_Item x1097002 x6).f3) ((rd_Item x1097002 x6).f4))))) else (none)) else (none)
def spec_RowPack.j4 : Nat → Int → Int → Bool → Int → Int → List (S_Item) → Int → Int → List (S_Item) → Int → ByteArray → ByteArray → Int → Int → Option (Int × Int × (List (S_Item)))
 | 0, _, _, _, _, _, _, _, _, _, _, _, _, _, _ => none
 | k + 1, x1, x6, x54, x1097000, x1097001, x1097002, x1105000, x1105001, x1105002, x1107000, x1107001, x1107002, x1107003, x1107004 => if x54 = true then (if x1105002.length < 2513169434916 then (spec_RowPack.l0 k x1 (wrap64 (x6 + 1)) x1097000 x1097001 x1097002 x1105000 x1105001 (x1105002 ++ [(⟨x1107000, x1107001, x1107002, x1107003, x1107004⟩ : S_Item)])) else (none)) else (spec_RowPack.l0 k x1 (wrap64 (x6 + 1)) x1097000 x1097001 x1097002 x1105000 x1105001 x1105002)
end
def spec_RowPack.f (k : Nat) (a0_0 : Int) (a0_1 : Int) (l0_2 : List (S_Item)) (a1 : Int) : Option (Int × Int × (List (S_Item))) := if a1 < 1 then (spec_RowPack.j0 k a1 true a0_0 a0_1 l0_2) else ((spec_RowOk.f k a0_0 a0_1 l0_2).bind fun t1098 => (spec_RowPack.j0 k a1 (!t1098) a0_0 a0_1 l0_2))
theorem spec_RowPack.mono_l : ∀ k, (∀ y0 y1 y2 y3 y4, LeO (spec_RowPack.j0 k y0 y1 y2 y3 y4) (spec_RowPack.j0 (k + 1) y0 y1 y2 y3 y4)) ∧ (∀ y0 y1 y2 y3, LeO (spec_RowPack.j1 k y0 y1 y2 y3) (spec_RowPack.j1 (k + 1) y0 y1 y2 y3)) ∧ (∀ y0 y1 y2 y3 y4 y5 y6 y7, LeO (spec_RowPack.l0 k y0 y1 y2 y3 y4 y5 y6 y7) (spec_RowPack.l0 (k + 1) y0 y1 y2 y3 y4 y5 y6 y7)) ∧ (∀ y0 y1 y2 y3 y4 y5 y6 y7, LeO (spec_RowPack.j3 k y0 y1 y2 y3 y4 y5 y6 y7) (spec_RowPack.j3 (k + 1) y0 y1 y2 y3 y4 y5 y6 y7)) ∧ (∀ y0 y1 y2 y3 y4 y5 y6 y7 y8 y9 y10 y11 y12 y13, LeO (spec_RowPack.j4 k y0 y1 y2 y3 y4 y5 y6 y7 y8 y9 y10 y11 y12 y13) (spec_RowPack.j4 (k + 1) y0 y1 y2 y3 y4 y5 y6 y7 y8 y9 y10 y11 y12 y13))
 | 0 => ⟨fun _ _ _ _ _ r h => by simp [spec_RowPack.j0] at h, fun _ _ _ _ r h => by simp [spec_RowPack.j1] at h, fun _ _ _ _ _ _ _ _ r h => by simp [spec_RowPack.l0] at h, fun _ _ _ _ _ _ _ _ r h => by simp [spec_RowPack.j3] at h, fun _ _ _ _ _ _ _ _ _ _ _ _ _ _ r h => by simp [spec_RowPack.j4] at h⟩
 | k + 1 => by
  obtain ⟨ih0, ih1, ih2, ih3, ih4⟩ := spec_RowPack.mono_l k
  refine ⟨?_, ?_, ?_, ?_, ?_⟩
  ·
   intro y0 y1 y2 y3 y4
   unfold spec_RowPack.j0
   exact qbh0_
  ·
   intro y0 y1 y2 y3
   unfold spec_RowPack.j1
   exact qbh0_
  ·
   intro y0 y1 y2 y3 y4 y5 y6 y7
   unfold spec_RowPack.l0
   exact qbh0_
  ·
   intro y0 y1 y2 y3 y4 y5 y6 y7
   unfold spec_RowPack.j3
   exact qbh0_
  ·
   intro y0 y1 y2 y3 y4 y5 y6 y7 y8 y9 y10 y11 y12 y13
   unfold spec_RowPack.j4
   exact qbh0_
theorem spec_RowPack.mono : ∀ a0 a1 a2 a3 k, LeO (spec_RowPack.f k a0 a1 a2 a3) (spec_RowPack.f (k + 1) a0 a1 a2 a3) := by
 intro a0 a1 a2 a3 k
 obtain ⟨ih0, ih1, ih2, ih3, ih4⟩ := spec_RowPack.mono_l k
 unfold spec_RowPack.f
 exact qbh0_
def spec_RowPack.T8 : Bool × List (List Nat × List Nat) := (true, [([], []), ([0], [0]), ([1], [1]), ([2], [2]), ([3], [3]), ([3], [3]), ([4, 5, 3, 3], [3, 4, 5]), ([6, 3], [3, 6]), ([3, 7], [3, 7]), ([8, 6], [8]), ([9], [9]), ([10, 9], [9, 10]), ([9], [9]), ([11, 12, 9], [9, 11, 12]), ([9], [9]), ([14, 9], [9, 14]), ([15, 9], [9, 15]), ([9], [9]), ([16, 17, 9], [9, 16, 17]), ([13, 18, 9], [9, 13, 18]), ([9, 19], [9, 19])])
def spec_RowPack.B8 : List Nat := [0, 1, 3, 7, 15, 15, 63, 127, 255, 511, 1023, 2047, 1023, 8191, 1023, 17407, 50175, 1023, 246783, 524287, 1048575]
theorem spec_RowPack.tab8 : rtab .any (opsOf Try.f46 8) = spec_RowPack.T8 := by kernel_rfl
theorem spec_RowPack.bits8 : waitsOk spec_RowPack.T8.2 spec_RowPack.B8 = true := by kernel_rfl
set_option maxHeartbeats 8000000 in
set_option maxRecDepth 100000 in
theorem spec_RowPack.calls (k : Nat) (a0_0 : Int) (a0_1 : Int) (A0_2 : Option Addr) (c0_2 : Nat) (l0_2 : List (S_Item)) (a1 : Int) (r1 : Int) (r2 : Int) (r3 : List (S_Item)) (w : World) (hr0_2 : Kd.C k_Item w A0_2 l0_2.length l0_2) (hc0_2 : l0_2.length ≤ c0_2) (h : spec_RowPack.f k a0_0 a0_1 l0_2 a1 = some (r1, r2, r3)) :
 Calls Try.prog 46 #[.agg #[.int .i64 a0_0, .int .i64 a0_1, .slice A0_2 l0_2.length c0_2], .int .i64 a1] w fun e w' => ∃ v2_ : Value, e = .returned (.agg #[.int .i64 r1, .int .i64 r2, v2_]) ∧ Kd.R k_Item 69 w' w.heap.size (fun _ => True) v2_ r3 ∧ Below w.heap.size w w' := by
 have hu57 := Try.underlying57
 have hu69 := Try.underlying69
 have HR0_2 := Aside0.mk hr0_2
 have HC0_2 := Aside0.mk hc0_2
 clear hr0_2 hc0_2
 have HB := Aside0.mk (Below.refl w.heap.size w)
 have H : (if a1 < 1 then (spec_RowPack.j0 k a1 true a0_0 a0_1 l0_2) else ((spec_RowOk.f k a0_0 a0_1 l0_2).bind fun t1098 => (spec_RowPack.j0 k a1 (!t1098) a0_0 a0_1 l0_2))) = some (r1, r2, r3) := h
 clear h
 have HC3 := Aside0.mk H
 clear H
 go_enter Try.func46, Try.ntmps46
 go_upto_region 1 with (first | ((with_reducible refine gate_dst (N := 2) rfl ?_); refine box_event ?hg (N := 2) ?hd (cs := #[.int .i64 a0_0, .int .i64 a0_1, .slice A0_2 l0_2.length c0_2]) (t := 57) ?hr ?_; (case hd => rfl); (case hg => rfl); (case hr => first | (go_simp; done) | (go_simp; rfl)); intro gb1096 hg w4 hbox hb; have BK1096 := Aside0.mk (hbox); have GW1096 := cz_ HB hg; have GE1096 := cz_ HB hg; replace HB := ch_ HB hb; clear hb hbox hg) | ((with_reducible refine gate_dst (N := 4) rfl ?_); refine box_event ?hg (N := 4) ?hd (cs := #[.int .i64 0, .int .i64 0, .slice none 0 0]) (t := 57) ?hr ?_; (case hd => rfl); (case hg => rfl); (case hr => first | (go_simp; done) | (go_simp; rfl)); intro gb1097 hg w5 hbox hb; have BK1097 := Aside0.mk (hbox); have GW1097 := cz_ HB hg; have GE1097 := cz_ HB hg; have NB1096_1097 := cn_ BK1096 hg; have NB1097_1096 := cm_ BK1096 hg; replace BK1096 := cb_ BK1096 hb; replace HB := ch_ HB hb; clear hb hbox hg))
 (try simp only [Act.put, List.setIfInBounds_toArray, List.set_cons_zero, List.set_cons_succ])
 go_cut [14] (fun v14 wc => ∃ (kq : Nat) (x14_2 : Bool), v14 = .bool x14_2 ∧ Aside0 (spec_RowPack.j0 kq a1 x14_2 a0_0 a0_1 l0_2 = some (r1, r2, r3)) ∧ Aside0 (kq ≤ k) ∧ Aside0 (wc.heap[gb1096]? = some (.cells #[.int .i64 a0_0, .int .i64 a0_1, (.slice A0_2 l0_2.length c0_2)] 57 (0, 0))) ∧ Aside0 (wc.heap[gb1097]? = some (.cells #[.int .i64 0, .int .i64 0, (.slice none 0 0)] 57 (0, 0))) ∧ Aside0 (Below w.heap.size w wc))
 case first =>
  have H := HC3.out
  clear HC3
  by_cases c6 : a1 < 1
  ·
   rw [if_pos c6] at H
   have c6b0 : decide (a1 < 1) = true := decide_eq_true c6
   clear c6
   (first | rw [c6b0] | (simp only [i64_w, i32_w]; rw [c6b0]) | rw [c6b4] | rw [c6b3] | skip)
   have H' := Aside0.mk H
   clear H
   go_wp2
   go_meet
   case rel => exact ⟨_, (true), (qb1_), H', ⟨by first | omega | exact Nat.le_refl _⟩, ⟨bq_ BK1096.out⟩, ⟨bq_ BK1097.out⟩, ⟨hb_ HB.out⟩⟩
  ·
   rw [if_neg c6] at H
   have c6b0 : decide (a1 < 1) = false := decide_eq_false c6
   clear c6
   (first | rw [c6b0] | (simp only [i64_w, i32_w]; rw [c6b0]) | rw [c6b4] | rw [c6b3] | skip)
   replace H := Option.bind_eq_some_iff.mp H
   obtain ⟨t1098, A70, H⟩ := H
   replace H : (spec_RowPack.j0 k a1 (!t1098) a0_0 a0_1 l0_2) = some (r1, r2, r3) := H
   have A7 := Aside0.mk A70
   clear A70
   have H' := Aside0.mk H
   clear H
   have hnb8 := NB1096_1097.out
   have hnc8 := NB1097_1096.out
   have hcz9_0 : w5.cell? ⟨gb1096, 0, none⟩ = some (.int .i64 a0_0) := bc_ BK1096 0
   have hcz9_1 : w5.cell? ⟨gb1096, 1, none⟩ = some (.int .i64 a0_1) := bc_ BK1096 1
   have hcz9_2 : w5.cell? ⟨gb1096, 2, none⟩ = some (.slice A0_2 l0_2.length c0_2) := bc_ BK1096 2
   have hfz9_0 := blk_frozen BK1096.out 0
   have hfz9_1 := blk_frozen BK1096.out 1
   have hfz9_2 := blk_frozen BK1096.out 2
   go_wp2_with (first | (go_at_call 45; (with_reducible refine (spec_RowOk.calls k a0_0 a0_1 _ _ l0_2 t1098 _ ?side1 ?side2 A7.out).mono ?_); (case side1 => repeat (first | exact (Kd.C_below HR0_2.out HB.out) | (with_reducible refine Kd.C_alloc ?_ _) | (with_reducible refine Kd.C_drewN ?_ _) | (with_reducible refine Kd.C_drew ?_))); (case side2 => exact HC0_2.out); rintro e w10 ⟨rfl, hb⟩; replace BK1096 := cb_ BK1096 hb; replace BK1097 := cb_ BK1097 hb; replace HB := ch_ HB hb; (try clear hb); (try clear hb2); (try clear hk); (try clear hi)))
   go_meet
   case rel => exact ⟨_, (!t1098), (qb1_), H', ⟨by first | omega | exact Nat.le_refl _⟩, ⟨bq_ BK1096.out⟩, ⟨bq_ BK1097.out⟩, ⟨hb_ HB.out⟩⟩
 case rest =>
  clear HC3
  obtain ⟨kq, x14_2, rfl, HA, HJ2, BK1096, BK1097, HB⟩ := hcut
  cases kq with
  | zero => exact absurd HA.out (by simp [spec_RowPack.j0])
  | succ kj2 =>
   have H := HA.out
   clear HA
   simp only [spec_RowPack.j0] at H
   have HC11 := Aside0.mk H
   clear H
   go_upto_if 14 with (fail)
   go_cut [] (fun wc => ∃ (kq : Nat) (x1098000_10 : Int) (x1098001_10 : Int), Aside0 (spec_RowPack.j1 kq a1 a0_0 a0_1 l0_2 = some (r1, r2, r3)) ∧ Aside0 (kq ≤ kj2) ∧ Aside0 (wc.heap[gb1096]? = some (.cells #[.int .i64 a0_0, .int .i64 a0_1, (.slice A0_2 l0_2.length c0_2)] 57 (0, 0))) ∧ Aside0 (wc.heap[gb1097]? = some (.cells #[.int .i64 x1098000_10, .int .i64 x1098001_10, (.slice none 0 0)] 57 (0, 0))) ∧ Aside0 (Below w.heap.size w wc))
   case first =>
    have H := HC11.out
    clear HC11
    by_cases c12 : x14_2 = true
    ·
     subst c12
     have H1 : ((spec_l3Copy.f a0_0 a0_1 l0_2).bind fun bt1099 => (some (bt1099.1, bt1099.2.1, bt1099.2.2))) = some (r1, r2, r3) := by rw [if_pos rfl] at H; exact H
     clear H
     have H := H1
     clear H1
     replace H := Option.bind_eq_some_iff.mp H
     obtain ⟨⟨t1099, t1100, t1101⟩, A130, H⟩ := H
     replace H : (some (t1099, t1100, t1101)) = some (r1, r2, r3) := H
     have A13 := Aside0.mk A130
     clear A130
     simp only [Option.some.injEq, Prod.mk.injEq] at H
     obtain ⟨rfl, rfl, rfl⟩ := H
     have hnb14 := NB1096_1097.out
     have hnc14 := NB1097_1096.out
     have hcz15_0 : wc.cell? ⟨gb1096, 0, none⟩ = some (.int .i64 a0_0) := bc_ BK1096 0
     have hcz15_1 : wc.cell? ⟨gb1096, 1, none⟩ = some (.int .i64 a0_1) := bc_ BK1096 1
     have hcz15_2 : wc.cell? ⟨gb1096, 2, none⟩ = some (.slice A0_2 l0_2.length c0_2) := bc_ BK1096 2
     have hfz15_0 := blk_frozen BK1096.out 0
     have hfz15_1 := blk_frozen BK1096.out 1
     have hfz15_2 := blk_frozen BK1096.out 2
     go_wp2_with (first | ((with_reducible refine gate_callee (f := 95) rfl ?_); refine goesL_ (some 16) rfl rfl Try.func95 (by kernel_rfl) rfl #[.agg #[.int .i64 a0_0, .int .i64 a0_1, .slice A0_2 l0_2.length c0_2]] rfl sm_ ?_; (with_reducible refine (spec_l3Copy.calls a0_0 a0_1 _ _ l0_2 t1099 t1100 t1101 _ ?side1 ?side2 A13.out).mono ?_); (case side1 => repeat (first | exact (Kd.C_below HR0_2.out HB.out) | (with_reducible refine Kd.C_alloc ?_ _) | (with_reducible refine Kd.C_drewN ?_ _) | (with_reducible refine Kd.C_drew ?_))); (case side2 => exact HC0_2.out); rintro e w16 ⟨v1102, rfl, ho0, hb⟩; refine ⟨_, rfl, ?_⟩; have HO1103 := Aside0.mk (Kd.R_lower ho0 (below_size (hb_ HB.out))); replace BK1096 := cb_ BK1096 hb; replace BK1097 := cb_ BK1097 hb; replace HB := ch_ HB hb; (try clear hb); (try clear hb2); (try clear hk); (try clear hi); (try clear ho0); have hcz17_0 : w16.cell? ⟨gb1097, 0, none⟩ = some (.int .i64 0) := bc_ BK1097 0; have hcz17_1 : w16.cell? ⟨gb1097, 1, none⟩ = some (.int .i64 0) := bc_ BK1097 1; have hcz17_2 : w16.cell? ⟨gb1097, 2, none⟩ = some (.slice none 0 0) := bc_ BK1097 2; have hfz17_0 := blk_frozen BK1097.out 0; have hfz17_1 := blk_frozen BK1097.out 1; have hfz17_2 := blk_frozen BK1097.out 2; obtain ⟨Ao18, co18, eo18⟩ := Kd.R_slice HO1103.out; subst eo18))
     refine bodyPost_ret (results_cell_row rfl _ _ gb1097 57 #[.int .i64 t1099, .int .i64 t1100, .slice Ao18 t1101.length co18] (0, 0) _ rfl (bp_ BK1097.out) Try.underlying57 rfl (by kernel_rfl)) rfl ?_
     exact ⟨_, er_, by (with_reducible repeat (first | apply Kd.R_alloc | apply Kd.R_drewN | apply Kd.R_drew)); exact Kd.R_mono (Kd.R_far (p := ⟨gb1097, 2, none⟩) (Kd.R_far (p := ⟨gb1097, 1, none⟩) (Kd.R_far (p := ⟨gb1097, 0, none⟩) (Kd.R_types HO1103.out BK1097.out (by decide)) (fun _ hk => hk.2) (.int .i64 t1099)) (fun _ hk => hk.2) (.int .i64 t1100)) (fun _ hk => hk.2) (.slice Ao18 t1101.length co18)) (fun _ hk => trivial), hb_ HB.out⟩
    ·
     replace c12 := Bool.eq_false_iff.mpr c12
     subst c12
     have H1 : (spec_RowPack.j1 kj2 a1 a0_0 a0_1 l0_2) = some (r1, r2, r3) := by rw [if_neg (show ¬ (false = true) by decide)] at H; exact H
     clear H
     have H := H1
     clear H1
     have H' := Aside0.mk H
     clear H
     go_wp2
     go_meet
     case rel => exact ⟨_, (0), (0), H', ⟨by have := HJ2.out; first | omega | exact Nat.le_refl _⟩, ⟨bq_ BK1096.out⟩, ⟨bq_ BK1097.out⟩, ⟨hb_ HB.out⟩⟩
   case rest =>
    clear HC11
    obtain ⟨kq, x1098000_10, x1098001_10, HA, HJ10, BK1096, BK1097, HB⟩ := hcut
    cases kq with
    | zero => exact absurd HA.out (by simp [spec_RowPack.j1])
    | succ kj10 =>
     have H := HA.out
     clear HA
     simp only [spec_RowPack.j1] at H
     have H' := Aside0.mk H
     clear H
     have hnb19 := NB1096_1097.out
     have hnc19 := NB1097_1096.out
     have hcz20_0 : wc.cell? ⟨gb1096, 0, none⟩ = some (.int .i64 a0_0) := bc_ BK1096 0
     have hcz20_1 : wc.cell? ⟨gb1096, 1, none⟩ = some (.int .i64 a0_1) := bc_ BK1096 1
     have hcz20_2 : wc.cell? ⟨gb1096, 2, none⟩ = some (.slice A0_2 l0_2.length c0_2) := bc_ BK1096 2
     have hfz20_0 := blk_frozen BK1096.out 0
     have hfz20_1 := blk_frozen BK1096.out 1
     have hfz20_2 := blk_frozen BK1096.out 2
     go_wp2_with (first | ((with_reducible refine gate_dst (N := 5) rfl ?_); refine box_event ?hg (N := 5) ?hd (cs := #[.int .i64 0, .int .i64 0, .slice none 0 0]) (t := 57) ?hr ?_; (case hd => rfl); (case hg => rfl); (case hr => first | (go_simp; done) | (go_simp; rfl)); intro gb1104 hg w21 hbox hb; have BK1104 := Aside0.mk (hbox); have GW1104 := cz_ HB hg; have GE1104 := cz_ HB hg; have NB1096_1104 := cn_ BK1096 hg; have NB1104_1096 := cm_ BK1096 hg; have NB1097_1104 := cn_ BK1097 hg; have NB1104_1097 := cm_ BK1097 hg; replace BK1096 := cb_ BK1096 hb; replace BK1097 := cb_ BK1097 hb; replace HB := ch_ HB hb; clear hb hbox hg; have hnb22 := NB1104_1096.out; have hnc22 := NB1096_1104.out; have hnb23 := NB1104_1097.out; have hnc23 := NB1097_1104.out; have hcz24_0 : w21.cell? ⟨gb1104, 0, none⟩ = some (.int .i64 0) := bc_ BK1104 0; have hcz24_1 : w21.cell? ⟨gb1104, 1, none⟩ = some (.int .i64 0) := bc_ BK1104 1; have hcz24_2 : w21.cell? ⟨gb1104, 2, none⟩ = some (.slice none 0 0) := bc_ BK1104 2; have hfz24_0 := blk_frozen BK1104.out 0; have hfz24_1 := blk_frozen BK1104.out 1; have hfz24_2 := blk_frozen BK1104.out 2))
     go_loopg [6] kj10 (fun kq v6 w' => ∃ (x6_3 : Int) (x1105002_3 : List (S_Item)) (u1105002 : Value), v6 = .int .i64 x6_3 ∧ Aside0 (spec_RowPack.l0 kq a1 x6_3 a0_0 a0_1 l0_2 a0_0 a0_1 x1105002_3 = some (r1, r2, r3)) ∧ Aside0 (kq ≤ kj10) ∧ Aside0 (Kd.R k_Item 69 w' w.heap.size (fun _ => True) u1105002 x1105002_3) ∧ Aside0 (w'.heap[gb1096]? = some (.cells #[.int .i64 a0_0, .int .i64 a0_1, (.slice A0_2 l0_2.length c0_2)] 57 (0, 0))) ∧ Aside0 (w'.heap[gb1097]? = some (.cells #[.int .i64 x1098000_10, .int .i64 x1098001_10, (.slice none 0 0)] 57 (0, 0))) ∧ Aside0 (w'.heap[gb1104]? = some (.cells #[.int .i64 a0_0, .int .i64 a0_1, u1105002] 57 (0, 0))) ∧ Aside0 (Below w.heap.size w w'))
     case atStart => exact ⟨(0), (([] : List (S_Item))), (.slice none 0 0), (qb1_), H', ⟨Nat.le_refl _⟩, ⟨by first | exact Kd.R_nil _ _ _ _ _ | exact Kd.N_nil _ _ _ _ _ | exact Kd.V_nil _ _ _ _ _ | exact Kd.Q_nil _ _ _ _ _ | exact Kd.S_nil _ _ _ _ _⟩, ⟨bf_ NB1096_1104.out BK1096.out⟩, ⟨bf_ NB1097_1104.out BK1097.out⟩, ⟨bp_ BK1104.out⟩, ⟨hb_ HB.out⟩⟩
     case round =>
      clear H'
      (try clear hcz20_0); (try clear hcz20_1); (try clear hcz20_2); (try clear hcz24_0); (try clear hcz24_1); (try clear hcz24_2); (try clear hfz20_0); (try clear hfz20_1); (try clear hfz20_2); (try clear hfz24_0); (try clear hfz24_1); (try clear hfz24_2)
      obtain ⟨x6_3, x1105002_3, u1105002, rfl, HA, HK3, HO_1105002, BK1096, BK1097, BK1104, HB⟩ := hrel
      cases gk with
      | zero => exact absurd HA.out (by simp [spec_RowPack.l0])
      | succ k3 =>
       have H := HA.out
       clear HA
       simp only [spec_RowPack.l0] at H
       have HC25 := Aside0.mk H
       clear H
       have hnb26 := NB1096_1097.out
       have hnc26 := NB1097_1096.out
       have hnb27 := NB1096_1104.out
       have hnc27 := NB1104_1096.out
       have hcz28_0 : wr.cell? ⟨gb1096, 0, none⟩ = some (.int .i64 a0_0) := bc_ BK1096 0
       have hcz28_1 : wr.cell? ⟨gb1096, 1, none⟩ = some (.int .i64 a0_1) := bc_ BK1096 1
       have hcz28_2 : wr.cell? ⟨gb1096, 2, none⟩ = some (.slice A0_2 l0_2.length c0_2) := bc_ BK1096 2
       have hfz28_0 := blk_frozen BK1096.out 0
       have hfz28_1 := blk_frozen BK1096.out 1
       have hfz28_2 := blk_frozen BK1096.out 2
       go_upto_if 26 with (fail)
       go_cut [] (fun wc => ∃ (kq : Nat), Aside0 (spec_RowPack.j3 kq a1 x6_3 a0_0 a0_1 l0_2 a0_0 a0_1 x1105002_3 = some (r1, r2, r3)) ∧ Aside0 (kq ≤ k3) ∧ Aside0 (Kd.R k_Item 69 wc w.heap.size (fun _ => True) u1105002 x1105002_3) ∧ Aside0 (wc.heap[gb1096]? = some (.cells #[.int .i64 a0_0, .int .i64 a0_1, (.slice A0_2 l0_2.length c0_2)] 57 (0, 0))) ∧ Aside0 (wc.heap[gb1097]? = some (.cells #[.int .i64 x1098000_10, .int .i64 x1098001_10, (.slice none 0 0)] 57 (0, 0))) ∧ Aside0 (wc.heap[gb1104]? = some (.cells #[.int .i64 a0_0, .int .i64 a0_1, u1105002] 57 (0, 0))) ∧ Aside0 (Below w.heap.size w wc))
       case first =>
        have H := HC25.out
        clear HC25
        by_cases c29 : x6_3 < (l0_2.length : Int)
        ·
         rw [if_pos c29] at H
         have c29b0 : decide (x6_3 < (l0_2.length : Int)) = true := decide_eq_true c29
         clear c29
         (first | rw [c29b0] | (simp only [i64_w, i32_w]; rw [c29b0]) | rw [c29b4] | rw [c29b3] | skip)
         have H' := Aside0.mk H
         clear H
         go_wp2
         go_meet
         case rel => exact ⟨_, H', ⟨by have := HJ2.out; have := HJ10.out; have := HK3.out; first | omega | exact Nat.le_refl _⟩, ⟨rq_ HO_1105002.out⟩, ⟨bq_ BK1096.out⟩, ⟨bq_ BK1097.out⟩, ⟨bq_ BK1104.out⟩, ⟨hb_ HB.out⟩⟩
        ·
         rw [if_neg c29] at H
         have c29b0 : decide (x6_3 < (l0_2.length : Int)) = false := decide_eq_false c29
         clear c29
         (first | rw [c29b0] | (simp only [i64_w, i32_w]; rw [c29b0]) | rw [c29b4] | rw [c29b3] | skip)
         simp only [Option.some.injEq, Prod.mk.injEq] at H
         obtain ⟨rfl, rfl, rfl⟩ := H
         have hnb30 := NB1104_1096.out
         have hnc30 := NB1096_1104.out
         have hnb31 := NB1104_1097.out
         have hnc31 := NB1097_1104.out
         have hcz32_0 : wr.cell? ⟨gb1104, 0, none⟩ = some (.int .i64 a0_0) := bc_ BK1104 0
         have hcz32_1 : wr.cell? ⟨gb1104, 1, none⟩ = some (.int .i64 a0_1) := bc_ BK1104 1
         have hcz32_2 : wr.cell? ⟨gb1104, 2, none⟩ = some (u1105002) := bc_ BK1104 2
         have hfz32_0 := blk_frozen BK1104.out 0
         have hfz32_1 := blk_frozen BK1104.out 1
         have hfz32_2 := blk_frozen BK1104.out 2
         have hnb33 := NB1097_1096.out
         have hnc33 := NB1096_1097.out
         have hcz34_0 : wr.cell? ⟨gb1097, 0, none⟩ = some (.int .i64 x1098000_10) := bc_ BK1097 0
         have hcz34_1 : wr.cell? ⟨gb1097, 1, none⟩ = some (.int .i64 x1098001_10) := bc_ BK1097 1
         have hcz34_2 : wr.cell? ⟨gb1097, 2, none⟩ = some (.slice none 0 0) := bc_ BK1097 2
         have hfz34_0 := blk_frozen BK1097.out 0
         have hfz34_1 := blk_frozen BK1097.out 1
         have hfz34_2 := blk_frozen BK1097.out 2
         obtain ⟨Ao35, co35, eo35⟩ := Kd.R_slice HO_1105002.out
         subst eo35
         go_wp2
         refine bodyPost_ret (results_cell_row rfl _ _ gb1097 57 #[.int .i64 a0_0, .int .i64 a0_1, .slice Ao35 x1105002_3.length co35] (0, 0) _ rfl (bp_ BK1097.out) Try.underlying57 rfl (by kernel_rfl)) rfl ?_
         exact ⟨_, er_, by (with_reducible repeat (first | apply Kd.R_alloc | apply Kd.R_drewN | apply Kd.R_drew)); exact Kd.R_mono (Kd.R_far (p := ⟨gb1097, 2, none⟩) (Kd.R_far (p := ⟨gb1097, 1, none⟩) (Kd.R_far (p := ⟨gb1097, 0, none⟩) (Kd.R_types HO_1105002.out BK1097.out (by decide)) (fun _ hk => hk.2) (.int .i64 a0_0)) (fun _ hk => hk.2) (.int .i64 a0_1)) (fun _ hk => hk.2) (.slice Ao35 x1105002_3.length co35)) (fun _ hk => trivial), hb_ HB.out⟩
       case rest =>
        clear HC25
        (try clear hcz28_0); (try clear hcz28_1); (try clear hcz28_2); (try clear hfz28_0); (try clear hfz28_1); (try clear hfz28_2)
        obtain ⟨kq, HA, HJ24, HO_1105002, BK1096, BK1097, BK1104, HB⟩ := hcut
        cases kq with
        | zero => exact absurd HA.out (by simp [spec_RowPack.j3])
        | succ kj24 =>
         have H := HA.out
         clear HA
         simp only [spec_RowPack.j3] at H
         by_cases c36 : 0 ≤ x6_3
         ·
          rw [if_pos c36] at H
          have c36b0 : decide (0 ≤ x6_3) = true := decide_eq_true c36
          clear c36
          by_cases c37 : x6_3 < (l0_2.length : Int)
          ·
           rw [if_pos c37] at H
           have c37b0 : decide (x6_3 < (l0_2.length : Int)) = true := decide_eq_true c37
           clear c37
           have HC38 := Aside0.mk H
           clear H
           have hnb39 := NB1096_1097.out
           have hnc39 := NB1097_1096.out
           have hnb40 := NB1096_1104.out
           have hnc40 := NB1104_1096.out
           have hcz41_0 : wc.cell? ⟨gb1096, 0, none⟩ = some (.int .i64 a0_0) := bc_ BK1096 0
           have hcz41_1 : wc.cell? ⟨gb1096, 1, none⟩ = some (.int .i64 a0_1) := bc_ BK1096 1
           have hcz41_2 : wc.cell? ⟨gb1096, 2, none⟩ = some (.slice A0_2 l0_2.length c0_2) := bc_ BK1096 2
           have hfz41_0 := blk_frozen BK1096.out 0
           have hfz41_1 := blk_frozen BK1096.out 1
           have hfz41_2 := blk_frozen BK1096.out 2
           have p1105 : 0 ≤ (x6_3 : Int) := of_decide_eq_true dt_
           have q1105 : x6_3 < (l0_2.length : Int) := of_decide_eq_true dt_
           obtain ⟨ad1105, e1105, hx1105_0, hx1105_1, hx1105_2, hx1105_3, hx1105_4⟩ := at_Item HR0_2.out x6_3 p1105 q1105
           cases e1105
           replace hx1105_0 := hc_ HB hx1105_0
           replace hx1105_1 := hc_ HB hx1105_1
           replace hx1105_2 := hc_ HB hx1105_2
           replace hx1105_3 := hc_ HB hx1105_3
           replace hx1105_4 := hc_ HB hx1105_4
           replace p1105 := eq_true p1105
           replace q1105 := eq_true q1105
           go_upto_region 8 with (first | ((with_reducible refine gate_dst (N := 7) rfl ?_); refine box_event ?hg (N := 7) ?hd (cs := #[.int .i64 0, .string (⟨#[]⟩ : ByteArray), .string (⟨#[]⟩ : ByteArray), .int .i64 0, .int .i64 0]) (t := 69) ?hr ?_; (case hd => rfl); (case hg => rfl); (case hr => first | (go_simp; done) | (go_simp; rfl)); intro gb1106 hg w42 hbox hb; have BK1106 := Aside0.mk (hbox); have GW1106 := cz_ HB hg; have GE1106 := cz_ HB hg; have NB1096_1106 := cn_ BK1096 hg; have NB1106_1096 := cm_ BK1096 hg; have NB1097_1106 := cn_ BK1097 hg; have NB1106_1097 := cm_ BK1097 hg; have NB1104_1106 := cn_ BK1104 hg; have NB1106_1104 := cm_ BK1104 hg; replace HO_1105002 := Aside0.mk (Kd.R_below (Kd.R_elderB (rq_ HO_1105002.out) gb1106 (Nat.le_of_eq hg.symm)) hb); replace BK1096 := cb_ BK1096 hb; replace BK1097 := cb_ BK1097 hb; replace BK1104 := cb_ BK1104 hb; replace HB := ch_ HB hb; clear hb hbox hg; have hnb43 := NB1106_1096.out; have hnc43 := NB1096_1106.out; have hnb44 := NB1106_1097.out; have hnc44 := NB1097_1106.out; have hnb45 := NB1106_1104.out; have hnc45 := NB1104_1106.out; have hcz46_0 : w42.cell? ⟨gb1106, 0, none⟩ = some (.int .i64 0) := bc_ BK1106 0; have hcz46_1 : w42.cell? ⟨gb1106, 1, none⟩ = some (.string (⟨#[]⟩ : ByteArray)) := bc_ BK1106 1; have hcz46_2 : w42.cell? ⟨gb1106, 2, none⟩ = some (.string (⟨#[]⟩ : ByteArray)) := bc_ BK1106 2; have hcz46_3 : w42.cell? ⟨gb1106, 3, none⟩ = some (.int .i64 0) := bc_ BK1106 3; have hcz46_4 : w42.cell? ⟨gb1106, 4, none⟩ = some (.int .i64 0) := bc_ BK1106 4; have hfz46_0 := blk_frozen BK1106.out 0; have hfz46_1 := blk_frozen BK1106.out 1; have hfz46_2 := blk_frozen BK1106.out 2; have hfz46_3 := blk_frozen BK1106.out 3; have hfz46_4 := blk_frozen BK1106.out 4))
           (try simp only [Act.put, List.setIfInBounds_toArray, List.set_cons_zero, List.set_cons_succ])
           go_cut [54] (fun v54 wc => ∃ (kq : Nat) (x54_37 : Bool), v54 = .bool x54_37 ∧ Aside0 (spec_RowPack.j4 kq a1 x6_3 x54_37 a0_0 a0_1 l0_2 a0_0 a0_1 x1105002_3 ((rd_Item l0_2 x6_3).f0) ((rd_Item l0_2 x6_3).f1) ((rd_Item l0_2 x6_3).f2) ((rd_Item l0_2 x6_3).f3) ((rd_Item l0_2 x6_3).f4) = some (r1, r2, r3)) ∧ Aside0 (kq ≤ kj24) ∧ Aside0 (Kd.R k_Item 69 wc w.heap.size (fun k_ => k_ ≠ gb1106) u1105002 x1105002_3) ∧ Aside0 (wc.heap[gb1096]? = some (.cells #[.int .i64 a0_0, .int .i64 a0_1, (.slice (some ad1105) l0_2.length c0_2)] 57 (0, 0))) ∧ Aside0 (wc.heap[gb1097]? = some (.cells #[.int .i64 x1098000_10, .int .i64 x1098001_10, (.slice none 0 0)] 57 (0, 0))) ∧ Aside0 (wc.heap[gb1104]? = some (.cells #[.int .i64 a0_0, .int .i64 a0_1, u1105002] 57 (0, 0))) ∧ Aside0 (wc.heap[gb1106]? = some (.cells #[.int .i64 ((rd_Item l0_2 x6_3).f0), .string ((rd_Item l0_2 x6_3).f1), .string ((rd_Item l0_2 x6_3).f2), .int .i64 ((rd_Item l0_2 x6_3).f3), .int .i64 ((rd_Item l0_2 x6_3).f4)] 69 (0, 0))) ∧ Aside0 (Below w.heap.size w wc))
           case first =>
            have H := HC38.out
            clear HC38
            by_cases c47 : ((rd_Item l0_2 x6_3).f1).toList = ([] : List UInt8)
            ·
             rw [if_pos c47] at H
             have c47b0 : (((rd_Item l0_2 x6_3).f1).toList == ([] : List UInt8)) = true := beq_iff_eq.mpr c47
             have c47b1 : (((rd_Item l0_2 x6_3).f1).toList != ([] : List UInt8)) = false := bne_eq_false_iff_eq.mpr c47
             clear c47
             (first | rw [c47b0] | (simp only [i64_w, i32_w]; rw [c47b0]) | rw [c47b4] | rw [c47b3] | skip)
             have H' := Aside0.mk H
             clear H
             try go_wp2
             obtain ⟨w48, qe_⟩ : ∃ x_, x_ = (((((w42.setCell ⟨gb1106, 0, none⟩ (.int .i64 ((rd_Item l0_2 x6_3).f0))).setCell ⟨gb1106, 1, none⟩ (.string ((rd_Item l0_2 x6_3).f1))).setCell ⟨gb1106, 2, none⟩ (.string ((rd_Item l0_2 x6_3).f2))).setCell ⟨gb1106, 3, none⟩ (.int .i64 ((rd_Item l0_2 x6_3).f3))).setCell ⟨gb1106, 4, none⟩ (.int .i64 ((rd_Item l0_2 x6_3).f4))) := ⟨_, rfl⟩
             rw [← qe_]
             replace HO_1105002 : Aside0 (Kd.R k_Item 69 w48 w.heap.size (fun k_ => k_ ≠ gb1106) u1105002 x1105002_3) := ⟨qb0_⟩
             replace BK1096 := fl_ qe_ BK1096
             replace BK1097 := fl_ qe_ BK1097
             replace BK1104 := fl_ qe_ BK1104
             replace BK1106 : Aside0 (w48.heap[gb1106]? = some (.cells #[.int .i64 ((rd_Item l0_2 x6_3).f0), .string ((rd_Item l0_2 x6_3).f1), .string ((rd_Item l0_2 x6_3).f2), .int .i64 ((rd_Item l0_2 x6_3).f3), .int .i64 ((rd_Item l0_2 x6_3).f4)] 69 (0, 0))) := ⟨by rw [qe_]; exact bp_ BK1106.out⟩
             replace HB : Aside0 (Below w.heap.size w w48) := ⟨by rw [qe_]; exact hb_ HB.out⟩
             clear qe_
             replace HO_1105002 := Aside0.mk (Kd.R_drew HO_1105002.out)
             replace BK1096 := Aside0.mk (blk_drew BK1096.out)
             replace BK1097 := Aside0.mk (blk_drew BK1097.out)
             replace BK1104 := Aside0.mk (blk_drew BK1104.out)
             replace BK1106 := Aside0.mk (blk_drew BK1106.out)
             replace HB := Aside0.mk (below_drew1 HB.out)
             refine start_ (n := 21) (S := fun w' => w'.cell? ⟨gb1106, 0, none⟩ = some (.int .i64 ((rd_Item l0_2 x6_3).f0)) ∧ w'.cell? ⟨gb1106, 1, none⟩ = some (.string ((rd_Item l0_2 x6_3).f1)) ∧ w'.cell? ⟨gb1106, 2, none⟩ = some (.string ((rd_Item l0_2 x6_3).f2)) ∧ w'.cell? ⟨gb1106, 3, none⟩ = some (.int .i64 ((rd_Item l0_2 x6_3).f3)) ∧ w'.cell? ⟨gb1106, 4, none⟩ = some (.int .i64 ((rd_Item l0_2 x6_3).f4))) (ds := []) spec_RowPack.m0 (by kernel_rfl) rfl rfl ⟨bc_ BK1106 0, bc_ BK1106 1, bc_ BK1106 2, bc_ BK1106 3, bc_ BK1106 4⟩ (fun hHeld => ?_); refine with_tabW spec_RowPack.tab8 spec_RowPack.bits8 (fun HT_ HW_ => ?_)
             generalize w48.drew = w49 at HO_1105002 BK1096 BK1097 BK1104 BK1106 HB hHeld ⊢
             refine pI_ 0 34 HT_ spec_RowPack.m1 rfl rfl ?_
             refine tk_ 1 35 HT_ HW_ spec_RowPack.m2 rfl rfl hHeld ?_
             refine pI_ 2 36 HT_ spec_RowPack.m3 rfl rfl ?_
             refine pI_ 3 37 HT_ spec_RowPack.m4 rfl rfl ?_
             refine pU_ 4 38 HT_ #[true, true, true, true, true, false, false, false, false, false, false, false, false, false, false, false, false, false, false, false, false] rfl rfl ?_
             refine pU_ 5 39 HT_ spec_RowPack.m5 rfl rfl ?_
             refine pU_ 6 40 HT_ spec_RowPack.m6 rfl rfl ?_
             refine pU_ 7 41 HT_ spec_RowPack.m7 rfl rfl ?_
             refine pI_ 8 42 HT_ spec_RowPack.m8 rfl rfl ?_
             refine pI_ 9 43 HT_ spec_RowPack.m9 rfl rfl ?_
             refine pU_ 10 44 HT_ spec_RowPack.m10 rfl rfl ?_
             refine pU_ 11 45 HT_ spec_RowPack.m11 rfl rfl ?_
             refine pU_ 12 46 HT_ spec_RowPack.m12 rfl rfl ?_
             refine pU_ 13 47 HT_ spec_RowPack.m13 rfl rfl ?_
             refine pU_ 14 48 HT_ spec_RowPack.m14 rfl rfl ?_
             refine pU_ 15 49 HT_ spec_RowPack.m15 rfl rfl ?_
             refine pU_ 16 50 HT_ spec_RowPack.m16 rfl rfl ?_
             refine pU_ 17 51 HT_ spec_RowPack.m17 rfl rfl ?_
             refine pU_ 18 52 HT_ spec_RowPack.m18 rfl rfl ?_
             refine pU_ 19 53 HT_ spec_RowPack.m19 rfl rfl ?_
             refine pI_ 20 54 HT_ spec_RowPack.m20 rfl rfl ?_
             refine done_ (done_of HT_.out (by kernel_rfl)) ?_
             try go_wp2
             go_meet
             case rel => exact ⟨_, (true), (qb1_), H', ⟨qb2_⟩, ⟨rq_ HO_1105002.out⟩, ⟨bq_ BK1096.out⟩, ⟨bq_ BK1097.out⟩, ⟨bq_ BK1104.out⟩, ⟨bq_ BK1106.out⟩, ⟨hb_ HB.out⟩⟩
            ·
             rw [if_neg c47] at H
             have c47b0 : (((rd_Item l0_2 x6_3).f1).toList == ([] : List UInt8)) = false := beq_eq_false_iff_ne.mpr c47
             have c47b1 : (((rd_Item l0_2 x6_3).f1).toList != ([] : List UInt8)) = true := bne_iff_ne.mpr c47
             (first | rw [c47b0] | (simp only [i64_w, i32_w]; rw [c47b0]) | rw [c47b4] | rw [c47b3] | skip)
             replace H := Option.bind_eq_some_iff.mp H
             obtain ⟨t1107, A500, H⟩ := H
             replace H : (if t1107 = true then (if a1 = 0 then (none) else (spec_RowPack.j4 kj24 a1 x6_3 ((wrap64 (Int.tdiv ((rd_Item l0_2 x6_3).f0) a1)) == (wrap64 (Int.tdiv (wrap64 (a0_1 - 1)) a1))) a0_0 a0_1 l0_2 a0_0 a0_1 x1105002_3 ((rd_Item l0_2 x6_3).f0) ((rd_Item l0_2 x6_3).f1) ((rd_Item l0_2 x6_3).f2) ((rd_Item l0_2 x6_3).f3) ((rd_Item l0_2 x6_3).f4))) else (spec_RowPack.j4 kj24 a1 x6_3 true a0_0 a0_1 l0_2 a0_0 a0_1 x1105002_3 ((rd_Item l0_2 x6_3).f0) ((rd_Item l0_2 x6_3).f1) ((rd_Item l0_2 x6_3).f2) ((rd_Item l0_2 x6_3).f3) ((rd_Item l0_2 x6_3).f4))) = some (r1, r2, r3) := H
             have A50 := Aside0.mk A500
             clear A500
             by_cases c51 : t1107 = true
             ·
              subst c51
              have H1 : (if a1 = 0 then (none) else (spec_RowPack.j4 kj24 a1 x6_3 ((wrap64 (Int.tdiv ((rd_Item l0_2 x6_3).f0) a1)) == (wrap64 (Int.tdiv (wrap64 (a0_1 - 1)) a1))) a0_0 a0_1 l0_2 a0_0 a0_1 x1105002_3 ((rd_Item l0_2 x6_3).f0) ((rd_Item l0_2 x6_3).f1) ((rd_Item l0_2 x6_3).f2) ((rd_Item l0_2 x6_3).f3) ((rd_Item l0_2 x6_3).f4))) = some (r1, r2, r3) := by rw [if_pos rfl] at H; exact H
              clear H
              have H := H1
              clear H1
              by_cases c52 : a1 = 0
              ·
               rw [if_pos c52] at H
               exact absurd H (by simp)
              ·
               rw [if_neg c52] at H
               have c52b0 : (a1 == 0) = false := beq_eq_false_iff_ne.mpr c52
               have c52b1 : (a1 != 0) = true := bne_iff_ne.mpr c52
               have H' := Aside0.mk H
               clear H
               try go_wp2
               obtain ⟨w53, qe_⟩ : ∃ x_, x_ = (((((w42.setCell ⟨gb1106, 0, none⟩ (.int .i64 ((rd_Item l0_2 x6_3).f0))).setCell ⟨gb1106, 1, none⟩ (.string ((rd_Item l0_2 x6_3).f1))).setCell ⟨gb1106, 2, none⟩ (.string ((rd_Item l0_2 x6_3).f2))).setCell ⟨gb1106, 3, none⟩ (.int .i64 ((rd_Item l0_2 x6_3).f3))).setCell ⟨gb1106, 4, none⟩ (.int .i64 ((rd_Item l0_2 x6_3).f4))) := ⟨_, rfl⟩
               rw [← qe_]
               replace HO_1105002 : Aside0 (Kd.R k_Item 69 w53 w.heap.size (fun k_ => k_ ≠ gb1106) u1105002 x1105002_3) := ⟨qb0_⟩
               replace BK1096 := fl_ qe_ BK1096
               replace BK1097 := fl_ qe_ BK1097
               replace BK1104 := fl_ qe_ BK1104
               replace BK1106 : Aside0 (w53.heap[gb1106]? = some (.cells #[.int .i64 ((rd_Item l0_2 x6_3).f0), .string ((rd_Item l0_2 x6_3).f1), .string ((rd_Item l0_2 x6_3).f2), .int .i64 ((rd_Item l0_2 x6_3).f3), .int .i64 ((rd_Item l0_2 x6_3).f4)] 69 (0, 0))) := ⟨by rw [qe_]; exact bp_ BK1106.out⟩
               replace HB : Aside0 (Below w.heap.size w w53) := ⟨by rw [qe_]; exact hb_ HB.out⟩
               clear qe_
               replace HO_1105002 := Aside0.mk (Kd.R_drew HO_1105002.out)
               replace BK1096 := Aside0.mk (blk_drew BK1096.out)
               replace BK1097 := Aside0.mk (blk_drew BK1097.out)
               replace BK1104 := Aside0.mk (blk_drew BK1104.out)
               replace BK1106 := Aside0.mk (blk_drew BK1106.out)
               replace HB := Aside0.mk (below_drew1 HB.out)
               refine start_ (n := 21) (S := fun w' => w'.cell? ⟨gb1106, 0, none⟩ = some (.int .i64 ((rd_Item l0_2 x6_3).f0)) ∧ w'.cell? ⟨gb1106, 1, none⟩ = some (.string ((rd_Item l0_2 x6_3).f1)) ∧ w'.cell? ⟨gb1106, 2, none⟩ = some (.string ((rd_Item l0_2 x6_3).f2)) ∧ w'.cell? ⟨gb1106, 3, none⟩ = some (.int .i64 ((rd_Item l0_2 x6_3).f3)) ∧ w'.cell? ⟨gb1106, 4, none⟩ = some (.int .i64 ((rd_Item l0_2 x6_3).f4)) ∧ w'.cell? ⟨gb1096, 0, none⟩ = some (.int .i64 a0_0) ∧ w'.cell? ⟨gb1096, 1, none⟩ = some (.int .i64 a0_1) ∧ w'.cell? ⟨gb1096, 2, none⟩ = some (.slice (some ad1105) l0_2.length c0_2)) (ds := []) spec_RowPack.m0 (by kernel_rfl) rfl rfl ⟨bc_ BK1106 0, bc_ BK1106 1, bc_ BK1106 2, bc_ BK1106 3, bc_ BK1106 4, bc_ BK1096 0, bc_ BK1096 1, bc_ BK1096 2⟩ (fun hHeld => ?_); refine with_tabW spec_RowPack.tab8 spec_RowPack.bits8 (fun HT_ HW_ => ?_)
               generalize w53.drew = w54 at HO_1105002 BK1096 BK1097 BK1104 BK1106 HB hHeld ⊢
               refine pI_ 0 34 HT_ spec_RowPack.m1 rfl rfl ?_
               refine tk_ 1 35 HT_ HW_ spec_RowPack.m2 rfl rfl hHeld ?_
               refine pI_ 2 36 HT_ spec_RowPack.m3 rfl rfl ?_
               refine pI_ 3 37 HT_ spec_RowPack.m4 rfl rfl ?_
               refine pI_ 5 39 HT_ spec_RowPack.m21 rfl rfl ?_
               refine tk_ 4 38 HT_ HW_ spec_RowPack.m5 rfl rfl hHeld ?_
               refine on_ 6 40 HT_ spec_RowPack.m6 rfl rfl (fun K hK => ?_)
               refine goes_ Try.func108 (by kernel_rfl) rfl #[.agg #[.int .i64 a0_0, .int .i64 a0_1, .slice (some ad1105) l0_2.length c0_2], .int .i64 x6_3] (by rfl) rfl rfl sm_ ?_
               with_reducible refine (spec_l3Behind.calls kj24 a0_0 a0_1 _ _ l0_2 x6_3 true _ ?side1 ?side2 A50.out).mono ?_
               (case side1 => repeat (first | exact (Kd.C_below HR0_2.out HB.out) | (with_reducible refine Kd.C_alloc ?_ _) | (with_reducible refine Kd.C_drewN ?_ _) | (with_reducible refine Kd.C_drew ?_)))
               (case side2 => exact HC0_2.out)
               rintro e w55 ⟨rfl, hb⟩
               refine ⟨_, rfl, ?_⟩
               replace HO_1105002 := cr_ HO_1105002 hb
               replace BK1096 := cb_ BK1096 hb
               replace BK1097 := cb_ BK1097 hb
               replace BK1104 := cb_ BK1104 hb
               replace BK1106 := cb_ BK1106 hb
               replace HB := ch_ HB hb
               (try clear hb); (try clear hk)
               refine hK.out _ _ ⟨bc_ BK1106 0, bc_ BK1106 1, bc_ BK1106 2, bc_ BK1106 3, bc_ BK1106 4, bc_ BK1096 0, bc_ BK1096 1, bc_ BK1096 2⟩ (fun hHeld => ?_)
               clear hK K
               refine nm_ ?_
               refine pI_ 7 41 HT_ spec_RowPack.m7 rfl rfl ?_
               refine pI_ 8 42 HT_ spec_RowPack.m8 rfl rfl ?_
               refine pI_ 9 43 HT_ spec_RowPack.m9 rfl rfl ?_
               refine pI_ 10 44 HT_ spec_RowPack.m10 rfl rfl ?_
               refine pI_ 12 46 HT_ #[true, true, true, true, true, true, true, true, true, true, true, false, true, false, false, false, false, false, false, false, false] rfl rfl ?_
               refine pI_ 14 48 HT_ #[true, true, true, true, true, true, true, true, true, true, true, false, true, false, true, false, false, false, false, false, false] rfl rfl ?_
               refine pI_ 17 51 HT_ #[true, true, true, true, true, true, true, true, true, true, true, false, true, false, true, false, false, true, false, false, false] rfl rfl ?_
               refine tk_ 11 45 HT_ HW_ #[true, true, true, true, true, true, true, true, true, true, true, true, true, false, true, false, false, true, false, false, false] rfl rfl hHeld ?_
               refine pI_ 13 47 HT_ #[true, true, true, true, true, true, true, true, true, true, true, true, true, true, true, false, false, true, false, false, false] rfl rfl ?_
               refine tk_ 15 49 HT_ HW_ #[true, true, true, true, true, true, true, true, true, true, true, true, true, true, true, true, false, true, false, false, false] rfl rfl hHeld ?_
               refine pI_ 16 50 HT_ spec_RowPack.m17 rfl rfl ?_
               refine pI_ 18 52 HT_ spec_RowPack.m18 rfl rfl ?_
               refine pI_ 19 53 HT_ spec_RowPack.m19 rfl rfl ?_
               refine pI_ 20 54 HT_ spec_RowPack.m20 rfl rfl ?_
               refine done_ (done_of HT_.out (by kernel_rfl)) ?_
               try go_wp2
               go_meet
               case rel => exact ⟨_, (((wrap64 (Int.tdiv ((rd_Item l0_2 x6_3).f0) a1)) == (wrap64 (Int.tdiv (wrap64 (a0_1 - 1)) a1)))), (qb1_), H', ⟨qb2_⟩, ⟨rq_ HO_1105002.out⟩, ⟨bq_ BK1096.out⟩, ⟨bq_ BK1097.out⟩, ⟨bq_ BK1104.out⟩, ⟨bq_ BK1106.out⟩, ⟨hb_ HB.out⟩⟩
             ·
              replace c51 := Bool.eq_false_iff.mpr c51
              subst c51
              have H1 : (spec_RowPack.j4 kj24 a1 x6_3 true a0_0 a0_1 l0_2 a0_0 a0_1 x1105002_3 ((rd_Item l0_2 x6_3).f0) ((rd_Item l0_2 x6_3).f1) ((rd_Item l0_2 x6_3).f2) ((rd_Item l0_2 x6_3).f3) ((rd_Item l0_2 x6_3).f4)) = some (r1, r2, r3) := by rw [if_neg (show ¬ (false = true) by decide)] at H; exact H
              clear H
              have H := H1
              clear H1
              have H' := Aside0.mk H
              clear H
              try go_wp2
              obtain ⟨w56, qe_⟩ : ∃ x_, x_ = (((((w42.setCell ⟨gb1106, 0, none⟩ (.int .i64 ((rd_Item l0_2 x6_3).f0))).setCell ⟨gb1106, 1, none⟩ (.string ((rd_Item l0_2 x6_3).f1))).setCell ⟨gb1106, 2, none⟩ (.string ((rd_Item l0_2 x6_3).f2))).setCell ⟨gb1106, 3, none⟩ (.int .i64 ((rd_Item l0_2 x6_3).f3))).setCell ⟨gb1106, 4, none⟩ (.int .i64 ((rd_Item l0_2 x6_3).f4))) := ⟨_, rfl⟩
              rw [← qe_]
              replace HO_1105002 : Aside0 (Kd.R k_Item 69 w56 w.heap.size (fun k_ => k_ ≠ gb1106) u1105002 x1105002_3) := ⟨qb0_⟩
              replace BK1096 := fl_ qe_ BK1096
              replace BK1097 := fl_ qe_ BK1097
              replace BK1104 := fl_ qe_ BK1104
              replace BK1106 : Aside0 (w56.heap[gb1106]? = some (.cells #[.int .i64 ((rd_Item l0_2 x6_3).f0), .string ((rd_Item l0_2 x6_3).f1), .string ((rd_Item l0_2 x6_3).f2), .int .i64 ((rd_Item l0_2 x6_3).f3), .int .i64 ((rd_Item l0_2 x6_3).f4)] 69 (0, 0))) := ⟨by rw [qe_]; exact bp_ BK1106.out⟩
              replace HB : Aside0 (Below w.heap.size w w56) := ⟨by rw [qe_]; exact hb_ HB.out⟩
              clear qe_
              replace HO_1105002 := Aside0.mk (Kd.R_drew HO_1105002.out)
              replace BK1096 := Aside0.mk (blk_drew BK1096.out)
              replace BK1097 := Aside0.mk (blk_drew BK1097.out)
              replace BK1104 := Aside0.mk (blk_drew BK1104.out)
              replace BK1106 := Aside0.mk (blk_drew BK1106.out)
              replace HB := Aside0.mk (below_drew1 HB.out)
              refine start_ (n := 21) (S := fun w' => w'.cell? ⟨gb1106, 0, none⟩ = some (.int .i64 ((rd_Item l0_2 x6_3).f0)) ∧ w'.cell? ⟨gb1106, 1, none⟩ = some (.string ((rd_Item l0_2 x6_3).f1)) ∧ w'.cell? ⟨gb1106, 2, none⟩ = some (.string ((rd_Item l0_2 x6_3).f2)) ∧ w'.cell? ⟨gb1106, 3, none⟩ = some (.int .i64 ((rd_Item l0_2 x6_3).f3)) ∧ w'.cell? ⟨gb1106, 4, none⟩ = some (.int .i64 ((rd_Item l0_2 x6_3).f4)) ∧ w'.cell? ⟨gb1096, 0, none⟩ = some (.int .i64 a0_0) ∧ w'.cell? ⟨gb1096, 1, none⟩ = some (.int .i64 a0_1) ∧ w'.cell? ⟨gb1096, 2, none⟩ = some (.slice (some ad1105) l0_2.length c0_2)) (ds := []) spec_RowPack.m0 (by kernel_rfl) rfl rfl ⟨bc_ BK1106 0, bc_ BK1106 1, bc_ BK1106 2, bc_ BK1106 3, bc_ BK1106 4, bc_ BK1096 0, bc_ BK1096 1, bc_ BK1096 2⟩ (fun hHeld => ?_); refine with_tabW spec_RowPack.tab8 spec_RowPack.bits8 (fun HT_ HW_ => ?_)
              generalize w56.drew = w57 at HO_1105002 BK1096 BK1097 BK1104 BK1106 HB hHeld ⊢
              refine pI_ 0 34 HT_ spec_RowPack.m1 rfl rfl ?_
              refine tk_ 1 35 HT_ HW_ spec_RowPack.m2 rfl rfl hHeld ?_
              refine pI_ 2 36 HT_ spec_RowPack.m3 rfl rfl ?_
              refine pI_ 3 37 HT_ spec_RowPack.m4 rfl rfl ?_
              refine pI_ 5 39 HT_ spec_RowPack.m21 rfl rfl ?_
              refine tk_ 4 38 HT_ HW_ spec_RowPack.m5 rfl rfl hHeld ?_
              refine on_ 6 40 HT_ spec_RowPack.m6 rfl rfl (fun K hK => ?_)
              refine goes_ Try.func108 (by kernel_rfl) rfl #[.agg #[.int .i64 a0_0, .int .i64 a0_1, .slice (some ad1105) l0_2.length c0_2], .int .i64 x6_3] (by rfl) rfl rfl sm_ ?_
              with_reducible refine (spec_l3Behind.calls kj24 a0_0 a0_1 _ _ l0_2 x6_3 false _ ?side1 ?side2 A50.out).mono ?_
              (case side1 => repeat (first | exact (Kd.C_below HR0_2.out HB.out) | (with_reducible refine Kd.C_alloc ?_ _) | (with_reducible refine Kd.C_drewN ?_ _) | (with_reducible refine Kd.C_drew ?_)))
              (case side2 => exact HC0_2.out)
              rintro e w58 ⟨rfl, hb⟩
              refine ⟨_, rfl, ?_⟩
              replace HO_1105002 := cr_ HO_1105002 hb
              replace BK1096 := cb_ BK1096 hb
              replace BK1097 := cb_ BK1097 hb
              replace BK1104 := cb_ BK1104 hb
              replace BK1106 := cb_ BK1106 hb
              replace HB := ch_ HB hb
              (try clear hb); (try clear hk)
              refine hK.out _ _ ⟨bc_ BK1106 0, bc_ BK1106 1, bc_ BK1106 2, bc_ BK1106 3, bc_ BK1106 4, bc_ BK1096 0, bc_ BK1096 1, bc_ BK1096 2⟩ (fun hHeld => ?_)
              clear hK K
              refine nm_ ?_
              refine pI_ 7 41 HT_ spec_RowPack.m7 rfl rfl ?_
              refine pI_ 8 42 HT_ spec_RowPack.m8 rfl rfl ?_
              refine pI_ 9 43 HT_ spec_RowPack.m9 rfl rfl ?_
              refine pU_ 10 44 HT_ spec_RowPack.m10 rfl rfl ?_
              refine pU_ 11 45 HT_ spec_RowPack.m11 rfl rfl ?_
              refine pU_ 12 46 HT_ spec_RowPack.m12 rfl rfl ?_
              refine pU_ 13 47 HT_ spec_RowPack.m13 rfl rfl ?_
              refine pU_ 14 48 HT_ spec_RowPack.m14 rfl rfl ?_
              refine pU_ 15 49 HT_ spec_RowPack.m15 rfl rfl ?_
              refine pU_ 16 50 HT_ spec_RowPack.m16 rfl rfl ?_
              refine pU_ 17 51 HT_ spec_RowPack.m17 rfl rfl ?_
              refine pU_ 18 52 HT_ spec_RowPack.m18 rfl rfl ?_
              refine pU_ 19 53 HT_ spec_RowPack.m19 rfl rfl ?_
              refine pI_ 20 54 HT_ spec_RowPack.m20 rfl rfl ?_
              refine done_ (done_of HT_.out (by kernel_rfl)) ?_
              try go_wp2
              go_meet
              case rel => exact ⟨_, (true), (qb1_), H', ⟨qb2_⟩, ⟨rq_ HO_1105002.out⟩, ⟨bq_ BK1096.out⟩, ⟨bq_ BK1097.out⟩, ⟨bq_ BK1104.out⟩, ⟨bq_ BK1106.out⟩, ⟨hb_ HB.out⟩⟩
           case rest =>
            clear HC38
            obtain ⟨kq, x54_37, rfl, HA, HJ37, HO_1105002, BK1096, BK1097, BK1104, BK1106, HB⟩ := hcut
            cases kq with
            | zero => exact absurd HA.out (by simp [spec_RowPack.j4])
            | succ kj37 =>
             have H := HA.out
             clear HA
             simp only [spec_RowPack.j4] at H
             by_cases c59 : x54_37 = true
             ·
              subst c59
              have H1 : (if x1105002_3.length < 2513169434916 then (spec_RowPack.l0 kj37 a1 (wrap64 (x6_3 + 1)) a0_0 a0_1 l0_2 a0_0 a0_1 (x1105002_3 ++ [(⟨((rd_Item l0_2 x6_3).f0), ((rd_Item l0_2 x6_3).f1), ((rd_Item l0_2 x6_3).f2), ((rd_Item l0_2 x6_3).f3), ((rd_Item l0_2 x6_3).f4)⟩ : S_Item)])) else (none)) = some (r1, r2, r3) := by rw [if_pos rfl] at H; exact H
              clear H
              have H := H1
              clear H1
              by_cases c60 : x1105002_3.length < 2513169434916
              ·
               rw [if_pos c60] at H
               have LMc60 := Aside0.mk c60
               clear c60
               obtain ⟨y1108, hy1108⟩ : ∃ y_ : List (S_Item), y_ = (x1105002_3 ++ [(⟨((rd_Item l0_2 x6_3).f0), ((rd_Item l0_2 x6_3).f1), ((rd_Item l0_2 x6_3).f2), ((rd_Item l0_2 x6_3).f3), ((rd_Item l0_2 x6_3).f4)⟩ : S_Item)]) := ⟨_, rfl⟩
               replace H : (spec_RowPack.l0 kj37 a1 (wrap64 (x6_3 + 1)) a0_0 a0_1 l0_2 a0_0 a0_1 y1108) = some (r1, r2, r3) := by first | (rw [hy1108]; with_reducible exact H) | (have H2_ := (Option.bind_some _ _).symm.trans H; rw [hy1108]; with_reducible exact H2_) | (have H2_ := (Option.bind_some _ _).symm.trans H; with_reducible exact H2_) | with_reducible exact H | (rw [hy1108]; exact H) | exact H
               have Ny1108 := Aside0.mk hy1108
               clear hy1108
               have H' := Aside0.mk H
               clear H
               have hnb61 := NB1104_1096.out
               have hnc61 := NB1096_1104.out
               have hnb62 := NB1104_1097.out
               have hnc62 := NB1097_1104.out
               have hnb63 := NB1104_1106.out
               have hnc63 := NB1106_1104.out
               have hcz64_0 : wc.cell? ⟨gb1104, 0, none⟩ = some (.int .i64 a0_0) := bc_ BK1104 0
               have hcz64_1 : wc.cell? ⟨gb1104, 1, none⟩ = some (.int .i64 a0_1) := bc_ BK1104 1
               have hcz64_2 : wc.cell? ⟨gb1104, 2, none⟩ = some (u1105002) := bc_ BK1104 2
               have hfz64_0 := blk_frozen BK1104.out 0
               have hfz64_1 := blk_frozen BK1104.out 1
               have hfz64_2 := blk_frozen BK1104.out 2
               have hnb65 := NB1106_1096.out
               have hnc65 := NB1096_1106.out
               have hnb66 := NB1106_1097.out
               have hnc66 := NB1097_1106.out
               have hcz67_0 : wc.cell? ⟨gb1106, 0, none⟩ = some (.int .i64 ((rd_Item l0_2 x6_3).f0)) := bc_ BK1106 0
               have hcz67_1 : wc.cell? ⟨gb1106, 1, none⟩ = some (.string ((rd_Item l0_2 x6_3).f1)) := bc_ BK1106 1
               have hcz67_2 : wc.cell? ⟨gb1106, 2, none⟩ = some (.string ((rd_Item l0_2 x6_3).f2)) := bc_ BK1106 2
               have hcz67_3 : wc.cell? ⟨gb1106, 3, none⟩ = some (.int .i64 ((rd_Item l0_2 x6_3).f3)) := bc_ BK1106 3
               have hcz67_4 : wc.cell? ⟨gb1106, 4, none⟩ = some (.int .i64 ((rd_Item l0_2 x6_3).f4)) := bc_ BK1106 4
               have hfz67_0 := blk_frozen BK1106.out 0
               have hfz67_1 := blk_frozen BK1106.out 1
               have hfz67_2 := blk_frozen BK1106.out 2
               have hfz67_3 := blk_frozen BK1106.out 3
               have hfz67_4 := blk_frozen BK1106.out 4
               go_wp2_with (first | ((with_reducible refine gate_builtin (b := .append) (xs := #[.tmp 56, .tmp 58]) rfl ?_); at_builtin; refine Kd.R_append k_Item (w0 := w) w.heap.size rfl (.tmp 56) (.tmp 58) 55 69 (.agg #[(.int .i64 0), (.string ⟨#[]⟩), (.string ⟨#[]⟩), (.int .i64 0), (.int .i64 0)]) 56 rfl Try.underlying55 info69 rfl (by decide) (by omega) u1105002 x1105002_3 (⟨((rd_Item l0_2 x6_3).f0), ((rd_Item l0_2 x6_3).f1), ((rd_Item l0_2 x6_3).f2), ((rd_Item l0_2 x6_3).f3), ((rd_Item l0_2 x6_3).f4)⟩ : S_Item) [.int .i64 ((rd_Item l0_2 x6_3).f0), .string ((rd_Item l0_2 x6_3).f1), .string ((rd_Item l0_2 x6_3).f2), .int .i64 ((rd_Item l0_2 x6_3).f3), .int .i64 ((rd_Item l0_2 x6_3).f4)] (fun k_ => k_ ≠ gb1106) (fun _ => False) rfl rfl ?aP (fun _ hk => hk.elim) ?aF ?aO ?aB ?aS ?aL ?_; (case aP => exact k_Item_mkM _ _ _ (⟨((rd_Item l0_2 x6_3).f0), ((rd_Item l0_2 x6_3).f1), ((rd_Item l0_2 x6_3).f2), ((rd_Item l0_2 x6_3).f3), ((rd_Item l0_2 x6_3).f4)⟩ : S_Item)); (case aB => exact (hb_ HB.out)); (case aF => exact (fun k_ hk => Kd.freshB (g := gb1106) (o := .cells #[.int .i64 ((rd_Item l0_2 x6_3).f0), .string ((rd_Item l0_2 x6_3).f1), .string ((rd_Item l0_2 x6_3).f2), .int .i64 ((rd_Item l0_2 x6_3).f3), .int .i64 ((rd_Item l0_2 x6_3).f4)] 69 (0, 0)) (bq_ BK1106.out) k_ hk)); (case aO => exact (rq_ HO_1105002.out)); (case aS => exact (below_size (hb_ HB.out))); (case aL => have := LMc60.out; omega); intro v1109 w68 ho hb hg hat; rw [← Ny1108.out] at ho; have HO1110 := Aside0.mk (ho); replace BK1096 := Aside0.mk (blk_grown (g := gb1096) (o := .cells #[.int .i64 a0_0, .int .i64 a0_1, .slice (some ad1105) l0_2.length c0_2] 57 (0, 0)) (bq_ BK1096.out) hg (Kd.R_ne HO_1105002.out BK1096.out (by decide))); replace BK1097 := Aside0.mk (blk_grown (g := gb1097) (o := .cells #[.int .i64 x1098000_10, .int .i64 x1098001_10, .slice none 0 0] 57 (0, 0)) (bq_ BK1097.out) hg (Kd.R_ne HO_1105002.out BK1097.out (by decide))); replace BK1104 := Aside0.mk (blk_grown (g := gb1104) (o := .cells #[.int .i64 a0_0, .int .i64 a0_1, u1105002] 57 (0, 0)) (bq_ BK1104.out) hg (Kd.R_ne HO_1105002.out BK1104.out (by decide))); replace BK1106 := Aside0.mk (blk_grown (g := gb1106) (o := .cells #[.int .i64 ((rd_Item l0_2 x6_3).f0), .string ((rd_Item l0_2 x6_3).f1), .string ((rd_Item l0_2 x6_3).f2), .int .i64 ((rd_Item l0_2 x6_3).f3), .int .i64 ((rd_Item l0_2 x6_3).f4)] 69 (0, 0)) (bq_ BK1106.out) hg (Kd.R_away HO_1105002.out (fun _ hk => hk))); replace HB := Aside0.mk (hb); clear HO_1105002; clear ho hb hg hat; obtain ⟨Ao69, co69, eo69⟩ := Kd.R_slice HO1110.out; subst eo69; have hcz70_0 : w68.cell? ⟨gb1104, 0, none⟩ = some (.int .i64 a0_0) := bc_ BK1104 0; have hcz70_1 : w68.cell? ⟨gb1104, 1, none⟩ = some (.int .i64 a0_1) := bc_ BK1104 1; have hcz70_2 : w68.cell? ⟨gb1104, 2, none⟩ = some (u1105002) := bc_ BK1104 2; have hfz70_0 := blk_frozen BK1104.out 0; have hfz70_1 := blk_frozen BK1104.out 1; have hfz70_2 := blk_frozen BK1104.out 2))
               go_roundg kj37
               case measure => have := HJ2.out; have := HJ10.out; have := HK3.out; have := HJ24.out; have := HJ37.out; omega
               case rel => exact ⟨(wrap64 (x6_3 + 1)), (y1108), (.slice Ao69 y1108.length co69), (qb1_), H', ⟨by have := HJ2.out; have := HJ10.out; have := HK3.out; have := HJ24.out; have := HJ37.out; omega⟩, ⟨by (with_reducible repeat (first | apply Kd.R_alloc | apply Kd.R_drewN | apply Kd.R_drew)); exact Kd.R_mono (Kd.R_far (p := ⟨gb1104, 2, none⟩) (Kd.R_types HO1110.out BK1104.out (by decide)) (fun _ hk => hk.2) (.slice Ao69 y1108.length co69)) (fun _ hk => trivial)⟩, ⟨bf_ NB1096_1104.out BK1096.out⟩, ⟨bf_ NB1097_1104.out BK1097.out⟩, ⟨bp_ BK1104.out⟩, ⟨hb_ HB.out⟩⟩
              ·
               rw [if_neg c60] at H
               exact absurd H (by simp)
             ·
              replace c59 := Bool.eq_false_iff.mpr c59
              subst c59
              have H1 : (spec_RowPack.l0 kj37 a1 (wrap64 (x6_3 + 1)) a0_0 a0_1 l0_2 a0_0 a0_1 x1105002_3) = some (r1, r2, r3) := by rw [if_neg (show ¬ (false = true) by decide)] at H; exact H
              clear H
              have H := H1
              clear H1
              have H' := Aside0.mk H
              clear H
              go_wp2
              go_roundg kj37
              case measure => have := HJ2.out; have := HJ10.out; have := HK3.out; have := HJ24.out; have := HJ37.out; omega
              case rel => exact ⟨(wrap64 (x6_3 + 1)), (x1105002_3), (u1105002), (qb1_), H', ⟨by have := HJ2.out; have := HJ10.out; have := HK3.out; have := HJ24.out; have := HJ37.out; omega⟩, ⟨by (with_reducible repeat (first | apply Kd.R_alloc | apply Kd.R_drewN | apply Kd.R_drew)); exact Kd.R_mono HO_1105002.out (fun _ hk => trivial)⟩, ⟨bq_ BK1096.out⟩, ⟨bq_ BK1097.out⟩, ⟨bq_ BK1104.out⟩, ⟨hb_ HB.out⟩⟩
          ·
           rw [if_neg c37] at H
           exact absurd H (by simp)
         ·
          rw [if_neg c36] at H
          exact absurd H (by simp)
end Go.Proofs.Ytiknkolclcdajaa.Q
