/- Made by a program of ours out of the print of the loaded functions: for each of some functions a plain function, and the walk that shows that a call comes to what it says. No condition but those of each theorem. -/
import Derived.Test.YthkepjgolaichaaZFnPacked0
import Derived.Test.YthkepjgolaichaaZFnPackeda
import Derived.Test.YthkepjgolaichaaZFnPackedc
namespace Go.Proofs.Ythkepjgolaichaa.Q
open Go.RowKit Go.Proofs.YthkepjgolaichaaW.PrintWords Go.Proofs.YthkepjgolaichaaW.PrintLast Go.Proofs.YthkepjgolaichaaW.PrintMore
attribute [local go_sem] max2_int min2_int max_two min_two max_three min_three max_four min_four   -- for this text's walks alone
set_option linter.unusedVariables false
set_option linter.unusedSimpArgs false
theorem qd0_ {P : Prop} (h : P := by repeat (first | (with_reducible first | exact HB.out | apply below_alloc | apply pw_below_drewN | apply below_drew1 | refine below_set ?_ GE542.out | refine below_set ?_ GE543.out | refine below_set ?_ GE549.out) | exact HB.out)) : P := h
theorem qd1_ {P : Prop} (h : P := by (with_reducible repeat (first | apply Kd.R_alloc | apply Kd.R_drewN | apply Kd.R_drew)); exact Kd.R_mono (Kd.R_far (p := ⟨gb537, 4, none⟩) (Kd.R_far (p := ⟨gb537, 3, none⟩) (Kd.R_far (p := ⟨gb537, 2, none⟩) (Kd.R_far (p := ⟨gb537, 1, none⟩) (Kd.R_far (p := ⟨gb537, 0, none⟩) (Kd.R_mono HO_536002.out (fun k_ hk => (⟨hk, hk.2⟩ : _ ∧ k_ ≠ gb537))) (fun _ hk => hk.2) (.int .i64 ((rd_Item l0_2 x6_3).f0))) (fun _ hk => hk.2) (.string ((rd_Item l0_2 x6_3).f1))) (fun _ hk => hk.2) (.string ((rd_Item l0_2 x6_3).f2))) (fun _ hk => hk.2) (.int .i64 ((rd_Item l0_2 x6_3).f3))) (fun _ hk => hk.2) (.int .i64 ((rd_Item l0_2 x6_3).f4))) (fun _ hk => hk.1.2)) : P := h
theorem qd2_ {P : Prop} (h : P := by repeat (first | (with_reducible first | exact HB.out | apply below_alloc | apply pw_below_drewN | apply below_drew1 | refine below_set ?_ GE542.out | refine below_set ?_ GE543.out) | exact HB.out)) : P := h
theorem qd3_ {P : Prop} (h : P := by repeat (first | (with_reducible first | exact HB.out | apply below_alloc | apply pw_below_drewN | apply below_drew1) | exact HB.out)) : P := h
theorem qd4_ {P : Prop} (h : P := by first | rfl | (simp; done) | (simp [*]; done)) : P := h
theorem qd5_ {P : Prop} (h : P := by (try simp only [List.map_toArray, List.map_cons, List.map_nil]); first | done | rfl | (simp only [List.length_drop, List.length_take]; rfl)) : P := h
theorem qd6_ {P : Prop} (h : P := by repeat (first | (with_reducible first | exact HB.out | apply below_alloc | apply pw_below_drewN | apply below_drew1 | refine below_set ?_ GE524.out) | exact HB.out)) : P := h
theorem qd7_ {P : Prop} (h : P := by (with_reducible repeat (first | apply Kd.R_alloc | apply Kd.R_drewN | apply Kd.R_drew)); exact Kd.R_mono (Kd.R_far (p := ⟨gb500, 2, none⟩) (Kd.R_far (p := ⟨gb500, 1, none⟩) (Kd.R_far (p := ⟨gb500, 0, none⟩) (Kd.R_types HO499.out BK500.out (by decide)) (fun _ hk => hk.2) (.int .i64 t495)) (fun _ hk => hk.2) (.int .i64 t496)) (fun _ hk => hk.2) (.slice Ao15 t497.length co15)) (fun _ hk => trivial)) : P := h
theorem qd8_ {P : Prop} (h : P := by first | rfl | (simp [errW_none, errW_some] <;> rfl) | (simp [*, errW_none, errW_some] <;> rfl)) : P := h
theorem qd9_ {P : Prop} (h : P := by (with_reducible repeat (first | apply Kd.R_alloc | apply Kd.R_drewN | apply Kd.R_drew)); exact (Kd.R_mono (Kd.R_far (p := ⟨gb549, 1, none⟩) (Kd.R_far (p := ⟨gb549, 2, none⟩) (Kd.R_types HO553.out BK549.out (by decide)) (fun _ hk => hk.2) (.slice Ao51 y551.length co51)) (fun _ hk => hk.2) (.int .i64 (wrap64 (a0_1 + 1)))) (fun _ h_ => h_.1))) : P := h
theorem qd10_ {P : Prop} (h : P := by (with_reducible repeat (first | apply Kd.R_alloc | apply Kd.R_drewN | apply Kd.R_drew)); exact (Kd.R_mono (Kd.R_far (p := ⟨gb549, 1, none⟩) (Kd.R_far (p := ⟨gb549, 2, none⟩) (Kd.R_types HO553.out BK549.out (by decide)) (fun _ hk => hk.2) (.slice Ao36 y551.length co36)) (fun _ hk => hk.2) (.int .i64 (wrap64 (a0_1 + 1)))) (fun _ h_ => h_.1))) : P := h
theorem qd11_ {P : Prop} (h : P := by repeat (first | (with_reducible first | exact HB.out | apply below_alloc | apply pw_below_drewN | apply below_drew1 | refine below_set ?_ GE542.out) | exact HB.out)) : P := h
theorem qd12_ {P : Prop} (h : P := by have := HJ2.out; have := HJ10.out; have := HK3.out; have := HJ24.out; first | omega | exact Nat.le_refl _) : P := h
theorem qd13_ {P : Prop} (h : P := by first | omega | exact Nat.le_refl _) : P := h
theorem qd14_ {P : Prop} (h : P := by have := HJ4.out; have := HK2.out; have := HK3.out; omega) : P := h

/-! ### spec_RowTrim: function 34 -/
mutual
def spec_RowTrim.j0 : Nat → Int → Int → Bool → Int → Int → List (S_Item) → Int → Int → List (S_Item) → Option (Int × Int × (List (S_Item)))
 | 0, _, _, _, _, _, _, _, _, _ => none
 | k + 1, x1, x2, x22, x494000, x494001, x494002, x501000, x501001, x501002 => if x22 = true then (some (x501000, x501001, x501002)) else (spec_RowTrim.l0 k x1 x2 x494000 x494001 x494002 x501000 x501001 x501002)
def spec_RowTrim.l0 : Nat → Int → Int → Int → Int → List (S_Item) → Int → Int → List (S_Item) → Option (Int × Int × (List (S_Item)))
 | 0, _, _, _, _, _, _, _, _ => none
 | k + 1, x1, x2, x494000, x494001, x494002, x501000, x501001, x501002 => if (x501002.length : Int) > x2 then (if 0 < (x501002.length : Int) then (if x1 = 0 then (none) else (if (wrap64 (Int.tdiv ((rd_Item x501002 0).f0) x1)) = (wrap64 (Int.tdiv (wrap64 (x494001 - 1)) x1)) then (some (x501000, x501001, x501002)) else (spec_RowTrim.l1 k x1 x2 (wrap64 (Int.tdiv ((rd_Item x501002 0).f0) x1)) 0 x494000 x494001 x494002 x501000 x501001 x501002))) else (none)) else (some (x501000, x501001, x501002))
def spec_RowTrim.l1 : Nat → Int → Int → Int → Int → Int → Int → List (S_Item) → Int → Int → List (S_Item) → Option (Int × Int × (List (S_Item)))
 | 0, _, _, _, _, _, _, _, _, _, _ => none
 | k + 1, x1, x2, x8, x9, x494000, x494001, x494002, x501000, x501001, x501002 => if x9 < (x501002.length : Int) then (if 0 ≤ x9 then (if x1 = 0 then (none) else (if (wrap64 (Int.tdiv ((rd_Item x501002 x9).f0) x1)) = x8 then (spec_RowTrim.l1 k x1 x2 x8 (wrap64 (x9 + 1)) x494000 x494001 x494002 x501000 x501001 x501002) else ((some (([] : List (S_Item)) : List (S_Item))).bind fun y504 => (if x9 ≤ (x501002.length : Int) then ((some (x501002.drop (x9 : Int).toNat : List (S_Item))).bind fun y507 => (if y504.length + y507.length < 2513169434916 then (spec_RowTrim.l0 k x1 x2 x494000 x494001 x494002 (wrap64 ((wrap64 (x8 + 1)) * x1)) x501001 (y504 ++ y507)) else (none))) else (none))))) else (none)) else ((some (([] : List (S_Item)) : List (S_Item))).bind fun y514 => (if 0 ≤ x9 then (if x9 ≤ (x501002.length : Int) then ((some (x501002.drop (x9 : Int).toNat : List (S_Item))).bind fun y517 => (if y514.length + y517.length < 2513169434916 then (spec_RowTrim.l0 k x1 x2 x494000 x494001 x494002 (wrap64 ((wrap64 (x8 + 1)) * x1)) x501001 (y514 ++ y517)) else (none))) else (none)) else (none)))
end
def spec_RowTrim.f (k : Nat) (a0_0 : Int) (a0_1 : Int) (l0_2 : List (S_Item)) (a1 : Int) (a2 : Int) : Option (Int × Int × (List (S_Item))) := (spec_l3Copy.f a0_0 a0_1 l0_2).bind fun bt495 => (if a1 < 1 then (spec_RowTrim.j0 k a1 a2 true a0_0 a0_1 l0_2 bt495.1 bt495.2.1 bt495.2.2) else (if a2 < 0 then (spec_RowTrim.j0 k a1 a2 true a0_0 a0_1 l0_2 bt495.1 bt495.2.1 bt495.2.2) else ((spec_RowOk.f k a0_0 a0_1 l0_2).bind fun t501 => (spec_RowTrim.j0 k a1 a2 (!t501) a0_0 a0_1 l0_2 bt495.1 bt495.2.1 bt495.2.2))))
theorem spec_RowTrim.mono_l : ∀ k, (∀ y0 y1 y2 y3 y4 y5 y6 y7 y8, LeO (spec_RowTrim.j0 k y0 y1 y2 y3 y4 y5 y6 y7 y8) (spec_RowTrim.j0 (k + 1) y0 y1 y2 y3 y4 y5 y6 y7 y8)) ∧ (∀ y0 y1 y2 y3 y4 y5 y6 y7, LeO (spec_RowTrim.l0 k y0 y1 y2 y3 y4 y5 y6 y7) (spec_RowTrim.l0 (k + 1) y0 y1 y2 y3 y4 y5 y6 y7)) ∧ (∀ y0 y1 y2 y3 y4 y5 y6 y7 y8 y9, LeO (spec_RowTrim.l1 k y0 y1 y2 y3 y4 y5 y6 y7 y8 y9) (spec_RowTrim.l1 (k + 1) y0 y1 y2 y3 y4 y5 y6 y7 y8 y9))
 | 0 => ⟨fun _ _ _ _ _ _ _ _ _ r h => by simp [spec_RowTrim.j0] at h, fun _ _ _ _ _ _ _ _ r h => by simp [spec_RowTrim.l0] at h, fun _ _ _ _ _ _ _ _ _ _ r h => by simp [spec_RowTrim.l1] at h⟩
 | k + 1 => by
  obtain ⟨ih0, ih1, ih2⟩ := spec_RowTrim.mono_l k
  refine ⟨?_, ?_, ?_⟩
  ·
   intro y0 y1 y2 y3 y4 y5 y6 y7 y8
   unfold spec_RowTrim.j0
   repeat' first
   | (with_reducible exact ih0 _ _ _ _ _ _ _ _ _)
   | (with_reducible exact ih1 _ _ _ _ _ _ _ _)
   | (with_reducible exact ih2 _ _ _ _ _ _ _ _ _ _)
   | (with_reducible exact spec_RowOk.mono _ _ _ _)
   | (with_reducible exact LeO.refl _)
   | (with_reducible exact LeO.none _)
   | (with_reducible refine LeO.ite ?_ ?_)
   | (with_reducible refine LeO.bind ?_ (fun _ => ?_))
   | exact ih0 _ _ _ _ _ _ _ _ _
   | exact ih1 _ _ _ _ _ _ _ _
   | exact ih2 _ _ _ _ _ _ _ _ _ _
   | exact spec_RowOk.mono _ _ _ _
   | exact LeO.none _
   | refine LeO.ite ?_ ?_
   | refine LeO.bind ?_ (fun _ => ?_)
  ·
   intro y0 y1 y2 y3 y4 y5 y6 y7
   unfold spec_RowTrim.l0
   repeat' first
   | (with_reducible exact ih0 _ _ _ _ _ _ _ _ _)
   | (with_reducible exact ih1 _ _ _ _ _ _ _ _)
   | (with_reducible exact ih2 _ _ _ _ _ _ _ _ _ _)
   | (with_reducible exact spec_RowOk.mono _ _ _ _)
   | (with_reducible exact LeO.refl _)
   | (with_reducible exact LeO.none _)
   | (with_reducible refine LeO.ite ?_ ?_)
   | (with_reducible refine LeO.bind ?_ (fun _ => ?_))
   | exact ih0 _ _ _ _ _ _ _ _ _
   | exact ih1 _ _ _ _ _ _ _ _
   | exact ih2 _ _ _ _ _ _ _ _ _ _
   | exact spec_RowOk.mono _ _ _ _
   | exact LeO.none _
   | refine LeO.ite ?_ ?_
   | refine LeO.bind ?_ (fun _ => ?_)
  ·
   intro y0 y1 y2 y3 y4 y5 y6 y7 y8 y9
   unfold spec_RowTrim.l1
   repeat' first
   | (with_reducible exact ih0 _ _ _ _ _ _ _ _ _)
   | (with_reducible exact ih1 _ _ _ _ _ _ _ _)
   | (with_reducible exact ih2 _ _ _ _ _ _ _ _ _ _)
   | (with_reducible exact spec_RowOk.mono _ _ _ _)
   | (with_reducible exact LeO.refl _)
   | (with_reducible exact LeO.none _)
   | (with_reducible refine LeO.ite ?_ ?_)
   | (with_reducible refine LeO.bind ?_ (fun _ => ?_))
   | exact ih0 _ _ _ _ _ _ _ _ _
   | exact ih1 _ _ _ _ _ _ _ _
   | exact ih2 _ _ _ _ _ _ _ _ _ _
   | exact spec_RowOk.mono _ _ _ _
   | exact LeO.none _
   | refine LeO.ite ?_ ?_
   | refine LeO.bind ?_ (fun _ => ?_)
theorem spec_RowTrim.mono : ∀ a0 a1 a2 a3 a4 k, LeO (spec_RowTrim.f k a0 a1 a2 a3 a4) (spec_RowTrim.f (k + 1) a0 a1 a2 a3 a4) := by
 intro a0 a1 a2 a3 a4 k
 obtain ⟨ih0, ih1, ih2⟩ := spec_RowTrim.mono_l k
 unfold spec_RowTrim.f
 repeat' first
  | (with_reducible exact ih0 _ _ _ _ _ _ _ _ _)
  | (with_reducible exact ih1 _ _ _ _ _ _ _ _)
  | (with_reducible exact ih2 _ _ _ _ _ _ _ _ _ _)
  | (with_reducible exact spec_RowOk.mono _ _ _ _)
  | (with_reducible exact LeO.refl _)
  | (with_reducible exact LeO.none _)
  | (with_reducible refine LeO.ite ?_ ?_)
  | (with_reducible refine LeO.bind ?_ (fun _ => ?_))
  | exact ih0 _ _ _ _ _ _ _ _ _
  | exact ih1 _ _ _ _ _ _ _ _
  | exact ih2 _ _ _ _ _ _ _ _ _ _
  | exact spec_RowOk.mono _ _ _ _
  | exact LeO.none _
  | refine LeO.ite ?_ ?_
  | refine LeO.bind ?_ (fun _ => ?_)
set_option maxHeartbeats 8000000 in
set_option maxRecDepth 100000 in
theorem spec_RowTrim.calls (k : Nat) (a0_0 : Int) (a0_1 : Int) (A0_2 : Option Addr) (c0_2 : Nat) (l0_2 : List (S_Item)) (a1 : Int) (a2 : Int) (r1 : Int) (r2 : Int) (r3 : List (S_Item)) (w : World) (hr0_2 : Kd.C k_Item w A0_2 l0_2.length l0_2) (hc0_2 : l0_2.length ≤ c0_2) (h : spec_RowTrim.f k a0_0 a0_1 l0_2 a1 a2 = some (r1, r2, r3)) :
 Calls Try.prog 34 #[.agg #[.int .i64 a0_0, .int .i64 a0_1, .slice A0_2 l0_2.length c0_2], .int .i64 a1, .int .i64 a2] w fun e w' => ∃ v2_ : Value, e = .returned (.agg #[.int .i64 r1, .int .i64 r2, v2_]) ∧ Kd.R k_Item 55 w' w.heap.size (fun _ => True) v2_ r3 ∧ Below w.heap.size w w' := by
 have hu48 := Try.underlying48
 have HR0_2 := Aside0.mk hr0_2
 have HC0_2 := Aside0.mk hc0_2
 clear hr0_2 hc0_2
 have HB := Aside0.mk (Below.refl w.heap.size w)
 have H : ((spec_l3Copy.f a0_0 a0_1 l0_2).bind fun bt495 => (if a1 < 1 then (spec_RowTrim.j0 k a1 a2 true a0_0 a0_1 l0_2 bt495.1 bt495.2.1 bt495.2.2) else (if a2 < 0 then (spec_RowTrim.j0 k a1 a2 true a0_0 a0_1 l0_2 bt495.1 bt495.2.1 bt495.2.2) else ((spec_RowOk.f k a0_0 a0_1 l0_2).bind fun t501 => (spec_RowTrim.j0 k a1 a2 (!t501) a0_0 a0_1 l0_2 bt495.1 bt495.2.1 bt495.2.2))))) = some (r1, r2, r3) := h
 clear h
 replace H := Option.bind_eq_some_iff.mp H
 obtain ⟨⟨t495, t496, t497⟩, A40, H⟩ := H
 replace H : (if a1 < 1 then (spec_RowTrim.j0 k a1 a2 true a0_0 a0_1 l0_2 t495 t496 t497) else (if a2 < 0 then (spec_RowTrim.j0 k a1 a2 true a0_0 a0_1 l0_2 t495 t496 t497) else ((spec_RowOk.f k a0_0 a0_1 l0_2).bind fun t501 => (spec_RowTrim.j0 k a1 a2 (!t501) a0_0 a0_1 l0_2 t495 t496 t497)))) = some (r1, r2, r3) := H
 have A4 := Aside0.mk A40
 clear A40
 have HC5 := Aside0.mk H
 clear H
 go_enter Try.func34, Try.ntmps34
 go_upto_region 2 with (first | ((with_reducible refine gate_dst (N := 3) rfl ?_); refine box_event ?hg (N := 3) ?hd (cs := #[.int .i64 a0_0, .int .i64 a0_1, .slice A0_2 l0_2.length c0_2]) (t := 48) ?hr ?_; (case hd => rfl); (case hg => rfl); (case hr => first | (go_simp; done) | (go_simp; rfl)); intro gb493 hg w6 hbox hb; have n0_ := Aside0.mk (below_step (hb_ HB.out) hb); have n1_ := Aside0.mk (hbox); have n2_ := Aside0.mk ((by rw [hg]; exact (below_size (hb_ HB.out)) : w.heap.size ≤ gb493)); have n3_ := Aside0.mk ((by rw [hg]; exact (below_size (hb_ HB.out)) : w.heap.size ≤ gb493)); clear HB; have HB := n0_; have BK493 := n1_; have GW493 := n2_; have GE493 := n3_; clear n0_ n1_ n2_ n3_; clear hb hbox hg) | ((with_reducible refine gate_dst (N := 6) rfl ?_); refine box_event ?hg (N := 6) ?hd (cs := #[.int .i64 0, .int .i64 0, .slice none 0 0]) (t := 48) ?hr ?_; (case hd => rfl); (case hg => rfl); (case hr => first | (go_simp; done) | (go_simp; rfl)); intro gb494 hg w7 hbox hb; have n0_ := Aside0.mk (bb_ BK493.out hb); have n1_ := Aside0.mk (below_step (hb_ HB.out) hb); have n2_ := Aside0.mk (hbox); have n3_ := Aside0.mk ((by rw [hg]; exact (below_size (hb_ HB.out)) : w.heap.size ≤ gb494)); have n4_ := Aside0.mk ((by rw [hg]; exact (below_size (hb_ HB.out)) : w.heap.size ≤ gb494)); have n5_ := Aside0.mk ((nl_ BK493.out hg : gb493 ≠ gb494)); have n6_ := Aside0.mk ((ng_ BK493.out hg : gb494 ≠ gb493)); clear BK493; clear HB; have BK493 := n0_; have HB := n1_; have BK494 := n2_; have GW494 := n3_; have GE494 := n4_; have NB493_494 := n5_; have NB494_493 := n6_; clear n0_ n1_ n2_ n3_ n4_ n5_ n6_; clear hb hbox hg; have hnb8 := NB493_494.out; have hnc8 := NB494_493.out; have hcz9_0 : w7.cell? ⟨gb493, 0, none⟩ = some (.int .i64 a0_0) := bc_ BK493 0; have hcz9_1 : w7.cell? ⟨gb493, 1, none⟩ = some (.int .i64 a0_1) := bc_ BK493 1; have hcz9_2 : w7.cell? ⟨gb493, 2, none⟩ = some (.slice A0_2 l0_2.length c0_2) := bc_ BK493 2; have hfz9_0 := blk_frozen BK493.out 0; have hfz9_1 := blk_frozen BK493.out 1; have hfz9_2 := blk_frozen BK493.out 2) | ((with_reducible refine gate_callee (f := 68) rfl ?_); refine goesL_ (some 11) rfl rfl Try.func68 (by kernel_rfl) rfl #[.agg #[.int .i64 a0_0, .int .i64 a0_1, .slice A0_2 l0_2.length c0_2]] rfl sm_ ?_; (with_reducible refine (spec_l3Copy.calls a0_0 a0_1 _ _ l0_2 t495 t496 t497 _ ?side1 ?side2 A4.out).mono ?_); (case side1 => repeat (first | exact (Kd.C_below HR0_2.out HB.out) | (with_reducible refine Kd.C_alloc ?_ _) | (with_reducible refine Kd.C_drewN ?_ _) | (with_reducible refine Kd.C_drew ?_))); (case side2 => exact HC0_2.out); rintro e w10 ⟨v498, rfl, ho0, hb⟩; refine ⟨_, rfl, ?_⟩; have n0_ := Aside0.mk (Kd.R_lower ho0 (below_size (hb_ HB.out))); have n1_ := Aside0.mk (bb_ BK493.out hb); have n2_ := Aside0.mk (bb_ BK494.out hb); have n3_ := Aside0.mk (below_step (hb_ HB.out) hb); clear BK493; clear BK494; clear HB; have HO499 := n0_; have BK493 := n1_; have BK494 := n2_; have HB := n3_; clear n0_ n1_ n2_ n3_; (try clear hb); (try clear hb2); (try clear hk); (try clear hi); (try clear ho0)) | ((with_reducible refine gate_dst (N := 7) rfl ?_); refine box_event ?hg (N := 7) ?hd (cs := #[.int .i64 0, .int .i64 0, .slice none 0 0]) (t := 48) ?hr ?_; (case hd => rfl); (case hg => rfl); (case hr => first | (go_simp; done) | (go_simp; rfl)); intro gb500 hg w11 hbox hb; have n0_ := Aside0.mk (Kd.R_below (rq_ HO499.out) hb); have n1_ := Aside0.mk (bb_ BK493.out hb); have n2_ := Aside0.mk (bb_ BK494.out hb); have n3_ := Aside0.mk (below_step (hb_ HB.out) hb); have n4_ := Aside0.mk (hbox); have n5_ := Aside0.mk ((by rw [hg]; exact (below_size (hb_ HB.out)) : w.heap.size ≤ gb500)); have n6_ := Aside0.mk ((by rw [hg]; exact (below_size (hb_ HB.out)) : w.heap.size ≤ gb500)); have n7_ := Aside0.mk ((nl_ BK493.out hg : gb493 ≠ gb500)); have n8_ := Aside0.mk ((ng_ BK493.out hg : gb500 ≠ gb493)); have n9_ := Aside0.mk ((nl_ BK494.out hg : gb494 ≠ gb500)); have n10_ := Aside0.mk ((ng_ BK494.out hg : gb500 ≠ gb494)); clear HO499; clear BK493; clear BK494; clear HB; have HO499 := n0_; have BK493 := n1_; have BK494 := n2_; have HB := n3_; have BK500 := n4_; have GW500 := n5_; have GE500 := n6_; have NB493_500 := n7_; have NB500_493 := n8_; have NB494_500 := n9_; have NB500_494 := n10_; clear n0_ n1_ n2_ n3_ n4_ n5_ n6_ n7_ n8_ n9_ n10_; clear hb hbox hg; have hnb12 := NB500_493.out; have hnc12 := NB493_500.out; have hnb13 := NB500_494.out; have hnc13 := NB494_500.out; have hcz14_0 : w11.cell? ⟨gb500, 0, none⟩ = some (.int .i64 0) := bc_ BK500 0; have hcz14_1 : w11.cell? ⟨gb500, 1, none⟩ = some (.int .i64 0) := bc_ BK500 1; have hcz14_2 : w11.cell? ⟨gb500, 2, none⟩ = some (.slice none 0 0) := bc_ BK500 2; have hfz14_0 := blk_frozen BK500.out 0; have hfz14_1 := blk_frozen BK500.out 1; have hfz14_2 := blk_frozen BK500.out 2; obtain ⟨Ao15, co15, eo15⟩ := Kd.R_slice HO499.out; subst eo15))
 (try simp only [Act.put, List.setIfInBounds_toArray, List.set_cons_zero, List.set_cons_succ])
 go_cut [22] (fun v22 wc => ∃ (kq : Nat) (x22_4 : Bool), v22 = .bool x22_4 ∧ Aside0 (spec_RowTrim.j0 kq a1 a2 x22_4 a0_0 a0_1 l0_2 t495 t496 t497 = some (r1, r2, r3)) ∧ Aside0 (kq ≤ k) ∧ Aside0 (Kd.R k_Item 55 wc w.heap.size (fun _ => True) (.slice Ao15 t497.length co15) t497) ∧ Aside0 (wc.heap[gb493]? = some (.cells #[.int .i64 a0_0, .int .i64 a0_1, (.slice A0_2 l0_2.length c0_2)] 48 (0, 0))) ∧ Aside0 (wc.heap[gb494]? = some (.cells #[.int .i64 0, .int .i64 0, (.slice none 0 0)] 48 (0, 0))) ∧ Aside0 (wc.heap[gb500]? = some (.cells #[.int .i64 t495, .int .i64 t496, (.slice Ao15 t497.length co15)] 48 (0, 0))) ∧ Aside0 (Below w.heap.size w wc))
 case first =>
  have H := HC5.out
  clear HC5
  by_cases c16 : a1 < 1
  ·
   rw [if_pos c16] at H
   have c16b0 : decide (a1 < 1) = true := decide_eq_true c16
   clear c16
   (first | rw [c16b0] | (simp only [i64_w, i32_w]; rw [c16b0]) | rw [c16b4] | rw [c16b3] | skip)
   have H' := Aside0.mk H
   clear H
   go_wp2
   go_meet
   case rel => exact ⟨_, (true), (qd4_), H', ⟨qd13_⟩, ⟨qd7_⟩, ⟨bf_ NB493_500.out BK493.out⟩, ⟨bf_ NB494_500.out BK494.out⟩, ⟨bp_ BK500.out⟩, ⟨hb_ HB.out⟩⟩
  ·
   rw [if_neg c16] at H
   have c16b0 : decide (a1 < 1) = false := decide_eq_false c16
   clear c16
   (first | rw [c16b0] | (simp only [i64_w, i32_w]; rw [c16b0]) | rw [c16b4] | rw [c16b3] | skip)
   by_cases c17 : a2 < 0
   ·
    rw [if_pos c17] at H
    have c17b0 : decide (a2 < 0) = true := decide_eq_true c17
    clear c17
    have H' := Aside0.mk H
    clear H
    go_wp2
    go_meet
    case rel => exact ⟨_, (true), (qd4_), H', ⟨qd13_⟩, ⟨qd7_⟩, ⟨bf_ NB493_500.out BK493.out⟩, ⟨bf_ NB494_500.out BK494.out⟩, ⟨bp_ BK500.out⟩, ⟨hb_ HB.out⟩⟩
   ·
    rw [if_neg c17] at H
    have c17b0 : decide (a2 < 0) = false := decide_eq_false c17
    clear c17
    replace H := Option.bind_eq_some_iff.mp H
    obtain ⟨t501, A180, H⟩ := H
    replace H : (spec_RowTrim.j0 k a1 a2 (!t501) a0_0 a0_1 l0_2 t495 t496 t497) = some (r1, r2, r3) := H
    have A18 := Aside0.mk A180
    clear A180
    have H' := Aside0.mk H
    clear H
    have hnb19 := NB493_494.out
    have hnc19 := NB494_493.out
    have hnb20 := NB493_500.out
    have hnc20 := NB500_493.out
    have hcz21_0 : w11.cell? ⟨gb493, 0, none⟩ = some (.int .i64 a0_0) := bc_ BK493 0
    have hcz21_1 : w11.cell? ⟨gb493, 1, none⟩ = some (.int .i64 a0_1) := bc_ BK493 1
    have hcz21_2 : w11.cell? ⟨gb493, 2, none⟩ = some (.slice A0_2 l0_2.length c0_2) := bc_ BK493 2
    have hfz21_0 := blk_frozen BK493.out 0
    have hfz21_1 := blk_frozen BK493.out 1
    have hfz21_2 := blk_frozen BK493.out 2
    go_wp2_with (first | (go_at_call 69; (with_reducible refine (spec_RowOk.calls k a0_0 a0_1 _ _ l0_2 t501 _ ?side1 ?side2 A18.out).mono ?_); (case side1 => exact Kd.C_below HR0_2.out (hb_ HB.out)); (case side2 => exact HC0_2.out); rintro e w22 ⟨rfl, hb⟩; have n0_ := Aside0.mk (Kd.R_below (rk_ HO499.out BK500.out) hb); have n1_ := Aside0.mk (blk_below (g := gb493) (o := .cells #[.int .i64 a0_0, .int .i64 a0_1, .slice A0_2 l0_2.length c0_2] 48 (0, 0)) (bf_ NB493_500.out BK493.out) hb); have n2_ := Aside0.mk (blk_below (g := gb494) (o := .cells #[.int .i64 0, .int .i64 0, .slice none 0 0] 48 (0, 0)) (bf_ NB494_500.out BK494.out) hb); have n3_ := Aside0.mk (blk_below (g := gb500) (o := .cells #[.int .i64 t495, .int .i64 t496, .slice Ao15 t497.length co15] 48 (0, 0)) (bp_ BK500.out) hb); have n4_ := Aside0.mk (below_step (hb_ HB.out) hb); clear HO499; clear BK493; clear BK494; clear BK500; clear HB; have HO499 := n0_; have BK493 := n1_; have BK494 := n2_; have BK500 := n3_; have HB := n4_; clear n0_ n1_ n2_ n3_ n4_; (try clear hb); (try clear hb2); (try clear hk); (try clear hi)))
    go_meet
    case rel => exact ⟨_, (!t501), (qd4_), H', ⟨qd13_⟩, ⟨rq_ HO499.out⟩, ⟨bq_ BK493.out⟩, ⟨bq_ BK494.out⟩, ⟨bq_ BK500.out⟩, ⟨hb_ HB.out⟩⟩
 case rest =>
  clear HC5
  (try clear c1); (try clear c2); (try clear p2); (try clear c3); (try clear c6); (try clear c8); (try clear c12); (try clear c13); (try clear c16); (try clear c16b0); (try clear c17); (try clear c17b0); (try clear c19); (try clear c20); (try clear hcz14_0); (try clear hcz14_1); (try clear hcz14_2); (try clear hcz21_0); (try clear hcz21_1); (try clear hcz21_2); (try clear hcz9_0); (try clear hcz9_1); (try clear hcz9_2); (try clear hfz14_0); (try clear hfz14_1); (try clear hfz14_2); (try clear hfz21_0); (try clear hfz21_1); (try clear hfz21_2); (try clear hfz9_0); (try clear hfz9_1); (try clear hfz9_2)
  obtain ⟨kq, x22_4, rfl, HA, HJ4, HO_501002, BK493, BK494, BK500, HB⟩ := hcut
  cases kq with
  | zero => exact absurd HA.out (by simp [spec_RowTrim.j0])
  | succ kj4 =>
   have H := HA.out
   clear HA
   simp only [spec_RowTrim.j0] at H
   by_cases c23 : x22_4 = true
   ·
    subst c23
    have H1 : (some (t495, t496, t497)) = some (r1, r2, r3) := by rw [if_pos rfl] at H; exact H
    clear H
    have H := H1
    clear H1
    simp only [Option.some.injEq, Prod.mk.injEq] at H
    obtain ⟨rfl, rfl, rfl⟩ := H
    have hnb24 := NB500_493.out
    have hnc24 := NB493_500.out
    have hnb25 := NB500_494.out
    have hnc25 := NB494_500.out
    have hcz26_0 : wc.cell? ⟨gb500, 0, none⟩ = some (.int .i64 t495) := bc_ BK500 0
    have hcz26_1 : wc.cell? ⟨gb500, 1, none⟩ = some (.int .i64 t496) := bc_ BK500 1
    have hcz26_2 : wc.cell? ⟨gb500, 2, none⟩ = some (.slice Ao15 t497.length co15) := bc_ BK500 2
    have hfz26_0 := blk_frozen BK500.out 0
    have hfz26_1 := blk_frozen BK500.out 1
    have hfz26_2 := blk_frozen BK500.out 2
    have hnb27 := NB494_493.out
    have hnc27 := NB493_494.out
    have hcz28_0 : wc.cell? ⟨gb494, 0, none⟩ = some (.int .i64 0) := bc_ BK494 0
    have hcz28_1 : wc.cell? ⟨gb494, 1, none⟩ = some (.int .i64 0) := bc_ BK494 1
    have hcz28_2 : wc.cell? ⟨gb494, 2, none⟩ = some (.slice none 0 0) := bc_ BK494 2
    have hfz28_0 := blk_frozen BK494.out 0
    have hfz28_1 := blk_frozen BK494.out 1
    have hfz28_2 := blk_frozen BK494.out 2
    go_wp2
    refine bodyPost_ret (results_cell_row rfl _ _ gb494 48 #[.int .i64 t495, .int .i64 t496, .slice Ao15 t497.length co15] (0, 0) _ rfl (bp_ BK494.out) Try.underlying48 rfl (by kernel_rfl)) rfl ?_
    exact ⟨_, er_, by (with_reducible repeat (first | apply Kd.R_alloc | apply Kd.R_drewN | apply Kd.R_drew)); exact Kd.R_mono (Kd.R_far (p := ⟨gb494, 2, none⟩) (Kd.R_far (p := ⟨gb494, 1, none⟩) (Kd.R_far (p := ⟨gb494, 0, none⟩) (Kd.R_types HO_501002.out BK494.out (by decide)) (fun _ hk => hk.2) (.int .i64 t495)) (fun _ hk => hk.2) (.int .i64 t496)) (fun _ hk => hk.2) (.slice Ao15 t497.length co15)) (fun _ hk => trivial), hb_ HB.out⟩
   ·
    replace c23 := Bool.eq_false_iff.mpr c23
    subst c23
    have H1 : (spec_RowTrim.l0 kj4 a1 a2 a0_0 a0_1 l0_2 t495 t496 t497) = some (r1, r2, r3) := by rw [if_neg (show ¬ (false = true) by decide)] at H; exact H
    clear H
    have H := H1
    clear H1
    have H' := Aside0.mk H
    clear H
    go_wp2
    go_loopg [] kj4 (fun kq w' => ∃ (x495000_2 : Int) (x495001_2 : Int) (x501000_2 : Int) (x501002_2 : List (S_Item)) (u501002 : Value), Aside0 (spec_RowTrim.l0 kq a1 a2 a0_0 a0_1 l0_2 x501000_2 t496 x501002_2 = some (r1, r2, r3)) ∧ Aside0 (kq ≤ kj4) ∧ Aside0 (Kd.R k_Item 55 w' w.heap.size (fun _ => True) u501002 x501002_2) ∧ Aside0 (w'.heap[gb493]? = some (.cells #[.int .i64 a0_0, .int .i64 a0_1, (.slice A0_2 l0_2.length c0_2)] 48 (0, 0))) ∧ Aside0 (w'.heap[gb494]? = some (.cells #[.int .i64 x495000_2, .int .i64 x495001_2, (.slice none 0 0)] 48 (0, 0))) ∧ Aside0 (w'.heap[gb500]? = some (.cells #[.int .i64 x501000_2, .int .i64 t496, u501002] 48 (0, 0))) ∧ Aside0 (Below w.heap.size w w'))
    case atStart => exact ⟨(0), (0), (t495), (t497), (.slice Ao15 t497.length co15), H', ⟨Nat.le_refl _⟩, ⟨rq_ HO_501002.out⟩, ⟨bq_ BK493.out⟩, ⟨bq_ BK494.out⟩, ⟨bq_ BK500.out⟩, ⟨hb_ HB.out⟩⟩
    case round =>
     clear H'
     (try clear c1); (try clear c2); (try clear p2); (try clear c3); (try clear c6); (try clear c8); (try clear c12); (try clear c13); (try clear c16); (try clear c16b0); (try clear c17); (try clear c17b0); (try clear c19); (try clear c20); (try clear c23); (try clear c24); (try clear c25); (try clear c27); (try clear hcz14_0); (try clear hcz14_1); (try clear hcz14_2); (try clear hcz21_0); (try clear hcz21_1); (try clear hcz21_2); (try clear hcz26_0); (try clear hcz26_1); (try clear hcz26_2); (try clear hcz28_0); (try clear hcz28_1); (try clear hcz28_2); (try clear hcz9_0); (try clear hcz9_1); (try clear hcz9_2); (try clear hfz14_0); (try clear hfz14_1); (try clear hfz14_2); (try clear hfz21_0); (try clear hfz21_1); (try clear hfz21_2); (try clear hfz26_0); (try clear hfz26_1); (try clear hfz26_2); (try clear hfz28_0); (try clear hfz28_1); (try clear hfz28_2); (try clear hfz9_0); (try clear hfz9_1); (try clear hfz9_2); (try clear p2)
     obtain ⟨x495000_2, x495001_2, x501000_2, x501002_2, u501002, HA, HK2, HO_501002, BK493, BK494, BK500, HB⟩ := hrel
     cases gk with
     | zero => exact absurd HA.out (by simp [spec_RowTrim.l0])
     | succ k2 =>
      have H := HA.out
      clear HA
      simp only [spec_RowTrim.l0] at H
      by_cases c29 : (x501002_2.length : Int) > a2
      ·
       rw [if_pos c29] at H
       have c29b0 : decide (a2 < (x501002_2.length : Int)) = true := decide_eq_true c29
       clear c29
       by_cases c30 : 0 < (x501002_2.length : Int)
       ·
        rw [if_pos c30] at H
        have c30b0 : decide (0 < (x501002_2.length : Int)) = true := decide_eq_true c30
        have c30b1 : decide (0 < x501002_2.length) = true := decide_eq_true (by omega)
        clear c30
        by_cases c31 : a1 = 0
        ·
         rw [if_pos c31] at H
         exact absurd H (by simp)
        ·
         rw [if_neg c31] at H
         have c31b0 : (a1 == 0) = false := beq_eq_false_iff_ne.mpr c31
         have c31b1 : (a1 != 0) = true := bne_iff_ne.mpr c31
         by_cases c32 : (wrap64 (Int.tdiv ((rd_Item x501002_2 0).f0) a1)) = (wrap64 (Int.tdiv (wrap64 (a0_1 - 1)) a1))
         ·
          rw [if_pos c32] at H
          have c32b0 : ((wrap64 (Int.tdiv ((rd_Item x501002_2 0).f0) a1)) == (wrap64 (Int.tdiv (wrap64 (a0_1 - 1)) a1))) = true := beq_iff_eq.mpr c32
          have c32b1 : ((wrap64 (Int.tdiv ((rd_Item x501002_2 0).f0) a1)) != (wrap64 (Int.tdiv (wrap64 (a0_1 - 1)) a1))) = false := bne_eq_false_iff_eq.mpr c32
          clear c32
          simp only [Option.some.injEq, Prod.mk.injEq] at H
          obtain ⟨rfl, rfl, rfl⟩ := H
          have hnb33 := NB500_493.out
          have hnc33 := NB493_500.out
          have hnb34 := NB500_494.out
          have hnc34 := NB494_500.out
          have hcz35_0 : wr.cell? ⟨gb500, 0, none⟩ = some (.int .i64 x501000_2) := bc_ BK500 0
          have hcz35_1 : wr.cell? ⟨gb500, 1, none⟩ = some (.int .i64 t496) := bc_ BK500 1
          have hcz35_2 : wr.cell? ⟨gb500, 2, none⟩ = some (u501002) := bc_ BK500 2
          have hfz35_0 := blk_frozen BK500.out 0
          have hfz35_1 := blk_frozen BK500.out 1
          have hfz35_2 := blk_frozen BK500.out 2
          obtain ⟨Ao36, co36, eo36⟩ := Kd.R_slice HO_501002.out
          subst eo36
          have p502 : 0 ≤ (0 : Int) := (by omega)
          have q502 : 0 < (x501002_2.length : Int) := of_decide_eq_true dt_
          obtain ⟨ad502, e502, hx502_0, hx502_1, hx502_2, hx502_3, hx502_4⟩ := at_Item (Kd.R_reads' HO_501002.out).2.2 0 p502 q502
          cases e502
          have qi502 : (0 < x501002_2.length) = True := eq_true (by omega)
          (try rw [show ((0 : Int)).toNat = 0 from rfl] at hx502_0)
          (try rw [show 0 * 5 = 0 from rfl] at hx502_0)
          (try rw [Addr.add_zero'] at hx502_0)
          (try rw [show ((0 : Int)).toNat = 0 from rfl] at hx502_1)
          (try rw [show 0 * 5 = 0 from rfl] at hx502_1)
          (try rw [Addr.add_zero'] at hx502_1)
          (try rw [show ((0 : Int)).toNat = 0 from rfl] at hx502_2)
          (try rw [show 0 * 5 = 0 from rfl] at hx502_2)
          (try rw [Addr.add_zero'] at hx502_2)
          (try rw [show ((0 : Int)).toNat = 0 from rfl] at hx502_3)
          (try rw [show 0 * 5 = 0 from rfl] at hx502_3)
          (try rw [Addr.add_zero'] at hx502_3)
          (try rw [show ((0 : Int)).toNat = 0 from rfl] at hx502_4)
          (try rw [show 0 * 5 = 0 from rfl] at hx502_4)
          (try rw [Addr.add_zero'] at hx502_4)
          replace p502 := eq_true p502
          replace q502 := eq_true q502
          have hnb37 := NB493_494.out
          have hnc37 := NB494_493.out
          have hcz38_0 : wr.cell? ⟨gb493, 0, none⟩ = some (.int .i64 a0_0) := bc_ BK493 0
          have hcz38_1 : wr.cell? ⟨gb493, 1, none⟩ = some (.int .i64 a0_1) := bc_ BK493 1
          have hcz38_2 : wr.cell? ⟨gb493, 2, none⟩ = some (.slice A0_2 l0_2.length c0_2) := bc_ BK493 2
          have hfz38_0 := blk_frozen BK493.out 0
          have hfz38_1 := blk_frozen BK493.out 1
          have hfz38_2 := blk_frozen BK493.out 2
          have hcz39_0 : wr.cell? ⟨gb494, 0, none⟩ = some (.int .i64 x495000_2) := bc_ BK494 0
          have hcz39_1 : wr.cell? ⟨gb494, 1, none⟩ = some (.int .i64 x495001_2) := bc_ BK494 1
          have hcz39_2 : wr.cell? ⟨gb494, 2, none⟩ = some (.slice none 0 0) := bc_ BK494 2
          have hfz39_0 := blk_frozen BK494.out 0
          have hfz39_1 := blk_frozen BK494.out 1
          have hfz39_2 := blk_frozen BK494.out 2
          go_wp2
          refine bodyPost_ret (results_cell_row rfl _ _ gb494 48 #[.int .i64 x501000_2, .int .i64 t496, .slice (some ad502) x501002_2.length co36] (0, 0) _ rfl (bp_ BK494.out) Try.underlying48 rfl (by kernel_rfl)) rfl ?_
          exact ⟨_, er_, by (with_reducible repeat (first | apply Kd.R_alloc | apply Kd.R_drewN | apply Kd.R_drew)); exact Kd.R_mono (Kd.R_far (p := ⟨gb494, 2, none⟩) (Kd.R_far (p := ⟨gb494, 1, none⟩) (Kd.R_far (p := ⟨gb494, 0, none⟩) (Kd.R_types HO_501002.out BK494.out (by decide)) (fun _ hk => hk.2) (.int .i64 x501000_2)) (fun _ hk => hk.2) (.int .i64 t496)) (fun _ hk => hk.2) (.slice (some ad502) x501002_2.length co36)) (fun _ hk => trivial), hb_ HB.out⟩
         ·
          rw [if_neg c32] at H
          have c32b0 : ((wrap64 (Int.tdiv ((rd_Item x501002_2 0).f0) a1)) == (wrap64 (Int.tdiv (wrap64 (a0_1 - 1)) a1))) = false := beq_eq_false_iff_ne.mpr c32
          have c32b1 : ((wrap64 (Int.tdiv ((rd_Item x501002_2 0).f0) a1)) != (wrap64 (Int.tdiv (wrap64 (a0_1 - 1)) a1))) = true := bne_iff_ne.mpr c32
          have H' := Aside0.mk H
          clear H
          have hnb40 := NB500_493.out
          have hnc40 := NB493_500.out
          have hnb41 := NB500_494.out
          have hnc41 := NB494_500.out
          have hcz42_0 : wr.cell? ⟨gb500, 0, none⟩ = some (.int .i64 x501000_2) := bc_ BK500 0
          have hcz42_1 : wr.cell? ⟨gb500, 1, none⟩ = some (.int .i64 t496) := bc_ BK500 1
          have hcz42_2 : wr.cell? ⟨gb500, 2, none⟩ = some (u501002) := bc_ BK500 2
          have hfz42_0 := blk_frozen BK500.out 0
          have hfz42_1 := blk_frozen BK500.out 1
          have hfz42_2 := blk_frozen BK500.out 2
          obtain ⟨Ao43, co43, eo43⟩ := Kd.R_slice HO_501002.out
          subst eo43
          have p502 : 0 ≤ (0 : Int) := (by omega)
          have q502 : 0 < (x501002_2.length : Int) := of_decide_eq_true dt_
          obtain ⟨ad502, e502, hx502_0, hx502_1, hx502_2, hx502_3, hx502_4⟩ := at_Item (Kd.R_reads' HO_501002.out).2.2 0 p502 q502
          cases e502
          have qi502 : (0 < x501002_2.length) = True := eq_true (by omega)
          (try rw [show ((0 : Int)).toNat = 0 from rfl] at hx502_0)
          (try rw [show 0 * 5 = 0 from rfl] at hx502_0)
          (try rw [Addr.add_zero'] at hx502_0)
          (try rw [show ((0 : Int)).toNat = 0 from rfl] at hx502_1)
          (try rw [show 0 * 5 = 0 from rfl] at hx502_1)
          (try rw [Addr.add_zero'] at hx502_1)
          (try rw [show ((0 : Int)).toNat = 0 from rfl] at hx502_2)
          (try rw [show 0 * 5 = 0 from rfl] at hx502_2)
          (try rw [Addr.add_zero'] at hx502_2)
          (try rw [show ((0 : Int)).toNat = 0 from rfl] at hx502_3)
          (try rw [show 0 * 5 = 0 from rfl] at hx502_3)
          (try rw [Addr.add_zero'] at hx502_3)
          (try rw [show ((0 : Int)).toNat = 0 from rfl] at hx502_4)
          (try rw [show 0 * 5 = 0 from rfl] at hx502_4)
          (try rw [Addr.add_zero'] at hx502_4)
          replace p502 := eq_true p502
          replace q502 := eq_true q502
          have hnb44 := NB493_494.out
          have hnc44 := NB494_493.out
          have hcz45_0 : wr.cell? ⟨gb493, 0, none⟩ = some (.int .i64 a0_0) := bc_ BK493 0
          have hcz45_1 : wr.cell? ⟨gb493, 1, none⟩ = some (.int .i64 a0_1) := bc_ BK493 1
          have hcz45_2 : wr.cell? ⟨gb493, 2, none⟩ = some (.slice A0_2 l0_2.length c0_2) := bc_ BK493 2
          have hfz45_0 := blk_frozen BK493.out 0
          have hfz45_1 := blk_frozen BK493.out 1
          have hfz45_2 := blk_frozen BK493.out 2
          go_wp2
          go_loopg [9] k2 (fun kq v9 w' => ∃ (x9_3 : Int), v9 = .int .i64 x9_3 ∧ Aside0 (spec_RowTrim.l1 kq a1 a2 (wrap64 (Int.tdiv ((rd_Item x501002_2 0).f0) a1)) x9_3 a0_0 a0_1 l0_2 x501000_2 t496 x501002_2 = some (r1, r2, r3)) ∧ Aside0 (kq ≤ k2) ∧ Aside0 (Kd.R k_Item 55 w' w.heap.size (fun _ => True) (.slice (some ad502) x501002_2.length co43) x501002_2) ∧ Aside0 (w'.heap[gb493]? = some (.cells #[.int .i64 a0_0, .int .i64 a0_1, (.slice A0_2 l0_2.length c0_2)] 48 (0, 0))) ∧ Aside0 (w'.heap[gb494]? = some (.cells #[.int .i64 x495000_2, .int .i64 x495001_2, (.slice none 0 0)] 48 (0, 0))) ∧ Aside0 (w'.heap[gb500]? = some (.cells #[.int .i64 x501000_2, .int .i64 t496, (.slice (some ad502) x501002_2.length co43)] 48 (0, 0))) ∧ Aside0 (Below w.heap.size w w'))
          case atStart => exact ⟨(0), (qd4_), H', ⟨Nat.le_refl _⟩, ⟨rq_ HO_501002.out⟩, ⟨bq_ BK493.out⟩, ⟨bq_ BK494.out⟩, ⟨bq_ BK500.out⟩, ⟨hb_ HB.out⟩⟩
          case round =>
           clear H'
           (try clear c1); (try clear c2); (try clear p2); (try clear c3); (try clear c4); (try clear p5); (try clear q5); (try clear hx5); (try clear qi5); (try clear c6); (try clear p6); (try clear c8); (try clear c12); (try clear c13); (try clear c16); (try clear c16b0); (try clear c17); (try clear c17b0); (try clear c19); (try clear c20); (try clear c23); (try clear c24); (try clear c25); (try clear c27); (try clear c29); (try clear c29b0); (try clear c30); (try clear c30b0); (try clear c30b1); (try clear c31); (try clear c31b0); (try clear c31b1); (try clear c32); (try clear c32b0); (try clear c32b1); (try clear c33); (try clear c34); (try clear c37); (try clear c40); (try clear c41); (try clear c44); (try clear hcz14_0); (try clear hcz14_1); (try clear hcz14_2); (try clear hcz21_0); (try clear hcz21_1); (try clear hcz21_2); (try clear hcz26_0); (try clear hcz26_1); (try clear hcz26_2); (try clear hcz28_0); (try clear hcz28_1); (try clear hcz28_2); (try clear hcz35_0); (try clear hcz35_1); (try clear hcz35_2); (try clear hcz38_0); (try clear hcz38_1); (try clear hcz38_2); (try clear hcz39_0); (try clear hcz39_1); (try clear hcz39_2); (try clear hcz42_0); (try clear hcz42_1); (try clear hcz42_2); (try clear hcz45_0); (try clear hcz45_1); (try clear hcz45_2); (try clear hcz9_0); (try clear hcz9_1); (try clear hcz9_2); (try clear hfz14_0); (try clear hfz14_1); (try clear hfz14_2); (try clear hfz21_0); (try clear hfz21_1); (try clear hfz21_2); (try clear hfz26_0); (try clear hfz26_1); (try clear hfz26_2); (try clear hfz28_0); (try clear hfz28_1); (try clear hfz28_2); (try clear hfz35_0); (try clear hfz35_1); (try clear hfz35_2); (try clear hfz38_0); (try clear hfz38_1); (try clear hfz38_2); (try clear hfz39_0); (try clear hfz39_1); (try clear hfz39_2); (try clear hfz42_0); (try clear hfz42_1); (try clear hfz42_2); (try clear hfz45_0); (try clear hfz45_1); (try clear hfz45_2); (try clear hfz9_0); (try clear hfz9_1); (try clear hfz9_2); (try clear hx502_0); (try clear hx502_1); (try clear hx502_2); (try clear hx502_3); (try clear hx502_4); (try clear p2); (try clear p502); (try clear q502)
           obtain ⟨x9_3, rfl, HA, HK3, HO_501002, BK493, BK494, BK500, HB⟩ := hrel
           cases gk with
           | zero => exact absurd HA.out (by simp [spec_RowTrim.l1])
           | succ k3 =>
            have H := HA.out
            clear HA
            simp only [spec_RowTrim.l1] at H
            by_cases c46 : x9_3 < (x501002_2.length : Int)
            ·
             rw [if_pos c46] at H
             have c46b0 : decide (x9_3 < (x501002_2.length : Int)) = true := decide_eq_true c46
             clear c46
             by_cases c47 : 0 ≤ x9_3
             ·
              rw [if_pos c47] at H
              have c47b0 : decide (0 ≤ x9_3) = true := decide_eq_true c47
              clear c47
              by_cases c48 : a1 = 0
              ·
               rw [if_pos c48] at H
               exact absurd H (by simp)
              ·
               rw [if_neg c48] at H
               have c48b0 : (a1 == 0) = false := beq_eq_false_iff_ne.mpr c48
               have c48b1 : (a1 != 0) = true := bne_iff_ne.mpr c48
               by_cases c49 : (wrap64 (Int.tdiv ((rd_Item x501002_2 x9_3).f0) a1)) = (wrap64 (Int.tdiv ((rd_Item x501002_2 0).f0) a1))
               ·
                rw [if_pos c49] at H
                have c49b0 : ((wrap64 (Int.tdiv ((rd_Item x501002_2 x9_3).f0) a1)) == (wrap64 (Int.tdiv ((rd_Item x501002_2 0).f0) a1))) = true := beq_iff_eq.mpr c49
                have c49b1 : ((wrap64 (Int.tdiv ((rd_Item x501002_2 x9_3).f0) a1)) != (wrap64 (Int.tdiv ((rd_Item x501002_2 0).f0) a1))) = false := bne_eq_false_iff_eq.mpr c49
                clear c49
                have H' := Aside0.mk H
                clear H
                have hnb50 := NB500_493.out
                have hnc50 := NB493_500.out
                have hnb51 := NB500_494.out
                have hnc51 := NB494_500.out
                have hcz52_0 : wr.cell? ⟨gb500, 0, none⟩ = some (.int .i64 x501000_2) := bc_ BK500 0
                have hcz52_1 : wr.cell? ⟨gb500, 1, none⟩ = some (.int .i64 t496) := bc_ BK500 1
                have hcz52_2 : wr.cell? ⟨gb500, 2, none⟩ = some (.slice (some ad502) x501002_2.length co43) := bc_ BK500 2
                have hfz52_0 := blk_frozen BK500.out 0
                have hfz52_1 := blk_frozen BK500.out 1
                have hfz52_2 := blk_frozen BK500.out 2
                have p503 : 0 ≤ (x9_3 : Int) := of_decide_eq_true dt_
                have q503 : x9_3 < (x501002_2.length : Int) := of_decide_eq_true dt_
                obtain ⟨ad503, e503, hx503_0, hx503_1, hx503_2, hx503_3, hx503_4⟩ := at_Item (Kd.R_reads' HO_501002.out).2.2 x9_3 p503 q503
                obtain rfl : ad502 = ad503 := (by injection e503)
                replace p503 := eq_true p503
                replace q503 := eq_true q503
                go_wp2
                go_roundg k3
                case measure => have := HJ4.out; have := HK2.out; have := HK3.out; omega
                case rel => exact ⟨(wrap64 (x9_3 + 1)), (qd4_), H', ⟨qd14_⟩, ⟨rq_ HO_501002.out⟩, ⟨bq_ BK493.out⟩, ⟨bq_ BK494.out⟩, ⟨bq_ BK500.out⟩, ⟨hb_ HB.out⟩⟩
               ·
                rw [if_neg c49] at H
                have c49b0 : ((wrap64 (Int.tdiv ((rd_Item x501002_2 x9_3).f0) a1)) == (wrap64 (Int.tdiv ((rd_Item x501002_2 0).f0) a1))) = false := beq_eq_false_iff_ne.mpr c49
                have c49b1 : ((wrap64 (Int.tdiv ((rd_Item x501002_2 x9_3).f0) a1)) != (wrap64 (Int.tdiv ((rd_Item x501002_2 0).f0) a1))) = true := bne_iff_ne.mpr c49
                obtain ⟨y504, hy504⟩ : ∃ y_ : List (S_Item), y_ = (([] : List (S_Item))) := ⟨_, rfl⟩
                replace H : (if x9_3 ≤ (x501002_2.length : Int) then ((some (x501002_2.drop (x9_3 : Int).toNat : List (S_Item))).bind fun y507 => (if y504.length + y507.length < 2513169434916 then (spec_RowTrim.l0 k3 a1 a2 a0_0 a0_1 l0_2 (wrap64 ((wrap64 ((wrap64 (Int.tdiv ((rd_Item x501002_2 0).f0) a1)) + 1)) * a1)) t496 (y504 ++ y507)) else (none))) else (none)) = some (r1, r2, r3) := by first | (rw [hy504]; with_reducible exact H) | (have H2_ := (Option.bind_some _ _).symm.trans H; rw [hy504]; with_reducible exact H2_) | (have H2_ := (Option.bind_some _ _).symm.trans H; with_reducible exact H2_) | with_reducible exact H | (rw [hy504]; exact H) | exact H
                have Ny504 := Aside0.mk hy504
                clear hy504
                have c53b0 := eq_true (of_decide_eq_true dt_ : 0 ≤ x9_3)
                by_cases c54 : x9_3 ≤ (x501002_2.length : Int)
                ·
                 rw [if_pos c54] at H
                 have c54b0 := eq_true c54
                 have c54b1 : decide (x9_3 ≤ (x501002_2.length : Int)) = true := decide_eq_true c54
                 clear c54
                 obtain ⟨y507, hy507⟩ : ∃ y_ : List (S_Item), y_ = (x501002_2.drop (x9_3 : Int).toNat) := ⟨_, rfl⟩
                 replace H : (if y504.length + y507.length < 2513169434916 then (spec_RowTrim.l0 k3 a1 a2 a0_0 a0_1 l0_2 (wrap64 ((wrap64 ((wrap64 (Int.tdiv ((rd_Item x501002_2 0).f0) a1)) + 1)) * a1)) t496 (y504 ++ y507)) else (none)) = some (r1, r2, r3) := by first | (rw [hy507]; with_reducible exact H) | (have H2_ := (Option.bind_some _ _).symm.trans H; rw [hy507]; with_reducible exact H2_) | (have H2_ := (Option.bind_some _ _).symm.trans H; with_reducible exact H2_) | with_reducible exact H | (rw [hy507]; exact H) | exact H
                 have Ny507 := Aside0.mk hy507
                 clear hy507
                 by_cases c55 : y504.length + y507.length < 2513169434916
                 ·
                  rw [if_pos c55] at H
                  have LMc55 := Aside0.mk c55
                  clear c55
                  obtain ⟨y511, hy511⟩ : ∃ y_ : List (S_Item), y_ = (y504 ++ y507) := ⟨_, rfl⟩
                  replace H : (spec_RowTrim.l0 k3 a1 a2 a0_0 a0_1 l0_2 (wrap64 ((wrap64 ((wrap64 (Int.tdiv ((rd_Item x501002_2 0).f0) a1)) + 1)) * a1)) t496 y511) = some (r1, r2, r3) := by first | (rw [hy511]; with_reducible exact H) | (have H2_ := (Option.bind_some _ _).symm.trans H; rw [hy511]; with_reducible exact H2_) | (have H2_ := (Option.bind_some _ _).symm.trans H; with_reducible exact H2_) | with_reducible exact H | (rw [hy511]; exact H) | exact H
                  have Ny511 := Aside0.mk hy511
                  clear hy511
                  have H' := Aside0.mk H
                  clear H
                  have hnb56 := NB500_493.out
                  have hnc56 := NB493_500.out
                  have hnb57 := NB500_494.out
                  have hnc57 := NB494_500.out
                  have hcz58_0 : wr.cell? ⟨gb500, 0, none⟩ = some (.int .i64 x501000_2) := bc_ BK500 0
                  have hcz58_1 : wr.cell? ⟨gb500, 1, none⟩ = some (.int .i64 t496) := bc_ BK500 1
                  have hcz58_2 : wr.cell? ⟨gb500, 2, none⟩ = some (.slice (some ad502) x501002_2.length co43) := bc_ BK500 2
                  have hfz58_0 := blk_frozen BK500.out 0
                  have hfz58_1 := blk_frozen BK500.out 1
                  have hfz58_2 := blk_frozen BK500.out 2
                  have p503 : 0 ≤ (x9_3 : Int) := of_decide_eq_true dt_
                  have q503 : x9_3 < (x501002_2.length : Int) := of_decide_eq_true dt_
                  obtain ⟨ad503, e503, hx503_0, hx503_1, hx503_2, hx503_3, hx503_4⟩ := at_Item (Kd.R_reads' HO_501002.out).2.2 x9_3 p503 q503
                  obtain rfl : ad502 = ad503 := (by injection e503)
                  replace p503 := eq_true p503
                  replace q503 := eq_true q503
                  go_wp2_with (first | ((with_reducible refine gate_dst (N := 63) rfl ?_); refine Kd.R_lit k_Item _ 55 ?hg (N := 63) ?hd (xs := ([] : List (S_Item))) (inner := []) (ok := fun _ => True) (okp := fun _ => True) ?hr ?hp (fun _ hk => hk) trivial (Below.refl _ _) (Nat.le_refl _) (by simp) ?_; (case hd => rfl); (case hg => rfl); (case hr => first | (go_simp; done) | (go_simp; rfl)); (case hp => exact (Reps.none _ _)); intro v505 w59 ho60 hb hg_ hnew_; clear hg_ hnew_; (first | rw [← Ny504.out] at ho60 | (simp only [Int.reduceToNat] at ho60; rw [← Ny504.out] at ho60)); have n0_ := Aside0.mk (Kd.R_elder' (rq_ HO_501002.out) (Kd.R_base ho60) hb); have n1_ := Aside0.mk (Kd.R_lower (Kd.R_new' ho60 (Kd.R_lt (rq_ HO_501002.out))) (below_size (hb_ HB.out))); have n2_ := Aside0.mk (bb_ BK493.out hb); have n3_ := Aside0.mk (bb_ BK494.out hb); have n4_ := Aside0.mk (bb_ BK500.out hb); have n5_ := Aside0.mk (below_step (hb_ HB.out) hb); clear HO_501002; clear BK493; clear BK494; clear BK500; clear HB; have HO_501002 := n0_; have HO506 := n1_; have BK493 := n2_; have BK494 := n3_; have BK500 := n4_; have HB := n5_; clear n0_ n1_ n2_ n3_ n4_ n5_; clear hb ho60; have hcz61_0 : w59.cell? ⟨gb500, 0, none⟩ = some (.int .i64 x501000_2) := bc_ BK500 0; have hcz61_1 : w59.cell? ⟨gb500, 1, none⟩ = some (.int .i64 t496) := bc_ BK500 1; have hcz61_2 : w59.cell? ⟨gb500, 2, none⟩ = some (.slice (some ad502) x501002_2.length co43) := bc_ BK500 2; have hfz61_0 := blk_frozen BK500.out 0; have hfz61_1 := blk_frozen BK500.out 1; have hfz61_2 := blk_frozen BK500.out 2; have q62 : (x9_3 : Int) ≤ ((x501002_2.length : Int) : Int) := of_decide_eq_true dt_; obtain ⟨i062, hi062, _, hsz62, _⟩ := info_parts info55; have hroom62 : x501002_2.length ≤ co43 := (Kd.R_reads' HO_501002.out).2.1; have hC62 : Kd.C k_Item _ (some ad502) x501002_2.length x501002_2 := (Kd.R_reads' HO_501002.out).2.2; have q062 : (0 : Int) ≤ (x9_3 : Int) := of_decide_eq_true dt_; have hcut62 := cut_from (P := Try.prog) 46 55 .i64 Try.underlying46 hi062 5 hsz62 (some ad502) x501002_2.length co43 x9_3 q062 q62; have hr62 := Kd.C_drop (m := (x9_3 : Int).toNat) (c := co43) hC62 (by omega) hroom62; obtain ⟨A62, hA62⟩ : ∃ A1, A1 = (if co43 = (x9_3 : Int).toNat then (some ad502) else ((some ad502) : Option Addr).map (·.add ((x9_3 : Int).toNat * 5))) := ⟨_, rfl⟩; obtain ⟨c62, hc62⟩ : ∃ c1, c1 = co43 - (x9_3 : Int).toNat := ⟨_, rfl⟩; have hy62 : y507.length = x501002_2.length - (x9_3 : Int).toNat := (by rw [Ny507.out, List.length_drop] <;> omega); rw [show (x501002_2).drop (x9_3 : Int).toNat = y507 from Ny507.out.symm] at hr62; replace hr62 : Kd.C k_Item _ A62 y507.length y507 := (by rw [hA62]; exact hr62); rw [← hy62, ← hA62, ← hc62] at hcut62; have HR510 := Aside0.mk hr62; have HC510 := Aside0.mk (show y507.length ≤ c62 from by rw [hy62, hc62]; exact Nat.sub_le_sub_right hroom62 _); clear hr62 hC62 hroom62 hi062 hsz62 hc62; have KY62 := Aside0.mk hy62; have KA62 := Aside0.mk hA62; clear hy62 hA62; have KL62 := Aside0.mk (show (x9_3 : Int).toNat ≤ x501002_2.length from by omega); replace q62 := eq_true q62) | ((with_reducible refine gate_builtin (b := .append) (xs := #[.tmp 63, .tmp 67]) rfl ?_); at_builtin; refine Kd.R_append_rows k_Item (w0 := w) w.heap.size rfl (.tmp 63) (.tmp 67) 46 55 (.agg #[(.int .i64 0), (.string ⟨#[]⟩), (.string ⟨#[]⟩), (.int .i64 0), (.int .i64 0)]) 56 rfl Try.underlying46 info55 rfl (by decide) (by omega) v505 y504 y507 _ _ _ (fun k_ => some k_ ≠ (.slice (some ad502) x501002_2.length co43 : Value).ownBlock) (fun _ => False) rfl rfl ?aO ?aR (fun _ _ h => h) (fun _ h => h.elim) ?aF ?aB ?aS ?aL ?_; (case aR => repeat (first | exact (by repeat (first | (with_reducible exact HR510.out) | (with_reducible refine Kd.C_alloc ?_ _) | (with_reducible refine Kd.C_drewN ?_ _) | (with_reducible refine Kd.C_drew ?_) | exact HR510.out)) | (with_reducible refine Kd.C_alloc ?_ _) | (with_reducible refine Kd.C_drewN ?_ _) | (with_reducible refine Kd.C_drew ?_))); (case aB => exact (hb_ HB.out)); (case aF => exact (fun k_ hk => Kd.fresh' (Kd.R_lt (rq_ HO_501002.out)) k_ hk)); (case aO => exact (rm_ HO506.out)); (case aS => exact (below_size (hb_ HB.out))); (case aL => have := LMc55.out; omega); intro v512 w63 ho hb hg hat; rw [← Ny511.out] at ho; have n0_ := Aside0.mk (Kd.R_after (ok := (fun _ => True)) (rq_ HO_501002.out) hg hat); have n1_ := Aside0.mk (blk_grown (g := gb493) (o := .cells #[.int .i64 a0_0, .int .i64 a0_1, .slice A0_2 l0_2.length c0_2] 48 (0, 0)) (bq_ BK493.out) hg (Kd.R_ne HO506.out BK493.out (by decide))); have n2_ := Aside0.mk (blk_grown (g := gb494) (o := .cells #[.int .i64 x495000_2, .int .i64 x495001_2, .slice none 0 0] 48 (0, 0)) (bq_ BK494.out) hg (Kd.R_ne HO506.out BK494.out (by decide))); have n3_ := Aside0.mk (blk_grown (g := gb500) (o := .cells #[.int .i64 x501000_2, .int .i64 t496, .slice (some ad502) x501002_2.length co43] 48 (0, 0)) (bq_ BK500.out) hg (Kd.R_ne HO506.out BK500.out (by decide))); have n4_ := Aside0.mk (hb); have n5_ := Aside0.mk ((show Kd.C k_Item w63 A62 y507.length y507 from by rw [Ny507.out, KA62.out]; exact Kd.C_drop (m := (x9_3 : Int).toNat) (c := co43) ((Kd.R_reads' (Kd.R_after (ok := (fun _ => True)) (rq_ HO_501002.out) hg hat)).2.2) KL62.out ((Kd.R_reads' (Kd.R_after (ok := (fun _ => True)) (rq_ HO_501002.out) hg hat)).2.1))); have n6_ := Aside0.mk (ho); clear HO_501002; clear BK493; clear BK494; clear BK500; clear HB; clear HR510; clear HO506; have HO_501002 := n0_; have BK493 := n1_; have BK494 := n2_; have BK500 := n3_; have HB := n4_; have HR510 := n5_; have HO513 := n6_; clear n0_ n1_ n2_ n3_ n4_ n5_ n6_; clear ho hb hg hat; obtain ⟨Ao64, co64, eo64⟩ := Kd.R_slice HO513.out; subst eo64; have hcz65_0 : w63.cell? ⟨gb500, 0, none⟩ = some (.int .i64 x501000_2) := bc_ BK500 0; have hcz65_1 : w63.cell? ⟨gb500, 1, none⟩ = some (.int .i64 t496) := bc_ BK500 1; have hcz65_2 : w63.cell? ⟨gb500, 2, none⟩ = some (.slice (some ad502) x501002_2.length co43) := bc_ BK500 2; have hfz65_0 := blk_frozen BK500.out 0; have hfz65_1 := blk_frozen BK500.out 1; have hfz65_2 := blk_frozen BK500.out 2))
                  go_roundg k3
                  case measure => have := HJ4.out; have := HK2.out; have := HK3.out; omega
                  case rel => exact ⟨(x495000_2), (x495001_2), (wrap64 ((wrap64 ((wrap64 (Int.tdiv ((rd_Item x501002_2 0).f0) a1)) + 1)) * a1)), (y511), (.slice Ao64 y511.length co64), H', ⟨qd14_⟩, ⟨by (with_reducible repeat (first | apply Kd.R_alloc | apply Kd.R_drewN | apply Kd.R_drew)); exact Kd.R_mono (Kd.R_far (p := ⟨gb500, 0, none⟩) (Kd.R_far (p := ⟨gb500, 2, none⟩) (Kd.R_types HO513.out BK500.out (by decide)) (fun _ hk => hk.2) (.slice Ao64 y511.length co64)) (fun _ hk => hk.2) (.int .i64 (wrap64 ((wrap64 ((wrap64 (Int.tdiv ((rd_Item x501002_2 0).f0) a1)) + 1)) * a1)))) (fun _ hk => trivial)⟩, ⟨bf_ NB493_500.out BK493.out⟩, ⟨bf_ NB494_500.out BK494.out⟩, ⟨bp_ BK500.out⟩, ⟨hb_ HB.out⟩⟩
                 ·
                  rw [if_neg c55] at H
                  exact absurd H (by simp)
                ·
                 rw [if_neg c54] at H
                 exact absurd H (by simp)
             ·
              rw [if_neg c47] at H
              exact absurd H (by simp)
            ·
             rw [if_neg c46] at H
             have c46b0 : decide (x9_3 < (x501002_2.length : Int)) = false := decide_eq_false c46
             clear c46
             obtain ⟨y514, hy514⟩ : ∃ y_ : List (S_Item), y_ = (([] : List (S_Item))) := ⟨_, rfl⟩
             replace H : (if 0 ≤ x9_3 then (if x9_3 ≤ (x501002_2.length : Int) then ((some (x501002_2.drop (x9_3 : Int).toNat : List (S_Item))).bind fun y517 => (if y514.length + y517.length < 2513169434916 then (spec_RowTrim.l0 k3 a1 a2 a0_0 a0_1 l0_2 (wrap64 ((wrap64 ((wrap64 (Int.tdiv ((rd_Item x501002_2 0).f0) a1)) + 1)) * a1)) t496 (y514 ++ y517)) else (none))) else (none)) else (none)) = some (r1, r2, r3) := by first | (rw [hy514]; with_reducible exact H) | (have H2_ := (Option.bind_some _ _).symm.trans H; rw [hy514]; with_reducible exact H2_) | (have H2_ := (Option.bind_some _ _).symm.trans H; with_reducible exact H2_) | with_reducible exact H | (rw [hy514]; exact H) | exact H
             have Ny514 := Aside0.mk hy514
             clear hy514
             by_cases c66 : 0 ≤ x9_3
             ·
              rw [if_pos c66] at H
              have c66b0 := eq_true c66
              have c66b1 : decide (0 ≤ x9_3) = true := decide_eq_true c66
              clear c66
              by_cases c67 : x9_3 ≤ (x501002_2.length : Int)
              ·
               rw [if_pos c67] at H
               have c67b0 := eq_true c67
               have c67b1 : decide (x9_3 ≤ (x501002_2.length : Int)) = true := decide_eq_true c67
               clear c67
               obtain ⟨y517, hy517⟩ : ∃ y_ : List (S_Item), y_ = (x501002_2.drop (x9_3 : Int).toNat) := ⟨_, rfl⟩
               replace H : (if y514.length + y517.length < 2513169434916 then (spec_RowTrim.l0 k3 a1 a2 a0_0 a0_1 l0_2 (wrap64 ((wrap64 ((wrap64 (Int.tdiv ((rd_Item x501002_2 0).f0) a1)) + 1)) * a1)) t496 (y514 ++ y517)) else (none)) = some (r1, r2, r3) := by first | (rw [hy517]; with_reducible exact H) | (have H2_ := (Option.bind_some _ _).symm.trans H; rw [hy517]; with_reducible exact H2_) | (have H2_ := (Option.bind_some _ _).symm.trans H; with_reducible exact H2_) | with_reducible exact H | (rw [hy517]; exact H) | exact H
               have Ny517 := Aside0.mk hy517
               clear hy517
               by_cases c68 : y514.length + y517.length < 2513169434916
               ·
                rw [if_pos c68] at H
                have LMc68 := Aside0.mk c68
                clear c68
                obtain ⟨y521, hy521⟩ : ∃ y_ : List (S_Item), y_ = (y514 ++ y517) := ⟨_, rfl⟩
                replace H : (spec_RowTrim.l0 k3 a1 a2 a0_0 a0_1 l0_2 (wrap64 ((wrap64 ((wrap64 (Int.tdiv ((rd_Item x501002_2 0).f0) a1)) + 1)) * a1)) t496 y521) = some (r1, r2, r3) := by first | (rw [hy521]; with_reducible exact H) | (have H2_ := (Option.bind_some _ _).symm.trans H; rw [hy521]; with_reducible exact H2_) | (have H2_ := (Option.bind_some _ _).symm.trans H; with_reducible exact H2_) | with_reducible exact H | (rw [hy521]; exact H) | exact H
                have Ny521 := Aside0.mk hy521
                clear hy521
                have H' := Aside0.mk H
                clear H
                have hnb69 := NB500_493.out
                have hnc69 := NB493_500.out
                have hnb70 := NB500_494.out
                have hnc70 := NB494_500.out
                have hcz71_0 : wr.cell? ⟨gb500, 0, none⟩ = some (.int .i64 x501000_2) := bc_ BK500 0
                have hcz71_1 : wr.cell? ⟨gb500, 1, none⟩ = some (.int .i64 t496) := bc_ BK500 1
                have hcz71_2 : wr.cell? ⟨gb500, 2, none⟩ = some (.slice (some ad502) x501002_2.length co43) := bc_ BK500 2
                have hfz71_0 := blk_frozen BK500.out 0
                have hfz71_1 := blk_frozen BK500.out 1
                have hfz71_2 := blk_frozen BK500.out 2
                go_wp2_with (first | ((with_reducible refine gate_dst (N := 63) rfl ?_); refine Kd.R_lit k_Item _ 55 ?hg (N := 63) ?hd (xs := ([] : List (S_Item))) (inner := []) (ok := fun _ => True) (okp := fun _ => True) ?hr ?hp (fun _ hk => hk) trivial (Below.refl _ _) (Nat.le_refl _) (by simp) ?_; (case hd => rfl); (case hg => rfl); (case hr => first | (go_simp; done) | (go_simp; rfl)); (case hp => exact (Reps.none _ _)); intro v515 w72 ho73 hb hg_ hnew_; clear hg_ hnew_; (first | rw [← Ny514.out] at ho73 | (simp only [Int.reduceToNat] at ho73; rw [← Ny514.out] at ho73)); have n0_ := Aside0.mk (Kd.R_elder' (rq_ HO_501002.out) (Kd.R_base ho73) hb); have n1_ := Aside0.mk (Kd.R_lower (Kd.R_new' ho73 (Kd.R_lt (rq_ HO_501002.out))) (below_size (hb_ HB.out))); have n2_ := Aside0.mk (bb_ BK493.out hb); have n3_ := Aside0.mk (bb_ BK494.out hb); have n4_ := Aside0.mk (bb_ BK500.out hb); have n5_ := Aside0.mk (below_step (hb_ HB.out) hb); clear HO_501002; clear BK493; clear BK494; clear BK500; clear HB; have HO_501002 := n0_; have HO516 := n1_; have BK493 := n2_; have BK494 := n3_; have BK500 := n4_; have HB := n5_; clear n0_ n1_ n2_ n3_ n4_ n5_; clear hb ho73; have hcz74_0 : w72.cell? ⟨gb500, 0, none⟩ = some (.int .i64 x501000_2) := bc_ BK500 0; have hcz74_1 : w72.cell? ⟨gb500, 1, none⟩ = some (.int .i64 t496) := bc_ BK500 1; have hcz74_2 : w72.cell? ⟨gb500, 2, none⟩ = some (.slice (some ad502) x501002_2.length co43) := bc_ BK500 2; have hfz74_0 := blk_frozen BK500.out 0; have hfz74_1 := blk_frozen BK500.out 1; have hfz74_2 := blk_frozen BK500.out 2; have q75 : (x9_3 : Int) ≤ ((x501002_2.length : Int) : Int) := of_decide_eq_true dt_; obtain ⟨i075, hi075, _, hsz75, _⟩ := info_parts info55; have hroom75 : x501002_2.length ≤ co43 := (Kd.R_reads' HO_501002.out).2.1; have hC75 : Kd.C k_Item _ (some ad502) x501002_2.length x501002_2 := (Kd.R_reads' HO_501002.out).2.2; have q075 : (0 : Int) ≤ (x9_3 : Int) := of_decide_eq_true dt_; have hcut75 := cut_from (P := Try.prog) 46 55 .i64 Try.underlying46 hi075 5 hsz75 (some ad502) x501002_2.length co43 x9_3 q075 q75; have hr75 := Kd.C_drop (m := (x9_3 : Int).toNat) (c := co43) hC75 (by omega) hroom75; obtain ⟨A75, hA75⟩ : ∃ A1, A1 = (if co43 = (x9_3 : Int).toNat then (some ad502) else ((some ad502) : Option Addr).map (·.add ((x9_3 : Int).toNat * 5))) := ⟨_, rfl⟩; obtain ⟨c75, hc75⟩ : ∃ c1, c1 = co43 - (x9_3 : Int).toNat := ⟨_, rfl⟩; have hy75 : y517.length = x501002_2.length - (x9_3 : Int).toNat := (by rw [Ny517.out, List.length_drop] <;> omega); rw [show (x501002_2).drop (x9_3 : Int).toNat = y517 from Ny517.out.symm] at hr75; replace hr75 : Kd.C k_Item _ A75 y517.length y517 := (by rw [hA75]; exact hr75); rw [← hy75, ← hA75, ← hc75] at hcut75; have HR520 := Aside0.mk hr75; have HC520 := Aside0.mk (show y517.length ≤ c75 from by rw [hy75, hc75]; exact Nat.sub_le_sub_right hroom75 _); clear hr75 hC75 hroom75 hi075 hsz75 hc75; have KY75 := Aside0.mk hy75; have KA75 := Aside0.mk hA75; clear hy75 hA75; have KL75 := Aside0.mk (show (x9_3 : Int).toNat ≤ x501002_2.length from by omega); replace q75 := eq_true q75) | ((with_reducible refine gate_builtin (b := .append) (xs := #[.tmp 63, .tmp 67]) rfl ?_); at_builtin; refine Kd.R_append_rows k_Item (w0 := w) w.heap.size rfl (.tmp 63) (.tmp 67) 46 55 (.agg #[(.int .i64 0), (.string ⟨#[]⟩), (.string ⟨#[]⟩), (.int .i64 0), (.int .i64 0)]) 56 rfl Try.underlying46 info55 rfl (by decide) (by omega) v515 y514 y517 _ _ _ (fun k_ => some k_ ≠ (.slice (some ad502) x501002_2.length co43 : Value).ownBlock) (fun _ => False) rfl rfl ?aO ?aR (fun _ _ h => h) (fun _ h => h.elim) ?aF ?aB ?aS ?aL ?_; (case aR => repeat (first | exact (by repeat (first | (with_reducible exact HR520.out) | (with_reducible refine Kd.C_alloc ?_ _) | (with_reducible refine Kd.C_drewN ?_ _) | (with_reducible refine Kd.C_drew ?_) | exact HR520.out)) | (with_reducible refine Kd.C_alloc ?_ _) | (with_reducible refine Kd.C_drewN ?_ _) | (with_reducible refine Kd.C_drew ?_))); (case aB => exact (hb_ HB.out)); (case aF => exact (fun k_ hk => Kd.fresh' (Kd.R_lt (rq_ HO_501002.out)) k_ hk)); (case aO => exact (rm_ HO516.out)); (case aS => exact (below_size (hb_ HB.out))); (case aL => have := LMc68.out; omega); intro v522 w76 ho hb hg hat; rw [← Ny521.out] at ho; have n0_ := Aside0.mk (Kd.R_after (ok := (fun _ => True)) (rq_ HO_501002.out) hg hat); have n1_ := Aside0.mk (blk_grown (g := gb493) (o := .cells #[.int .i64 a0_0, .int .i64 a0_1, .slice A0_2 l0_2.length c0_2] 48 (0, 0)) (bq_ BK493.out) hg (Kd.R_ne HO516.out BK493.out (by decide))); have n2_ := Aside0.mk (blk_grown (g := gb494) (o := .cells #[.int .i64 x495000_2, .int .i64 x495001_2, .slice none 0 0] 48 (0, 0)) (bq_ BK494.out) hg (Kd.R_ne HO516.out BK494.out (by decide))); have n3_ := Aside0.mk (blk_grown (g := gb500) (o := .cells #[.int .i64 x501000_2, .int .i64 t496, .slice (some ad502) x501002_2.length co43] 48 (0, 0)) (bq_ BK500.out) hg (Kd.R_ne HO516.out BK500.out (by decide))); have n4_ := Aside0.mk (hb); have n5_ := Aside0.mk ((show Kd.C k_Item w76 A75 y517.length y517 from by rw [Ny517.out, KA75.out]; exact Kd.C_drop (m := (x9_3 : Int).toNat) (c := co43) ((Kd.R_reads' (Kd.R_after (ok := (fun _ => True)) (rq_ HO_501002.out) hg hat)).2.2) KL75.out ((Kd.R_reads' (Kd.R_after (ok := (fun _ => True)) (rq_ HO_501002.out) hg hat)).2.1))); have n6_ := Aside0.mk (ho); clear HO_501002; clear BK493; clear BK494; clear BK500; clear HB; clear HR520; clear HO516; have HO_501002 := n0_; have BK493 := n1_; have BK494 := n2_; have BK500 := n3_; have HB := n4_; have HR520 := n5_; have HO523 := n6_; clear n0_ n1_ n2_ n3_ n4_ n5_ n6_; clear ho hb hg hat; obtain ⟨Ao77, co77, eo77⟩ := Kd.R_slice HO523.out; subst eo77; have hcz78_0 : w76.cell? ⟨gb500, 0, none⟩ = some (.int .i64 x501000_2) := bc_ BK500 0; have hcz78_1 : w76.cell? ⟨gb500, 1, none⟩ = some (.int .i64 t496) := bc_ BK500 1; have hcz78_2 : w76.cell? ⟨gb500, 2, none⟩ = some (.slice (some ad502) x501002_2.length co43) := bc_ BK500 2; have hfz78_0 := blk_frozen BK500.out 0; have hfz78_1 := blk_frozen BK500.out 1; have hfz78_2 := blk_frozen BK500.out 2))
                go_roundg k3
                case measure => have := HJ4.out; have := HK2.out; have := HK3.out; omega
                case rel => exact ⟨(x495000_2), (x495001_2), (wrap64 ((wrap64 ((wrap64 (Int.tdiv ((rd_Item x501002_2 0).f0) a1)) + 1)) * a1)), (y521), (.slice Ao77 y521.length co77), H', ⟨qd14_⟩, ⟨by (with_reducible repeat (first | apply Kd.R_alloc | apply Kd.R_drewN | apply Kd.R_drew)); exact Kd.R_mono (Kd.R_far (p := ⟨gb500, 0, none⟩) (Kd.R_far (p := ⟨gb500, 2, none⟩) (Kd.R_types HO523.out BK500.out (by decide)) (fun _ hk => hk.2) (.slice Ao77 y521.length co77)) (fun _ hk => hk.2) (.int .i64 (wrap64 ((wrap64 ((wrap64 (Int.tdiv ((rd_Item x501002_2 0).f0) a1)) + 1)) * a1)))) (fun _ hk => trivial)⟩, ⟨bf_ NB493_500.out BK493.out⟩, ⟨bf_ NB494_500.out BK494.out⟩, ⟨bp_ BK500.out⟩, ⟨hb_ HB.out⟩⟩
               ·
                rw [if_neg c68] at H
                exact absurd H (by simp)
              ·
               rw [if_neg c67] at H
               exact absurd H (by simp)
             ·
              rw [if_neg c66] at H
              exact absurd H (by simp)
       ·
        rw [if_neg c30] at H
        exact absurd H (by simp)
      ·
       rw [if_neg c29] at H
       have c29b0 : decide (a2 < (x501002_2.length : Int)) = false := decide_eq_false c29
       clear c29
       simp only [Option.some.injEq, Prod.mk.injEq] at H
       obtain ⟨rfl, rfl, rfl⟩ := H
       have hnb79 := NB500_493.out
       have hnc79 := NB493_500.out
       have hnb80 := NB500_494.out
       have hnc80 := NB494_500.out
       have hcz81_0 : wr.cell? ⟨gb500, 0, none⟩ = some (.int .i64 x501000_2) := bc_ BK500 0
       have hcz81_1 : wr.cell? ⟨gb500, 1, none⟩ = some (.int .i64 t496) := bc_ BK500 1
       have hcz81_2 : wr.cell? ⟨gb500, 2, none⟩ = some (u501002) := bc_ BK500 2
       have hfz81_0 := blk_frozen BK500.out 0
       have hfz81_1 := blk_frozen BK500.out 1
       have hfz81_2 := blk_frozen BK500.out 2
       obtain ⟨Ao82, co82, eo82⟩ := Kd.R_slice HO_501002.out
       subst eo82
       have hnb83 := NB494_493.out
       have hnc83 := NB493_494.out
       have hcz84_0 : wr.cell? ⟨gb494, 0, none⟩ = some (.int .i64 x495000_2) := bc_ BK494 0
       have hcz84_1 : wr.cell? ⟨gb494, 1, none⟩ = some (.int .i64 x495001_2) := bc_ BK494 1
       have hcz84_2 : wr.cell? ⟨gb494, 2, none⟩ = some (.slice none 0 0) := bc_ BK494 2
       have hfz84_0 := blk_frozen BK494.out 0
       have hfz84_1 := blk_frozen BK494.out 1
       have hfz84_2 := blk_frozen BK494.out 2
       go_wp2
       refine bodyPost_ret (results_cell_row rfl _ _ gb494 48 #[.int .i64 x501000_2, .int .i64 t496, .slice Ao82 x501002_2.length co82] (0, 0) _ rfl (bp_ BK494.out) Try.underlying48 rfl (by kernel_rfl)) rfl ?_
       exact ⟨_, er_, by (with_reducible repeat (first | apply Kd.R_alloc | apply Kd.R_drewN | apply Kd.R_drew)); exact Kd.R_mono (Kd.R_far (p := ⟨gb494, 2, none⟩) (Kd.R_far (p := ⟨gb494, 1, none⟩) (Kd.R_far (p := ⟨gb494, 0, none⟩) (Kd.R_types HO_501002.out BK494.out (by decide)) (fun _ hk => hk.2) (.int .i64 x501000_2)) (fun _ hk => hk.2) (.int .i64 t496)) (fun _ hk => hk.2) (.slice Ao82 x501002_2.length co82)) (fun _ hk => trivial), hb_ HB.out⟩
/-! ### spec_l3Behind: function 75 -/
def spec_l3Behind.l0 : Nat → Int → Int → Int → Int → List (S_Item) → Option (Bool)
  | 0, _, _, _, _, _ => none
  | k + 1, x1, x5, x525000, x525001, x525002 => if x5 < (x525002.length : Int) then (if 0 ≤ x5 then (if 0 ≤ x1 then (if x1 < (x525002.length : Int) then (if ((rd_Item x525002 x5).f1).toList = ((rd_Item x525002 x1).f1).toList then (some true) else (spec_l3Behind.l0 k x1 (wrap64 (x5 + 1)) x525000 x525001 x525002)) else (none)) else (none)) else (none)) else (some false)
def spec_l3Behind.f (k : Nat) (a0_0 : Int) (a0_1 : Int) (l0_2 : List (S_Item)) (a1 : Int) : Option (Bool) := spec_l3Behind.l0 k a1 (wrap64 (a1 + 1)) a0_0 a0_1 l0_2
theorem spec_l3Behind.mono_l : ∀ k, (∀ y0 y1 y2 y3 y4, LeO (spec_l3Behind.l0 k y0 y1 y2 y3 y4) (spec_l3Behind.l0 (k + 1) y0 y1 y2 y3 y4))
  | 0 => fun _ _ _ _ _ r h => by simp [spec_l3Behind.l0] at h
  | k + 1 => by
    have ih0 := spec_l3Behind.mono_l k
    · intro y0 y1 y2 y3 y4
      unfold spec_l3Behind.l0
      repeat' first
      | (with_reducible exact ih0 _ _ _ _ _)
      | (with_reducible exact LeO.refl _)
      | (with_reducible exact LeO.none _)
      | (with_reducible refine LeO.ite ?_ ?_)
      | (with_reducible refine LeO.bind ?_ (fun _ => ?_))
      | exact ih0 _ _ _ _ _
      | exact LeO.none _
      | refine LeO.ite ?_ ?_
      | refine LeO.bind ?_ (fun _ => ?_)
theorem spec_l3Behind.mono : ∀ a0 a1 a2 a3 k, LeO (spec_l3Behind.f k a0 a1 a2 a3) (spec_l3Behind.f (k + 1) a0 a1 a2 a3) := by
  intro a0 a1 a2 a3 k
  have ih0 := spec_l3Behind.mono_l k
  unfold spec_l3Behind.f
  repeat' first
      | (with_reducible exact ih0 _ _ _ _ _)
      | (with_reducible exact LeO.refl _)
      | (with_reducible exact LeO.none _)
      | (with_reducible refine LeO.ite ?_ ?_)
      | (with_reducible refine LeO.bind ?_ (fun _ => ?_))
      | exact ih0 _ _ _ _ _
      | exact LeO.none _
      | refine LeO.ite ?_ ?_
      | refine LeO.bind ?_ (fun _ => ?_)
set_option maxHeartbeats 8000000 in
set_option maxRecDepth 100000 in
theorem spec_l3Behind.calls (k : Nat) (a0_0 : Int) (a0_1 : Int) (A0_2 : Option Addr) (c0_2 : Nat) (l0_2 : List (S_Item)) (a1 : Int) (r : Bool) (w : World) (hr0_2 : Kd.C k_Item w A0_2 l0_2.length l0_2) (hc0_2 : l0_2.length ≤ c0_2) (h : spec_l3Behind.f k a0_0 a0_1 l0_2 a1 = some r) :
    Calls Try.prog 75 #[.agg #[.int .i64 a0_0, .int .i64 a0_1, .slice A0_2 l0_2.length c0_2], .int .i64 a1] w fun e w' => e = .returned (.bool r) ∧ Below w.heap.size w w' := by
  have hu48 := Try.underlying48
  have HR0_2 := Aside0.mk hr0_2
  have HC0_2 := Aside0.mk hc0_2
  clear hr0_2 hc0_2
  have HB := Aside0.mk (Below.refl w.heap.size w)
  have H : (spec_l3Behind.l0 k a1 (wrap64 (a1 + 1)) a0_0 a0_1 l0_2) = some r := h
  clear h
  have H' := Aside0.mk H
  clear H
  go_enter Try.func75, Try.ntmps75
  go_wp2_with (first | (go_quiet (fail)) | ((with_reducible refine gate_dst (N := 2) rfl ?_); refine box_event ?hg (N := 2) ?hd (cs := #[.int .i64 a0_0, .int .i64 a0_1, .slice A0_2 l0_2.length c0_2]) (t := 48) ?hr ?_; (case hd => rfl); (case hg => rfl); (case hr => first | (go_simp; done) | (go_simp; rfl)); intro gb524 hg w3 hbox hb; have n0_ := Aside0.mk (below_step (qd3_) hb); have n1_ := Aside0.mk (hbox); have n2_ := Aside0.mk ((by rw [hg]; exact (below_size (qd3_)) : w.heap.size ≤ gb524)); have n3_ := Aside0.mk ((by rw [hg]; exact (below_size (qd3_)) : w.heap.size ≤ gb524)); clear HB; have HB := n0_; have BK524 := n1_; have GW524 := n2_; have GE524 := n3_; clear n0_ n1_ n2_ n3_; clear hb hbox hg))
  go_loopg [5] k (fun kq v5 w' => ∃ (x5_1 : Int), v5 = .int .i64 x5_1 ∧ Aside0 (spec_l3Behind.l0 kq a1 x5_1 a0_0 a0_1 l0_2 = some r) ∧ Aside0 (kq ≤ k) ∧ Aside0 (w'.heap[gb524]? = some (.cells #[.int .i64 a0_0, .int .i64 a0_1, (.slice A0_2 l0_2.length c0_2)] 48 (0, 0))) ∧ Aside0 (Below w.heap.size w w'))
  case atStart => exact ⟨(wrap64 (a1 + 1)), (qd4_), H', ⟨Nat.le_refl _⟩, ⟨bq_ BK524.out⟩, ⟨qd6_⟩⟩
  case round =>
    clear H'
    try clear p2
    obtain ⟨x5_1, rfl, HA, HK1, BK524, HB⟩ := hrel
    cases gk with
    | zero => exact absurd HA.out (by simp [spec_l3Behind.l0])
    | succ k1 =>
      have H := HA.out
      clear HA
      simp only [spec_l3Behind.l0] at H
      by_cases c4 : x5_1 < (l0_2.length : Int)
      · rw [if_pos c4] at H
        have c4b0 : decide (x5_1 < (l0_2.length : Int)) = true := decide_eq_true c4
        clear c4
        by_cases c5 : 0 ≤ x5_1
        · rw [if_pos c5] at H
          have c5b0 : decide (0 ≤ x5_1) = true := decide_eq_true c5
          clear c5
          by_cases c6 : 0 ≤ a1
          · rw [if_pos c6] at H
            have c6b0 : decide (0 ≤ a1) = true := decide_eq_true c6
            clear c6
            by_cases c7 : a1 < (l0_2.length : Int)
            · rw [if_pos c7] at H
              have c7b0 : decide (a1 < (l0_2.length : Int)) = true := decide_eq_true c7
              clear c7
              by_cases c8 : ((rd_Item l0_2 x5_1).f1).toList = ((rd_Item l0_2 a1).f1).toList
              · rw [if_pos c8] at H
                have c8b0 : (((rd_Item l0_2 x5_1).f1).toList == ((rd_Item l0_2 a1).f1).toList) = true := beq_iff_eq.mpr c8
                have c8b1 : (((rd_Item l0_2 x5_1).f1).toList != ((rd_Item l0_2 a1).f1).toList) = false := bne_eq_false_iff_eq.mpr c8
                clear c8
                obtain rfl := Option.some.inj H
                have hcz9_0 : wr.cell? ⟨gb524, 0, none⟩ = some (.int .i64 a0_0) := bc_ BK524 0
                have hcz9_1 : wr.cell? ⟨gb524, 1, none⟩ = some (.int .i64 a0_1) := bc_ BK524 1
                have hcz9_2 : wr.cell? ⟨gb524, 2, none⟩ = some (.slice A0_2 l0_2.length c0_2) := bc_ BK524 2
                have hfz9_0 := blk_frozen BK524.out 0
                have hfz9_1 := blk_frozen BK524.out 1
                have hfz9_2 := blk_frozen BK524.out 2
                have p525 : 0 ≤ (x5_1 : Int) := of_decide_eq_true dt_
                have q525 : x5_1 < (l0_2.length : Int) := of_decide_eq_true dt_
                obtain ⟨ad525, e525, hx525_0, hx525_1, hx525_2, hx525_3, hx525_4⟩ := at_Item HR0_2.out x5_1 p525 q525
                cases e525
                replace hx525_0 := hc_ HB hx525_0
                replace hx525_1 := hc_ HB hx525_1
                replace hx525_2 := hc_ HB hx525_2
                replace hx525_3 := hc_ HB hx525_3
                replace hx525_4 := hc_ HB hx525_4
                replace p525 := eq_true p525
                replace q525 := eq_true q525
                have p526 : 0 ≤ (a1 : Int) := of_decide_eq_true dt_
                have q526 : a1 < (l0_2.length : Int) := of_decide_eq_true dt_
                obtain ⟨ad526, e526, hx526_0, hx526_1, hx526_2, hx526_3, hx526_4⟩ := at_Item HR0_2.out a1 p526 q526
                obtain rfl : ad525 = ad526 := (by injection e526)
                replace hx526_0 := hc_ HB hx526_0
                replace hx526_1 := hc_ HB hx526_1
                replace hx526_2 := hc_ HB hx526_2
                replace hx526_3 := hc_ HB hx526_3
                replace hx526_4 := hc_ HB hx526_4
                replace p526 := eq_true p526
                replace q526 := eq_true q526
                go_wp2
                repeat (go_quiet (fail); try go_wp2)
                go_ret
                exact ⟨qd8_, qd6_⟩
              · rw [if_neg c8] at H
                have c8b0 : (((rd_Item l0_2 x5_1).f1).toList == ((rd_Item l0_2 a1).f1).toList) = false := beq_eq_false_iff_ne.mpr c8
                have c8b1 : (((rd_Item l0_2 x5_1).f1).toList != ((rd_Item l0_2 a1).f1).toList) = true := bne_iff_ne.mpr c8
                have H' := Aside0.mk H
                clear H
                have hcz10_0 : wr.cell? ⟨gb524, 0, none⟩ = some (.int .i64 a0_0) := bc_ BK524 0
                have hcz10_1 : wr.cell? ⟨gb524, 1, none⟩ = some (.int .i64 a0_1) := bc_ BK524 1
                have hcz10_2 : wr.cell? ⟨gb524, 2, none⟩ = some (.slice A0_2 l0_2.length c0_2) := bc_ BK524 2
                have hfz10_0 := blk_frozen BK524.out 0
                have hfz10_1 := blk_frozen BK524.out 1
                have hfz10_2 := blk_frozen BK524.out 2
                have p525 : 0 ≤ (x5_1 : Int) := of_decide_eq_true dt_
                have q525 : x5_1 < (l0_2.length : Int) := of_decide_eq_true dt_
                obtain ⟨ad525, e525, hx525_0, hx525_1, hx525_2, hx525_3, hx525_4⟩ := at_Item HR0_2.out x5_1 p525 q525
                cases e525
                replace hx525_0 := hc_ HB hx525_0
                replace hx525_1 := hc_ HB hx525_1
                replace hx525_2 := hc_ HB hx525_2
                replace hx525_3 := hc_ HB hx525_3
                replace hx525_4 := hc_ HB hx525_4
                replace p525 := eq_true p525
                replace q525 := eq_true q525
                have p526 : 0 ≤ (a1 : Int) := of_decide_eq_true dt_
                have q526 : a1 < (l0_2.length : Int) := of_decide_eq_true dt_
                obtain ⟨ad526, e526, hx526_0, hx526_1, hx526_2, hx526_3, hx526_4⟩ := at_Item HR0_2.out a1 p526 q526
                obtain rfl : ad525 = ad526 := (by injection e526)
                replace hx526_0 := hc_ HB hx526_0
                replace hx526_1 := hc_ HB hx526_1
                replace hx526_2 := hc_ HB hx526_2
                replace hx526_3 := hc_ HB hx526_3
                replace hx526_4 := hc_ HB hx526_4
                replace p526 := eq_true p526
                replace q526 := eq_true q526
                go_wp2
                repeat (go_quiet (fail); try go_wp2)
                go_roundg k1
                case measure => have := HK1.out; omega
                case rel => exact ⟨(wrap64 (x5_1 + 1)), (qd4_), H', ⟨by have := HK1.out; omega⟩, ⟨bq_ BK524.out⟩, ⟨qd6_⟩⟩
            · rw [if_neg c7] at H
              exact absurd H (by simp)
          · rw [if_neg c6] at H
            exact absurd H (by simp)
        · rw [if_neg c5] at H
          exact absurd H (by simp)
      · rw [if_neg c4] at H
        have c4b0 : decide (x5_1 < (l0_2.length : Int)) = false := decide_eq_false c4
        clear c4
        obtain rfl := Option.some.inj H
        have hcz11_0 : wr.cell? ⟨gb524, 0, none⟩ = some (.int .i64 a0_0) := bc_ BK524 0
        have hcz11_1 : wr.cell? ⟨gb524, 1, none⟩ = some (.int .i64 a0_1) := bc_ BK524 1
        have hcz11_2 : wr.cell? ⟨gb524, 2, none⟩ = some (.slice A0_2 l0_2.length c0_2) := bc_ BK524 2
        have hfz11_0 := blk_frozen BK524.out 0
        have hfz11_1 := blk_frozen BK524.out 1
        have hfz11_2 := blk_frozen BK524.out 2
        go_wp2
        repeat (go_quiet (fail); try go_wp2)
        go_ret
        exact ⟨qd8_, qd6_⟩
/-! ### spec_RowPack: function 51 -/
abbrev spec_RowPack.m0 : Array Bool := #[f_,f_,f_,f_,f_,f_,f_,f_,f_,f_,f_,f_,f_,f_,f_,f_,f_,f_,f_,f_,f_]
abbrev spec_RowPack.m1 : Array Bool := #[t_,f_,f_,f_,f_,f_,f_,f_,f_,f_,f_,f_,f_,f_,f_,f_,f_,f_,f_,f_,f_]
abbrev spec_RowPack.m2 : Array Bool := #[t_,t_,f_,f_,f_,f_,f_,f_,f_,f_,f_,f_,f_,f_,f_,f_,f_,f_,f_,f_,f_]
abbrev spec_RowPack.m3 : Array Bool := #[t_,t_,t_,f_,f_,f_,f_,f_,f_,f_,f_,f_,f_,f_,f_,f_,f_,f_,f_,f_,f_]
abbrev spec_RowPack.m4 : Array Bool := #[t_,t_,t_,t_,f_,f_,f_,f_,f_,f_,f_,f_,f_,f_,f_,f_,f_,f_,f_,f_,f_]
abbrev spec_RowPack.m5 : Array Bool := #[t_,t_,t_,t_,t_,t_,f_,f_,f_,f_,f_,f_,f_,f_,f_,f_,f_,f_,f_,f_,f_]
abbrev spec_RowPack.m6 : Array Bool := #[t_,t_,t_,t_,t_,t_,t_,f_,f_,f_,f_,f_,f_,f_,f_,f_,f_,f_,f_,f_,f_]
abbrev spec_RowPack.m7 : Array Bool := #[t_,t_,t_,t_,t_,t_,t_,t_,f_,f_,f_,f_,f_,f_,f_,f_,f_,f_,f_,f_,f_]
abbrev spec_RowPack.m8 : Array Bool := #[t_,t_,t_,t_,t_,t_,t_,t_,t_,f_,f_,f_,f_,f_,f_,f_,f_,f_,f_,f_,f_]
abbrev spec_RowPack.m9 : Array Bool := #[t_,t_,t_,t_,t_,t_,t_,t_,t_,t_,f_,f_,f_,f_,f_,f_,f_,f_,f_,f_,f_]
abbrev spec_RowPack.m10 : Array Bool := #[t_,t_,t_,t_,t_,t_,t_,t_,t_,t_,t_,f_,f_,f_,f_,f_,f_,f_,f_,f_,f_]
abbrev spec_RowPack.m11 : Array Bool := #[t_,t_,t_,t_,t_,t_,t_,t_,t_,t_,t_,t_,f_,f_,f_,f_,f_,f_,f_,f_,f_]
abbrev spec_RowPack.m12 : Array Bool := #[t_,t_,t_,t_,t_,t_,t_,t_,t_,t_,t_,t_,t_,f_,f_,f_,f_,f_,f_,f_,f_]
abbrev spec_RowPack.m13 : Array Bool := #[t_,t_,t_,t_,t_,t_,t_,t_,t_,t_,t_,t_,t_,t_,f_,f_,f_,f_,f_,f_,f_]
abbrev spec_RowPack.m14 : Array Bool := #[t_,t_,t_,t_,t_,t_,t_,t_,t_,t_,t_,t_,t_,t_,t_,f_,f_,f_,f_,f_,f_]
abbrev spec_RowPack.m15 : Array Bool := #[t_,t_,t_,t_,t_,t_,t_,t_,t_,t_,t_,t_,t_,t_,t_,t_,f_,f_,f_,f_,f_]
abbrev spec_RowPack.m16 : Array Bool := #[t_,t_,t_,t_,t_,t_,t_,t_,t_,t_,t_,t_,t_,t_,t_,t_,t_,f_,f_,f_,f_]
abbrev spec_RowPack.m17 : Array Bool := #[t_,t_,t_,t_,t_,t_,t_,t_,t_,t_,t_,t_,t_,t_,t_,t_,t_,t_,f_,f_,f_]
abbrev spec_RowPack.m18 : Array Bool := #[t_,t_,t_,t_,t_,t_,t_,t_,t_,t_,t_,t_,t_,t_,t_,t_,t_,t_,t_,f_,f_]
abbrev spec_RowPack.m19 : Array Bool := #[t_,t_,t_,t_,t_,t_,t_,t_,t_,t_,t_,t_,t_,t_,t_,t_,t_,t_,t_,t_,f_]
abbrev spec_RowPack.m20 : Array Bool := #[t_,t_,t_,t_,t_,t_,t_,t_,t_,t_,t_,t_,t_,t_,t_,t_,t_,t_,t_,t_,t_]
abbrev spec_RowPack.m21 : Array Bool := #[t_,t_,t_,t_,f_,t_,f_,f_,f_,f_,f_,f_,f_,f_,f_,f_,f_,f_,f_,f_,f_]
mutual
def spec_RowPack.j0 : Nat → Int → Bool → Int → Int → List (S_Item) → Option (Int × Int × (List (S_Item)))
 | 0, _, _, _, _, _ => none
 | k + 1, x1, x14, x528000, x528001, x528002 => if x14 = true then ((spec_l3Copy.f x528000 x528001 x528002).bind fun bt530 => (some (bt530.1, bt530.2.1, bt530.2.2))) else (spec_RowPack.j1 k x1 x528000 x528001 x528002)
def spec_RowPack.j1 : Nat → Int → Int → Int → List (S_Item) → Option (Int × Int × (List (S_Item)))
 | 0, _, _, _, _ => none
 | k + 1, x1, x528000, x528001, x528002 => spec_RowPack.l0 k x1 0 x528000 x528001 x528002 x528000 x528001 ([] : List (S_Item))
def spec_RowPack.l0 : Nat → Int → Int → Int → Int → List (S_Item) → Int → Int → List (S_Item) → Option (Int × Int × (List (S_Item)))
 | 0, _, _, _, _, _, _, _, _ => none
 | k + 1, x1, x6, x528000, x528001, x528002, x536000, x536001, x536002 => if x6 < (x528002.length : Int) then (spec_RowPack.j3 k x1 x6 x528000 x528001 x528002 x536000 x536001 x536002) else (some (x536000, x536001, x536002))
def spec_RowPack.j3 : Nat → Int → Int → Int → Int → List (S_Item) → Int → Int → List (S_Item) → Option (Int × Int × (List (S_Item)))
 | 0, _, _, _, _, _, _, _, _ => none
 | k + 1, x1, x6, x528000, x528001, x528002, x536000, x536001, x536002 => if 0 ≤ x6 then (if x6 < (x528002.length : Int) then (if ((rd_Item x528002 x6).f1).toList = ([] : List UInt8) then (spec_RowPack.j4 k x1 x6 true x528000 x528001 x528002 x536000 x536001 x536002 ((rd_Item x528002 x6).f0) ((rd_Item x528002 x6).f1) ((rd_Item x528002 x6).f2) ((rd_Item x528002 x6).f3) ((rd_Item x528002 x6).f4)) else ((spec_l3Behind.f k x528000 x528001 x528002 x6).bind fun t538 => (if t538 = true then (if x1 = 0 then (none) else (spec_RowPack.j4 k x1 x6 ((wrap64 (Int.tdiv ((rd_Item x528002 x6).f0) x1)) == (wrap64 (Int.tdiv (wrap64 (x528001 - 1)) x1))) x528000 x528001 x528002 x536000 x536001 x536002 ((rd_Item x528002 x6).f0) ((rd_Item x528002 x6).f1) ((rd_Item x528002 x6).f2) ((rd_Item x528002 x6).f3) ((rd_Item x528002 x6).f4))) else (spec_RowPack.j4 k x1 x6 true x528000 x528001 x528002 x536000 x536001 x536002 ((rd_Item x528002 x6).f0) ((rd_Item x528002 x6).f1) ((rd_Item x528002 x6).f2) ((rd_Item x528002 x6).f3) ((rd_Item x528002 x6).f4))))) else (none)) else (none)
def spec_RowPack.j4 : Nat → Int → Int → Bool → Int → Int → List (S_Item) → Int → Int → List (S_Item) → Int → ByteArray → ByteArray → Int → Int → Option (Int × Int × (List (S_Item)))
 | 0, _, _, _, _, _, _, _, _, _, _, _, _, _, _ => none
 | k + 1, x1, x6, x54, x528000, x528001, x528002, x536000, x536001, x536002, x538000, x538001, x538002, x538003, x538004 => if x54 = true then (if x536002.length < 2513169434916 then (spec_RowPack.l0 k x1 (wrap64 (x6 + 1)) x528000 x528001 x528002 x536000 x536001 (x536002 ++ [(⟨x538000, x538001, x538002, x538003, x538004⟩ : S_Item)])) else (none)) else (spec_RowPack.l0 k x1 (wrap64 (x6 + 1)) x528000 x528001 x528002 x536000 x536001 x536002)
end
def spec_RowPack.f (k : Nat) (a0_0 : Int) (a0_1 : Int) (l0_2 : List (S_Item)) (a1 : Int) : Option (Int × Int × (List (S_Item))) := if a1 < 1 then (spec_RowPack.j0 k a1 true a0_0 a0_1 l0_2) else ((spec_RowOk.f k a0_0 a0_1 l0_2).bind fun t529 => (spec_RowPack.j0 k a1 (!t529) a0_0 a0_1 l0_2))
theorem spec_RowPack.mono_l : ∀ k, (∀ y0 y1 y2 y3 y4, LeO (spec_RowPack.j0 k y0 y1 y2 y3 y4) (spec_RowPack.j0 (k + 1) y0 y1 y2 y3 y4)) ∧ (∀ y0 y1 y2 y3, LeO (spec_RowPack.j1 k y0 y1 y2 y3) (spec_RowPack.j1 (k + 1) y0 y1 y2 y3)) ∧ (∀ y0 y1 y2 y3 y4 y5 y6 y7, LeO (spec_RowPack.l0 k y0 y1 y2 y3 y4 y5 y6 y7) (spec_RowPack.l0 (k + 1) y0 y1 y2 y3 y4 y5 y6 y7)) ∧ (∀ y0 y1 y2 y3 y4 y5 y6 y7, LeO (spec_RowPack.j3 k y0 y1 y2 y3 y4 y5 y6 y7) (spec_RowPack.j3 (k + 1) y0 y1 y2 y3 y4 y5 y6 y7)) ∧ (∀ y0 y1 y2 y3 y4 y5 y6 y7 y8 y9 y10 y11 y12 y13, LeO (spec_RowPack.j4 k y0 y1 y2 y3 y4 y5 y6 y7 y8 y9 y10 y11 y12 y13) (spec_RowPack.j4 (k + 1) y0 y1 y2 y3 y4 y5 y6 y7 y8 y9 y10 y11 y12 y13))
 | 0 => ⟨fun _ _ _ _ _ r h => by simp [spec_RowPack.j0] at h, fun _ _ _ _ r h => by simp [spec_RowPack.j1] at h, fun _ _ _ _ _ _ _ _ r h => by simp [spec_RowPack.l0] at h, fun _ _ _ _ _ _ _ _ r h => by simp [spec_RowPack.j3] at h, fun _ _ _ _ _ _ _ _ _ _ _ _ _ _ r h => by simp [spec_RowPack.j4] at h⟩
 | k + 1 => by
  obtain ⟨ih0, ih1, ih2, ih3, ih4⟩ := spec_RowPack.mono_l k
  refine ⟨?_, ?_, ?_, ?_, ?_⟩
  ·
   intro y0 y1 y2 y3 y4
   unfold spec_RowPack.j0
   repeat' first
   | (with_reducible exact ih0 _ _ _ _ _)
   | (with_reducible exact ih1 _ _ _ _)
   | (with_reducible exact ih2 _ _ _ _ _ _ _ _)
   | (with_reducible exact ih3 _ _ _ _ _ _ _ _)
   | (with_reducible exact ih4 _ _ _ _ _ _ _ _ _ _ _ _ _ _)
   | (with_reducible exact spec_RowOk.mono _ _ _ _)
   | (with_reducible exact spec_l3Behind.mono _ _ _ _ _)
   | (with_reducible exact LeO.refl _)
   | (with_reducible exact LeO.none _)
   | (with_reducible refine LeO.ite ?_ ?_)
   | (with_reducible refine LeO.bind ?_ (fun _ => ?_))
   | exact ih0 _ _ _ _ _
   | exact ih1 _ _ _ _
   | exact ih2 _ _ _ _ _ _ _ _
   | exact ih3 _ _ _ _ _ _ _ _
   | exact ih4 _ _ _ _ _ _ _ _ _ _ _ _ _ _
   | exact spec_RowOk.mono _ _ _ _
   | exact spec_l3Behind.mono _ _ _ _ _
   | exact LeO.none _
   | refine LeO.ite ?_ ?_
   | refine LeO.bind ?_ (fun _ => ?_)
  ·
   intro y0 y1 y2 y3
   unfold spec_RowPack.j1
   repeat' first
   | (with_reducible exact ih0 _ _ _ _ _)
   | (with_reducible exact ih1 _ _ _ _)
   | (with_reducible exact ih2 _ _ _ _ _ _ _ _)
   | (with_reducible exact ih3 _ _ _ _ _ _ _ _)
   | (with_reducible exact ih4 _ _ _ _ _ _ _ _ _ _ _ _ _ _)
   | (with_reducible exact spec_RowOk.mono _ _ _ _)
   | (with_reducible exact spec_l3Behind.mono _ _ _ _ _)
   | (with_reducible exact LeO.refl _)
   | (with_reducible exact LeO.none _)
   | (with_reducible refine LeO.ite ?_ ?_)
   | (with_reducible refine LeO.bind ?_ (fun _ => ?_))
   | exact ih0 _ _ _ _ _
   | exact ih1 _ _ _ _
   | exact ih2 _ _ _ _ _ _ _ _
   | exact ih3 _ _ _ _ _ _ _ _
   | exact ih4 _ _ _ _ _ _ _ _ _ _ _ _ _ _
   | exact spec_RowOk.mono _ _ _ _
   | exact spec_l3Behind.mono _ _ _ _ _
   | exact LeO.none _
   | refine LeO.ite ?_ ?_
   | refine LeO.bind ?_ (fun _ => ?_)
  ·
   intro y0 y1 y2 y3 y4 y5 y6 y7
   unfold spec_RowPack.l0
   repeat' first
   | (with_reducible exact ih0 _ _ _ _ _)
   | (with_reducible exact ih1 _ _ _ _)
   | (with_reducible exact ih2 _ _ _ _ _ _ _ _)
   | (with_reducible exact ih3 _ _ _ _ _ _ _ _)
   | (with_reducible exact ih4 _ _ _ _ _ _ _ _ _ _ _ _ _ _)
   | (with_reducible exact spec_RowOk.mono _ _ _ _)
   | (with_reducible exact spec_l3Behind.mono _ _ _ _ _)
   | (with_reducible exact LeO.refl _)
   | (with_reducible exact LeO.none _)
   | (with_reducible refine LeO.ite ?_ ?_)
   | (with_reducible refine LeO.bind ?_ (fun _ => ?_))
   | exact ih0 _ _ _ _ _
   | exact ih1 _ _ _ _
   | exact ih2 _ _ _ _ _ _ _ _
   | exact ih3 _ _ _ _ _ _ _ _
   | exact ih4 _ _ _ _ _ _ _ _ _ _ _ _ _ _
   | exact spec_RowOk.mono _ _ _ _
   | exact spec_l3Behind.mono _ _ _ _ _
   | exact LeO.none _
   | refine LeO.ite ?_ ?_
   | refine LeO.bind ?_ (fun _ => ?_)
  ·
   intro y0 y1 y2 y3 y4 y5 y6 y7
   unfold spec_RowPack.j3
   repeat' first
   | (with_reducible exact ih0 _ _ _ _ _)
   | (with_reducible exact ih1 _ _ _ _)
   | (with_reducible exact ih2 _ _ _ _ _ _ _ _)
   | (with_reducible exact ih3 _ _ _ _ _ _ _ _)
   | (with_reducible exact ih4 _ _ _ _ _ _ _ _ _ _ _ _ _ _)
   | (with_reducible exact spec_RowOk.mono _ _ _ _)
   | (with_reducible exact spec_l3Behind.mono _ _ _ _ _)
   | (with_reducible exact LeO.refl _)
   | (with_reducible exact LeO.none _)
   | (with_reducible refine LeO.ite ?_ ?_)
   | (with_reducible refine LeO.bind ?_ (fun _ => ?_))
   | exact ih0 _ _ _ _ _
   | exact ih1 _ _ _ _
   | exact ih2 _ _ _ _ _ _ _ _
   | exact ih3 _ _ _ _ _ _ _ _
   | exact ih4 _ _ _ _ _ _ _ _ _ _ _ _ _ _
   | exact spec_RowOk.mono _ _ _ _
   | exact spec_l3Behind.mono _ _ _ _ _
   | exact LeO.none _
   | refine LeO.ite ?_ ?_
   | refine LeO.bind ?_ (fun _ => ?_)
  ·
   intro y0 y1 y2 y3 y4 y5 y6 y7 y8 y9 y10 y11 y12 y13
   unfold spec_RowPack.j4
   repeat' first
   | (with_reducible exact ih0 _ _ _ _ _)
   | (with_reducible exact ih1 _ _ _ _)
   | (with_reducible exact ih2 _ _ _ _ _ _ _ _)
   | (with_reducible exact ih3 _ _ _ _ _ _ _ _)
   | (with_reducible exact ih4 _ _ _ _ _ _ _ _ _ _ _ _ _ _)
   | (with_reducible exact spec_RowOk.mono _ _ _ _)
   | (with_reducible exact spec_l3Behind.mono _ _ _ _ _)
   | (with_reducible exact LeO.refl _)
   | (with_reducible exact LeO.none _)
   | (with_reducible refine LeO.ite ?_ ?_)
   | (with_reducible refine LeO.bind ?_ (fun _ => ?_))
   | exact ih0 _ _ _ _ _
   | exact ih1 _ _ _ _
   | exact ih2 _ _ _ _ _ _ _ _
   | exact ih3 _ _ _ _ _ _ _ _
   | exact ih4 _ _ _ _ _ _ _ _ _ _ _ _ _ _
   | exact spec_RowOk.mono _ _ _ _
   | exact spec_l3Behind.mono _ _ _ _ _
   | exact LeO.none _
   | refine LeO.ite ?_ ?_
   | refine LeO.bind ?_ (fun _ => ?_)
theorem spec_RowPack.mono : ∀ a0 a1 a2 a3 k, LeO (spec_RowPack.f k a0 a1 a2 a3) (spec_RowPack.f (k + 1) a0 a1 a2 a3) := by
 intro a0 a1 a2 a3 k
 obtain ⟨ih0, ih1, ih2, ih3, ih4⟩ := spec_RowPack.mono_l k
 unfold spec_RowPack.f
 repeat' first
  | (with_reducible exact ih0 _ _ _ _ _)
  | (with_reducible exact ih1 _ _ _ _)
  | (with_reducible exact ih2 _ _ _ _ _ _ _ _)
  | (with_reducible exact ih3 _ _ _ _ _ _ _ _)
  | (with_reducible exact ih4 _ _ _ _ _ _ _ _ _ _ _ _ _ _)
  | (with_reducible exact spec_RowOk.mono _ _ _ _)
  | (with_reducible exact spec_l3Behind.mono _ _ _ _ _)
  | (with_reducible exact LeO.refl _)
  | (with_reducible exact LeO.none _)
  | (with_reducible refine LeO.ite ?_ ?_)
  | (with_reducible refine LeO.bind ?_ (fun _ => ?_))
  | exact ih0 _ _ _ _ _
  | exact ih1 _ _ _ _
  | exact ih2 _ _ _ _ _ _ _ _
  | exact ih3 _ _ _ _ _ _ _ _
  | exact ih4 _ _ _ _ _ _ _ _ _ _ _ _ _ _
  | exact spec_RowOk.mono _ _ _ _
  | exact spec_l3Behind.mono _ _ _ _ _
  | exact LeO.none _
  | refine LeO.ite ?_ ?_
  | refine LeO.bind ?_ (fun _ => ?_)
def spec_RowPack.T8 : Bool × List (List Nat × List Nat) := (true, [([], []), ([0], [0]), ([1], [1]), ([2], [2]), ([3], [3]), ([3], [3]), ([4, 5, 3, 3], [3, 4, 5]), ([6, 3], [3, 6]), ([3, 7], [3, 7]), ([8, 6], [8]), ([9], [9]), ([10, 9], [9, 10]), ([9], [9]), ([11, 12, 9], [9, 11, 12]), ([9], [9]), ([14, 9], [9, 14]), ([15, 9], [9, 15]), ([9], [9]), ([16, 17, 9], [9, 16, 17]), ([13, 18, 9], [9, 13, 18]), ([9, 19], [9, 19])])
def spec_RowPack.B8 : List Nat := [0, 1, 3, 7, 15, 15, 63, 127, 255, 511, 1023, 2047, 1023, 8191, 1023, 17407, 50175, 1023, 246783, 524287, 1048575]
theorem spec_RowPack.tab8 : rtab .any (opsOf Try.f51 8) = spec_RowPack.T8 := by kernel_rfl
theorem spec_RowPack.bits8 : waitsOk spec_RowPack.T8.2 spec_RowPack.B8 = true := by kernel_rfl
set_option maxHeartbeats 8000000 in
set_option maxRecDepth 100000 in
theorem spec_RowPack.calls (k : Nat) (a0_0 : Int) (a0_1 : Int) (A0_2 : Option Addr) (c0_2 : Nat) (l0_2 : List (S_Item)) (a1 : Int) (r1 : Int) (r2 : Int) (r3 : List (S_Item)) (w : World) (hr0_2 : Kd.C k_Item w A0_2 l0_2.length l0_2) (hc0_2 : l0_2.length ≤ c0_2) (h : spec_RowPack.f k a0_0 a0_1 l0_2 a1 = some (r1, r2, r3)) :
 Calls Try.prog 51 #[.agg #[.int .i64 a0_0, .int .i64 a0_1, .slice A0_2 l0_2.length c0_2], .int .i64 a1] w fun e w' => ∃ v2_ : Value, e = .returned (.agg #[.int .i64 r1, .int .i64 r2, v2_]) ∧ Kd.R k_Item 55 w' w.heap.size (fun _ => True) v2_ r3 ∧ Below w.heap.size w w' := by
 have hu48 := Try.underlying48
 have hu55 := Try.underlying55
 have HR0_2 := Aside0.mk hr0_2
 have HC0_2 := Aside0.mk hc0_2
 clear hr0_2 hc0_2
 have HB := Aside0.mk (Below.refl w.heap.size w)
 have H : (if a1 < 1 then (spec_RowPack.j0 k a1 true a0_0 a0_1 l0_2) else ((spec_RowOk.f k a0_0 a0_1 l0_2).bind fun t529 => (spec_RowPack.j0 k a1 (!t529) a0_0 a0_1 l0_2))) = some (r1, r2, r3) := h
 clear h
 have HC3 := Aside0.mk H
 clear H
 go_enter Try.func51, Try.ntmps51
 go_upto_region 1 with (first | ((with_reducible refine gate_dst (N := 2) rfl ?_); refine box_event ?hg (N := 2) ?hd (cs := #[.int .i64 a0_0, .int .i64 a0_1, .slice A0_2 l0_2.length c0_2]) (t := 48) ?hr ?_; (case hd => rfl); (case hg => rfl); (case hr => first | (go_simp; done) | (go_simp; rfl)); intro gb527 hg w4 hbox hb; have n0_ := Aside0.mk (below_step (hb_ HB.out) hb); have n1_ := Aside0.mk (hbox); have n2_ := Aside0.mk ((by rw [hg]; exact (below_size (hb_ HB.out)) : w.heap.size ≤ gb527)); have n3_ := Aside0.mk ((by rw [hg]; exact (below_size (hb_ HB.out)) : w.heap.size ≤ gb527)); clear HB; have HB := n0_; have BK527 := n1_; have GW527 := n2_; have GE527 := n3_; clear n0_ n1_ n2_ n3_; clear hb hbox hg) | ((with_reducible refine gate_dst (N := 4) rfl ?_); refine box_event ?hg (N := 4) ?hd (cs := #[.int .i64 0, .int .i64 0, .slice none 0 0]) (t := 48) ?hr ?_; (case hd => rfl); (case hg => rfl); (case hr => first | (go_simp; done) | (go_simp; rfl)); intro gb528 hg w5 hbox hb; have n0_ := Aside0.mk (bb_ BK527.out hb); have n1_ := Aside0.mk (below_step (hb_ HB.out) hb); have n2_ := Aside0.mk (hbox); have n3_ := Aside0.mk ((by rw [hg]; exact (below_size (hb_ HB.out)) : w.heap.size ≤ gb528)); have n4_ := Aside0.mk ((by rw [hg]; exact (below_size (hb_ HB.out)) : w.heap.size ≤ gb528)); have n5_ := Aside0.mk ((nl_ BK527.out hg : gb527 ≠ gb528)); have n6_ := Aside0.mk ((ng_ BK527.out hg : gb528 ≠ gb527)); clear BK527; clear HB; have BK527 := n0_; have HB := n1_; have BK528 := n2_; have GW528 := n3_; have GE528 := n4_; have NB527_528 := n5_; have NB528_527 := n6_; clear n0_ n1_ n2_ n3_ n4_ n5_ n6_; clear hb hbox hg))
 (try simp only [Act.put, List.setIfInBounds_toArray, List.set_cons_zero, List.set_cons_succ])
 go_cut [14] (fun v14 wc => ∃ (kq : Nat) (x14_2 : Bool), v14 = .bool x14_2 ∧ Aside0 (spec_RowPack.j0 kq a1 x14_2 a0_0 a0_1 l0_2 = some (r1, r2, r3)) ∧ Aside0 (kq ≤ k) ∧ Aside0 (wc.heap[gb527]? = some (.cells #[.int .i64 a0_0, .int .i64 a0_1, (.slice A0_2 l0_2.length c0_2)] 48 (0, 0))) ∧ Aside0 (wc.heap[gb528]? = some (.cells #[.int .i64 0, .int .i64 0, (.slice none 0 0)] 48 (0, 0))) ∧ Aside0 (Below w.heap.size w wc))
 case first =>
  have H := HC3.out
  clear HC3
  by_cases c6 : a1 < 1
  ·
   rw [if_pos c6] at H
   have c6b0 : decide (a1 < 1) = true := decide_eq_true c6
   clear c6
   (first | rw [c6b0] | (simp only [i64_w, i32_w]; rw [c6b0]) | rw [c6b4] | rw [c6b3] | skip)
   have H' := Aside0.mk H
   clear H
   go_wp2
   go_meet
   case rel => exact ⟨_, (true), (qd4_), H', ⟨qd13_⟩, ⟨bq_ BK527.out⟩, ⟨bq_ BK528.out⟩, ⟨hb_ HB.out⟩⟩
  ·
   rw [if_neg c6] at H
   have c6b0 : decide (a1 < 1) = false := decide_eq_false c6
   clear c6
   (first | rw [c6b0] | (simp only [i64_w, i32_w]; rw [c6b0]) | rw [c6b4] | rw [c6b3] | skip)
   replace H := Option.bind_eq_some_iff.mp H
   obtain ⟨t529, A70, H⟩ := H
   replace H : (spec_RowPack.j0 k a1 (!t529) a0_0 a0_1 l0_2) = some (r1, r2, r3) := H
   have A7 := Aside0.mk A70
   clear A70
   have H' := Aside0.mk H
   clear H
   have hnb8 := NB527_528.out
   have hnc8 := NB528_527.out
   have hcz9_0 : w5.cell? ⟨gb527, 0, none⟩ = some (.int .i64 a0_0) := bc_ BK527 0
   have hcz9_1 : w5.cell? ⟨gb527, 1, none⟩ = some (.int .i64 a0_1) := bc_ BK527 1
   have hcz9_2 : w5.cell? ⟨gb527, 2, none⟩ = some (.slice A0_2 l0_2.length c0_2) := bc_ BK527 2
   have hfz9_0 := blk_frozen BK527.out 0
   have hfz9_1 := blk_frozen BK527.out 1
   have hfz9_2 := blk_frozen BK527.out 2
   go_wp2_with (first | (go_at_call 69; (with_reducible refine (spec_RowOk.calls k a0_0 a0_1 _ _ l0_2 t529 _ ?side1 ?side2 A7.out).mono ?_); (case side1 => repeat (first | exact (Kd.C_below HR0_2.out HB.out) | (with_reducible refine Kd.C_alloc ?_ _) | (with_reducible refine Kd.C_drewN ?_ _) | (with_reducible refine Kd.C_drew ?_))); (case side2 => exact HC0_2.out); rintro e w10 ⟨rfl, hb⟩; have n0_ := Aside0.mk (bb_ BK527.out hb); have n1_ := Aside0.mk (bb_ BK528.out hb); have n2_ := Aside0.mk (below_step (hb_ HB.out) hb); clear BK527; clear BK528; clear HB; have BK527 := n0_; have BK528 := n1_; have HB := n2_; clear n0_ n1_ n2_; (try clear hb); (try clear hb2); (try clear hk); (try clear hi)))
   go_meet
   case rel => exact ⟨_, (!t529), (qd4_), H', ⟨qd13_⟩, ⟨bq_ BK527.out⟩, ⟨bq_ BK528.out⟩, ⟨hb_ HB.out⟩⟩
 case rest =>
  clear HC3
  (try clear p2); (try clear c5); (try clear c6); (try clear c6b0); (try clear c8); (try clear hcz9_0); (try clear hcz9_1); (try clear hcz9_2); (try clear hfz9_0); (try clear hfz9_1); (try clear hfz9_2)
  obtain ⟨kq, x14_2, rfl, HA, HJ2, BK527, BK528, HB⟩ := hcut
  cases kq with
  | zero => exact absurd HA.out (by simp [spec_RowPack.j0])
  | succ kj2 =>
   have H := HA.out
   clear HA
   simp only [spec_RowPack.j0] at H
   have HC11 := Aside0.mk H
   clear H
   go_upto_if 14 with (fail)
   go_cut [] (fun wc => ∃ (kq : Nat) (x529000_10 : Int) (x529001_10 : Int), Aside0 (spec_RowPack.j1 kq a1 a0_0 a0_1 l0_2 = some (r1, r2, r3)) ∧ Aside0 (kq ≤ kj2) ∧ Aside0 (wc.heap[gb527]? = some (.cells #[.int .i64 a0_0, .int .i64 a0_1, (.slice A0_2 l0_2.length c0_2)] 48 (0, 0))) ∧ Aside0 (wc.heap[gb528]? = some (.cells #[.int .i64 x529000_10, .int .i64 x529001_10, (.slice none 0 0)] 48 (0, 0))) ∧ Aside0 (Below w.heap.size w wc))
   case first =>
    have H := HC11.out
    clear HC11
    by_cases c12 : x14_2 = true
    ·
     subst c12
     have H1 : ((spec_l3Copy.f a0_0 a0_1 l0_2).bind fun bt530 => (some (bt530.1, bt530.2.1, bt530.2.2))) = some (r1, r2, r3) := by rw [if_pos rfl] at H; exact H
     clear H
     have H := H1
     clear H1
     replace H := Option.bind_eq_some_iff.mp H
     obtain ⟨⟨t530, t531, t532⟩, A130, H⟩ := H
     replace H : (some (t530, t531, t532)) = some (r1, r2, r3) := H
     have A13 := Aside0.mk A130
     clear A130
     simp only [Option.some.injEq, Prod.mk.injEq] at H
     obtain ⟨rfl, rfl, rfl⟩ := H
     have hnb14 := NB527_528.out
     have hnc14 := NB528_527.out
     have hcz15_0 : wc.cell? ⟨gb527, 0, none⟩ = some (.int .i64 a0_0) := bc_ BK527 0
     have hcz15_1 : wc.cell? ⟨gb527, 1, none⟩ = some (.int .i64 a0_1) := bc_ BK527 1
     have hcz15_2 : wc.cell? ⟨gb527, 2, none⟩ = some (.slice A0_2 l0_2.length c0_2) := bc_ BK527 2
     have hfz15_0 := blk_frozen BK527.out 0
     have hfz15_1 := blk_frozen BK527.out 1
     have hfz15_2 := blk_frozen BK527.out 2
     go_wp2_with (first | ((with_reducible refine gate_callee (f := 68) rfl ?_); refine goesL_ (some 16) rfl rfl Try.func68 (by kernel_rfl) rfl #[.agg #[.int .i64 a0_0, .int .i64 a0_1, .slice A0_2 l0_2.length c0_2]] rfl sm_ ?_; (with_reducible refine (spec_l3Copy.calls a0_0 a0_1 _ _ l0_2 t530 t531 t532 _ ?side1 ?side2 A13.out).mono ?_); (case side1 => repeat (first | exact (Kd.C_below HR0_2.out HB.out) | (with_reducible refine Kd.C_alloc ?_ _) | (with_reducible refine Kd.C_drewN ?_ _) | (with_reducible refine Kd.C_drew ?_))); (case side2 => exact HC0_2.out); rintro e w16 ⟨v533, rfl, ho0, hb⟩; refine ⟨_, rfl, ?_⟩; have n0_ := Aside0.mk (Kd.R_lower ho0 (below_size (hb_ HB.out))); have n1_ := Aside0.mk (bb_ BK527.out hb); have n2_ := Aside0.mk (bb_ BK528.out hb); have n3_ := Aside0.mk (below_step (hb_ HB.out) hb); clear BK527; clear BK528; clear HB; have HO534 := n0_; have BK527 := n1_; have BK528 := n2_; have HB := n3_; clear n0_ n1_ n2_ n3_; (try clear hb); (try clear hb2); (try clear hk); (try clear hi); (try clear ho0); have hcz17_0 : w16.cell? ⟨gb528, 0, none⟩ = some (.int .i64 0) := bc_ BK528 0; have hcz17_1 : w16.cell? ⟨gb528, 1, none⟩ = some (.int .i64 0) := bc_ BK528 1; have hcz17_2 : w16.cell? ⟨gb528, 2, none⟩ = some (.slice none 0 0) := bc_ BK528 2; have hfz17_0 := blk_frozen BK528.out 0; have hfz17_1 := blk_frozen BK528.out 1; have hfz17_2 := blk_frozen BK528.out 2; obtain ⟨Ao18, co18, eo18⟩ := Kd.R_slice HO534.out; subst eo18))
     refine bodyPost_ret (results_cell_row rfl _ _ gb528 48 #[.int .i64 t530, .int .i64 t531, .slice Ao18 t532.length co18] (0, 0) _ rfl (bp_ BK528.out) Try.underlying48 rfl (by kernel_rfl)) rfl ?_
     exact ⟨_, er_, by (with_reducible repeat (first | apply Kd.R_alloc | apply Kd.R_drewN | apply Kd.R_drew)); exact Kd.R_mono (Kd.R_far (p := ⟨gb528, 2, none⟩) (Kd.R_far (p := ⟨gb528, 1, none⟩) (Kd.R_far (p := ⟨gb528, 0, none⟩) (Kd.R_types HO534.out BK528.out (by decide)) (fun _ hk => hk.2) (.int .i64 t530)) (fun _ hk => hk.2) (.int .i64 t531)) (fun _ hk => hk.2) (.slice Ao18 t532.length co18)) (fun _ hk => trivial), hb_ HB.out⟩
    ·
     replace c12 := Bool.eq_false_iff.mpr c12
     subst c12
     have H1 : (spec_RowPack.j1 kj2 a1 a0_0 a0_1 l0_2) = some (r1, r2, r3) := by rw [if_neg (show ¬ (false = true) by decide)] at H; exact H
     clear H
     have H := H1
     clear H1
     have H' := Aside0.mk H
     clear H
     go_wp2
     go_meet
     case rel => exact ⟨_, (0), (0), H', ⟨by have := HJ2.out; first | omega | exact Nat.le_refl _⟩, ⟨bq_ BK527.out⟩, ⟨bq_ BK528.out⟩, ⟨hb_ HB.out⟩⟩
   case rest =>
    clear HC11
    (try clear c1); (try clear p2); (try clear c5); (try clear c6); (try clear c6b0); (try clear c8); (try clear c12); (try clear c14); (try clear hcz15_0); (try clear hcz15_1); (try clear hcz15_2); (try clear hcz17_0); (try clear hcz17_1); (try clear hcz17_2); (try clear hcz9_0); (try clear hcz9_1); (try clear hcz9_2); (try clear hfz15_0); (try clear hfz15_1); (try clear hfz15_2); (try clear hfz17_0); (try clear hfz17_1); (try clear hfz17_2); (try clear hfz9_0); (try clear hfz9_1); (try clear hfz9_2); (try clear p2)
    obtain ⟨kq, x529000_10, x529001_10, HA, HJ10, BK527, BK528, HB⟩ := hcut
    cases kq with
    | zero => exact absurd HA.out (by simp [spec_RowPack.j1])
    | succ kj10 =>
     have H := HA.out
     clear HA
     simp only [spec_RowPack.j1] at H
     have H' := Aside0.mk H
     clear H
     have hnb19 := NB527_528.out
     have hnc19 := NB528_527.out
     have hcz20_0 : wc.cell? ⟨gb527, 0, none⟩ = some (.int .i64 a0_0) := bc_ BK527 0
     have hcz20_1 : wc.cell? ⟨gb527, 1, none⟩ = some (.int .i64 a0_1) := bc_ BK527 1
     have hcz20_2 : wc.cell? ⟨gb527, 2, none⟩ = some (.slice A0_2 l0_2.length c0_2) := bc_ BK527 2
     have hfz20_0 := blk_frozen BK527.out 0
     have hfz20_1 := blk_frozen BK527.out 1
     have hfz20_2 := blk_frozen BK527.out 2
     go_wp2_with (first | ((with_reducible refine gate_dst (N := 5) rfl ?_); refine box_event ?hg (N := 5) ?hd (cs := #[.int .i64 0, .int .i64 0, .slice none 0 0]) (t := 48) ?hr ?_; (case hd => rfl); (case hg => rfl); (case hr => first | (go_simp; done) | (go_simp; rfl)); intro gb535 hg w21 hbox hb; have n0_ := Aside0.mk (bb_ BK527.out hb); have n1_ := Aside0.mk (bb_ BK528.out hb); have n2_ := Aside0.mk (below_step (hb_ HB.out) hb); have n3_ := Aside0.mk (hbox); have n4_ := Aside0.mk ((by rw [hg]; exact (below_size (hb_ HB.out)) : w.heap.size ≤ gb535)); have n5_ := Aside0.mk ((by rw [hg]; exact (below_size (hb_ HB.out)) : w.heap.size ≤ gb535)); have n6_ := Aside0.mk ((nl_ BK527.out hg : gb527 ≠ gb535)); have n7_ := Aside0.mk ((ng_ BK527.out hg : gb535 ≠ gb527)); have n8_ := Aside0.mk ((nl_ BK528.out hg : gb528 ≠ gb535)); have n9_ := Aside0.mk ((ng_ BK528.out hg : gb535 ≠ gb528)); clear BK527; clear BK528; clear HB; have BK527 := n0_; have BK528 := n1_; have HB := n2_; have BK535 := n3_; have GW535 := n4_; have GE535 := n5_; have NB527_535 := n6_; have NB535_527 := n7_; have NB528_535 := n8_; have NB535_528 := n9_; clear n0_ n1_ n2_ n3_ n4_ n5_ n6_ n7_ n8_ n9_; clear hb hbox hg; have hnb22 := NB535_527.out; have hnc22 := NB527_535.out; have hnb23 := NB535_528.out; have hnc23 := NB528_535.out; have hcz24_0 : w21.cell? ⟨gb535, 0, none⟩ = some (.int .i64 0) := bc_ BK535 0; have hcz24_1 : w21.cell? ⟨gb535, 1, none⟩ = some (.int .i64 0) := bc_ BK535 1; have hcz24_2 : w21.cell? ⟨gb535, 2, none⟩ = some (.slice none 0 0) := bc_ BK535 2; have hfz24_0 := blk_frozen BK535.out 0; have hfz24_1 := blk_frozen BK535.out 1; have hfz24_2 := blk_frozen BK535.out 2))
     go_loopg [6] kj10 (fun kq v6 w' => ∃ (x6_3 : Int) (x536002_3 : List (S_Item)) (u536002 : Value), v6 = .int .i64 x6_3 ∧ Aside0 (spec_RowPack.l0 kq a1 x6_3 a0_0 a0_1 l0_2 a0_0 a0_1 x536002_3 = some (r1, r2, r3)) ∧ Aside0 (kq ≤ kj10) ∧ Aside0 (Kd.R k_Item 55 w' w.heap.size (fun _ => True) u536002 x536002_3) ∧ Aside0 (w'.heap[gb527]? = some (.cells #[.int .i64 a0_0, .int .i64 a0_1, (.slice A0_2 l0_2.length c0_2)] 48 (0, 0))) ∧ Aside0 (w'.heap[gb528]? = some (.cells #[.int .i64 x529000_10, .int .i64 x529001_10, (.slice none 0 0)] 48 (0, 0))) ∧ Aside0 (w'.heap[gb535]? = some (.cells #[.int .i64 a0_0, .int .i64 a0_1, u536002] 48 (0, 0))) ∧ Aside0 (Below w.heap.size w w'))
     case atStart => exact ⟨(0), (([] : List (S_Item))), (.slice none 0 0), (qd4_), H', ⟨Nat.le_refl _⟩, ⟨by first | exact Kd.R_nil _ _ _ _ _ | exact Kd.N_nil _ _ _ _ _ | exact Kd.V_nil _ _ _ _ _ | exact Kd.Q_nil _ _ _ _ _ | exact Kd.S_nil _ _ _ _ _⟩, ⟨bf_ NB527_535.out BK527.out⟩, ⟨bf_ NB528_535.out BK528.out⟩, ⟨bp_ BK535.out⟩, ⟨hb_ HB.out⟩⟩
     case round =>
      clear H'
      (try clear c1); (try clear c2); (try clear p2); (try clear c5); (try clear c6); (try clear c6b0); (try clear c8); (try clear c12); (try clear c14); (try clear c19); (try clear c22); (try clear c23); (try clear hcz15_0); (try clear hcz15_1); (try clear hcz15_2); (try clear hcz17_0); (try clear hcz17_1); (try clear hcz17_2); (try clear hcz20_0); (try clear hcz20_1); (try clear hcz20_2); (try clear hcz24_0); (try clear hcz24_1); (try clear hcz24_2); (try clear hcz9_0); (try clear hcz9_1); (try clear hcz9_2); (try clear hfz15_0); (try clear hfz15_1); (try clear hfz15_2); (try clear hfz17_0); (try clear hfz17_1); (try clear hfz17_2); (try clear hfz20_0); (try clear hfz20_1); (try clear hfz20_2); (try clear hfz24_0); (try clear hfz24_1); (try clear hfz24_2); (try clear hfz9_0); (try clear hfz9_1); (try clear hfz9_2); (try clear p2)
      obtain ⟨x6_3, x536002_3, u536002, rfl, HA, HK3, HO_536002, BK527, BK528, BK535, HB⟩ := hrel
      cases gk with
      | zero => exact absurd HA.out (by simp [spec_RowPack.l0])
      | succ k3 =>
       have H := HA.out
       clear HA
       simp only [spec_RowPack.l0] at H
       have HC25 := Aside0.mk H
       clear H
       have hnb26 := NB527_528.out
       have hnc26 := NB528_527.out
       have hnb27 := NB527_535.out
       have hnc27 := NB535_527.out
       have hcz28_0 : wr.cell? ⟨gb527, 0, none⟩ = some (.int .i64 a0_0) := bc_ BK527 0
       have hcz28_1 : wr.cell? ⟨gb527, 1, none⟩ = some (.int .i64 a0_1) := bc_ BK527 1
       have hcz28_2 : wr.cell? ⟨gb527, 2, none⟩ = some (.slice A0_2 l0_2.length c0_2) := bc_ BK527 2
       have hfz28_0 := blk_frozen BK527.out 0
       have hfz28_1 := blk_frozen BK527.out 1
       have hfz28_2 := blk_frozen BK527.out 2
       go_upto_if 26 with (fail)
       go_cut [] (fun wc => ∃ (kq : Nat), Aside0 (spec_RowPack.j3 kq a1 x6_3 a0_0 a0_1 l0_2 a0_0 a0_1 x536002_3 = some (r1, r2, r3)) ∧ Aside0 (kq ≤ k3) ∧ Aside0 (Kd.R k_Item 55 wc w.heap.size (fun _ => True) u536002 x536002_3) ∧ Aside0 (wc.heap[gb527]? = some (.cells #[.int .i64 a0_0, .int .i64 a0_1, (.slice A0_2 l0_2.length c0_2)] 48 (0, 0))) ∧ Aside0 (wc.heap[gb528]? = some (.cells #[.int .i64 x529000_10, .int .i64 x529001_10, (.slice none 0 0)] 48 (0, 0))) ∧ Aside0 (wc.heap[gb535]? = some (.cells #[.int .i64 a0_0, .int .i64 a0_1, u536002] 48 (0, 0))) ∧ Aside0 (Below w.heap.size w wc))
       case first =>
        have H := HC25.out
        clear HC25
        by_cases c29 : x6_3 < (l0_2.length : Int)
        ·
         rw [if_pos c29] at H
         have c29b0 : decide (x6_3 < (l0_2.length : Int)) = true := decide_eq_true c29
         clear c29
         (first | rw [c29b0] | (simp only [i64_w, i32_w]; rw [c29b0]) | rw [c29b4] | rw [c29b3] | skip)
         have H' := Aside0.mk H
         clear H
         go_wp2
         go_meet
         case rel => exact ⟨_, H', ⟨by have := HJ2.out; have := HJ10.out; have := HK3.out; first | omega | exact Nat.le_refl _⟩, ⟨rq_ HO_536002.out⟩, ⟨bq_ BK527.out⟩, ⟨bq_ BK528.out⟩, ⟨bq_ BK535.out⟩, ⟨hb_ HB.out⟩⟩
        ·
         rw [if_neg c29] at H
         have c29b0 : decide (x6_3 < (l0_2.length : Int)) = false := decide_eq_false c29
         clear c29
         (first | rw [c29b0] | (simp only [i64_w, i32_w]; rw [c29b0]) | rw [c29b4] | rw [c29b3] | skip)
         simp only [Option.some.injEq, Prod.mk.injEq] at H
         obtain ⟨rfl, rfl, rfl⟩ := H
         have hnb30 := NB535_527.out
         have hnc30 := NB527_535.out
         have hnb31 := NB535_528.out
         have hnc31 := NB528_535.out
         have hcz32_0 : wr.cell? ⟨gb535, 0, none⟩ = some (.int .i64 a0_0) := bc_ BK535 0
         have hcz32_1 : wr.cell? ⟨gb535, 1, none⟩ = some (.int .i64 a0_1) := bc_ BK535 1
         have hcz32_2 : wr.cell? ⟨gb535, 2, none⟩ = some (u536002) := bc_ BK535 2
         have hfz32_0 := blk_frozen BK535.out 0
         have hfz32_1 := blk_frozen BK535.out 1
         have hfz32_2 := blk_frozen BK535.out 2
         have hnb33 := NB528_527.out
         have hnc33 := NB527_528.out
         have hcz34_0 : wr.cell? ⟨gb528, 0, none⟩ = some (.int .i64 x529000_10) := bc_ BK528 0
         have hcz34_1 : wr.cell? ⟨gb528, 1, none⟩ = some (.int .i64 x529001_10) := bc_ BK528 1
         have hcz34_2 : wr.cell? ⟨gb528, 2, none⟩ = some (.slice none 0 0) := bc_ BK528 2
         have hfz34_0 := blk_frozen BK528.out 0
         have hfz34_1 := blk_frozen BK528.out 1
         have hfz34_2 := blk_frozen BK528.out 2
         obtain ⟨Ao35, co35, eo35⟩ := Kd.R_slice HO_536002.out
         subst eo35
         go_wp2
         refine bodyPost_ret (results_cell_row rfl _ _ gb528 48 #[.int .i64 a0_0, .int .i64 a0_1, .slice Ao35 x536002_3.length co35] (0, 0) _ rfl (bp_ BK528.out) Try.underlying48 rfl (by kernel_rfl)) rfl ?_
         exact ⟨_, er_, by (with_reducible repeat (first | apply Kd.R_alloc | apply Kd.R_drewN | apply Kd.R_drew)); exact Kd.R_mono (Kd.R_far (p := ⟨gb528, 2, none⟩) (Kd.R_far (p := ⟨gb528, 1, none⟩) (Kd.R_far (p := ⟨gb528, 0, none⟩) (Kd.R_types HO_536002.out BK528.out (by decide)) (fun _ hk => hk.2) (.int .i64 a0_0)) (fun _ hk => hk.2) (.int .i64 a0_1)) (fun _ hk => hk.2) (.slice Ao35 x536002_3.length co35)) (fun _ hk => trivial), hb_ HB.out⟩
       case rest =>
        clear HC25
        (try clear c1); (try clear c2); (try clear p2); (try clear c3); (try clear c5); (try clear c6); (try clear c6b0); (try clear c8); (try clear c12); (try clear c14); (try clear c19); (try clear c22); (try clear c23); (try clear c26); (try clear c27); (try clear c29); (try clear c29b0); (try clear c30); (try clear c31); (try clear c33); (try clear hcz15_0); (try clear hcz15_1); (try clear hcz15_2); (try clear hcz17_0); (try clear hcz17_1); (try clear hcz17_2); (try clear hcz20_0); (try clear hcz20_1); (try clear hcz20_2); (try clear hcz24_0); (try clear hcz24_1); (try clear hcz24_2); (try clear hcz28_0); (try clear hcz28_1); (try clear hcz28_2); (try clear hcz32_0); (try clear hcz32_1); (try clear hcz32_2); (try clear hcz34_0); (try clear hcz34_1); (try clear hcz34_2); (try clear hcz9_0); (try clear hcz9_1); (try clear hcz9_2); (try clear hfz15_0); (try clear hfz15_1); (try clear hfz15_2); (try clear hfz17_0); (try clear hfz17_1); (try clear hfz17_2); (try clear hfz20_0); (try clear hfz20_1); (try clear hfz20_2); (try clear hfz24_0); (try clear hfz24_1); (try clear hfz24_2); (try clear hfz28_0); (try clear hfz28_1); (try clear hfz28_2); (try clear hfz32_0); (try clear hfz32_1); (try clear hfz32_2); (try clear hfz34_0); (try clear hfz34_1); (try clear hfz34_2); (try clear hfz9_0); (try clear hfz9_1); (try clear hfz9_2); (try clear p2)
        obtain ⟨kq, HA, HJ24, HO_536002, BK527, BK528, BK535, HB⟩ := hcut
        cases kq with
        | zero => exact absurd HA.out (by simp [spec_RowPack.j3])
        | succ kj24 =>
         have H := HA.out
         clear HA
         simp only [spec_RowPack.j3] at H
         by_cases c36 : 0 ≤ x6_3
         ·
          rw [if_pos c36] at H
          have c36b0 : decide (0 ≤ x6_3) = true := decide_eq_true c36
          clear c36
          by_cases c37 : x6_3 < (l0_2.length : Int)
          ·
           rw [if_pos c37] at H
           have c37b0 : decide (x6_3 < (l0_2.length : Int)) = true := decide_eq_true c37
           clear c37
           have HC38 := Aside0.mk H
           clear H
           have hnb39 := NB527_528.out
           have hnc39 := NB528_527.out
           have hnb40 := NB527_535.out
           have hnc40 := NB535_527.out
           have hcz41_0 : wc.cell? ⟨gb527, 0, none⟩ = some (.int .i64 a0_0) := bc_ BK527 0
           have hcz41_1 : wc.cell? ⟨gb527, 1, none⟩ = some (.int .i64 a0_1) := bc_ BK527 1
           have hcz41_2 : wc.cell? ⟨gb527, 2, none⟩ = some (.slice A0_2 l0_2.length c0_2) := bc_ BK527 2
           have hfz41_0 := blk_frozen BK527.out 0
           have hfz41_1 := blk_frozen BK527.out 1
           have hfz41_2 := blk_frozen BK527.out 2
           have p536 : 0 ≤ (x6_3 : Int) := of_decide_eq_true dt_
           have q536 : x6_3 < (l0_2.length : Int) := of_decide_eq_true dt_
           obtain ⟨ad536, e536, hx536_0, hx536_1, hx536_2, hx536_3, hx536_4⟩ := at_Item HR0_2.out x6_3 p536 q536
           cases e536
           replace hx536_0 := hc_ HB hx536_0
           replace hx536_1 := hc_ HB hx536_1
           replace hx536_2 := hc_ HB hx536_2
           replace hx536_3 := hc_ HB hx536_3
           replace hx536_4 := hc_ HB hx536_4
           replace p536 := eq_true p536
           replace q536 := eq_true q536
           go_upto_region 8 with (first | ((with_reducible refine gate_dst (N := 7) rfl ?_); refine box_event ?hg (N := 7) ?hd (cs := #[.int .i64 0, .string (⟨#[]⟩ : ByteArray), .string (⟨#[]⟩ : ByteArray), .int .i64 0, .int .i64 0]) (t := 55) ?hr ?_; (case hd => rfl); (case hg => rfl); (case hr => first | (go_simp; done) | (go_simp; rfl)); intro gb537 hg w42 hbox hb; have n0_ := Aside0.mk (Kd.R_below (Kd.R_elderB (rq_ HO_536002.out) gb537 (Nat.le_of_eq hg.symm)) hb); have n1_ := Aside0.mk (bb_ BK527.out hb); have n2_ := Aside0.mk (bb_ BK528.out hb); have n3_ := Aside0.mk (bb_ BK535.out hb); have n4_ := Aside0.mk (below_step (hb_ HB.out) hb); have n5_ := Aside0.mk (hbox); have n6_ := Aside0.mk ((by rw [hg]; exact (below_size (hb_ HB.out)) : w.heap.size ≤ gb537)); have n7_ := Aside0.mk ((by rw [hg]; exact (below_size (hb_ HB.out)) : w.heap.size ≤ gb537)); have n8_ := Aside0.mk ((nl_ BK527.out hg : gb527 ≠ gb537)); have n9_ := Aside0.mk ((ng_ BK527.out hg : gb537 ≠ gb527)); have n10_ := Aside0.mk ((nl_ BK528.out hg : gb528 ≠ gb537)); have n11_ := Aside0.mk ((ng_ BK528.out hg : gb537 ≠ gb528)); have n12_ := Aside0.mk ((nl_ BK535.out hg : gb535 ≠ gb537)); have n13_ := Aside0.mk ((ng_ BK535.out hg : gb537 ≠ gb535)); clear HO_536002; clear BK527; clear BK528; clear BK535; clear HB; have HO_536002 := n0_; have BK527 := n1_; have BK528 := n2_; have BK535 := n3_; have HB := n4_; have BK537 := n5_; have GW537 := n6_; have GE537 := n7_; have NB527_537 := n8_; have NB537_527 := n9_; have NB528_537 := n10_; have NB537_528 := n11_; have NB535_537 := n12_; have NB537_535 := n13_; clear n0_ n1_ n2_ n3_ n4_ n5_ n6_ n7_ n8_ n9_ n10_ n11_ n12_ n13_; clear hb hbox hg; have hnb43 := NB537_527.out; have hnc43 := NB527_537.out; have hnb44 := NB537_528.out; have hnc44 := NB528_537.out; have hnb45 := NB537_535.out; have hnc45 := NB535_537.out; have hcz46_0 : w42.cell? ⟨gb537, 0, none⟩ = some (.int .i64 0) := bc_ BK537 0; have hcz46_1 : w42.cell? ⟨gb537, 1, none⟩ = some (.string (⟨#[]⟩ : ByteArray)) := bc_ BK537 1; have hcz46_2 : w42.cell? ⟨gb537, 2, none⟩ = some (.string (⟨#[]⟩ : ByteArray)) := bc_ BK537 2; have hcz46_3 : w42.cell? ⟨gb537, 3, none⟩ = some (.int .i64 0) := bc_ BK537 3; have hcz46_4 : w42.cell? ⟨gb537, 4, none⟩ = some (.int .i64 0) := bc_ BK537 4; have hfz46_0 := blk_frozen BK537.out 0; have hfz46_1 := blk_frozen BK537.out 1; have hfz46_2 := blk_frozen BK537.out 2; have hfz46_3 := blk_frozen BK537.out 3; have hfz46_4 := blk_frozen BK537.out 4))
           (try simp only [Act.put, List.setIfInBounds_toArray, List.set_cons_zero, List.set_cons_succ])
           go_cut [54] (fun v54 wc => ∃ (kq : Nat) (x54_37 : Bool), v54 = .bool x54_37 ∧ Aside0 (spec_RowPack.j4 kq a1 x6_3 x54_37 a0_0 a0_1 l0_2 a0_0 a0_1 x536002_3 ((rd_Item l0_2 x6_3).f0) ((rd_Item l0_2 x6_3).f1) ((rd_Item l0_2 x6_3).f2) ((rd_Item l0_2 x6_3).f3) ((rd_Item l0_2 x6_3).f4) = some (r1, r2, r3)) ∧ Aside0 (kq ≤ kj24) ∧ Aside0 (Kd.R k_Item 55 wc w.heap.size (fun k_ => k_ ≠ gb537) u536002 x536002_3) ∧ Aside0 (wc.heap[gb527]? = some (.cells #[.int .i64 a0_0, .int .i64 a0_1, (.slice (some ad536) l0_2.length c0_2)] 48 (0, 0))) ∧ Aside0 (wc.heap[gb528]? = some (.cells #[.int .i64 x529000_10, .int .i64 x529001_10, (.slice none 0 0)] 48 (0, 0))) ∧ Aside0 (wc.heap[gb535]? = some (.cells #[.int .i64 a0_0, .int .i64 a0_1, u536002] 48 (0, 0))) ∧ Aside0 (wc.heap[gb537]? = some (.cells #[.int .i64 ((rd_Item l0_2 x6_3).f0), .string ((rd_Item l0_2 x6_3).f1), .string ((rd_Item l0_2 x6_3).f2), .int .i64 ((rd_Item l0_2 x6_3).f3), .int .i64 ((rd_Item l0_2 x6_3).f4)] 55 (0, 0))) ∧ Aside0 (Below w.heap.size w wc))
           case first =>
            have H := HC38.out
            clear HC38
            by_cases c47 : ((rd_Item l0_2 x6_3).f1).toList = ([] : List UInt8)
            ·
             rw [if_pos c47] at H
             have c47b0 : (((rd_Item l0_2 x6_3).f1).toList == ([] : List UInt8)) = true := beq_iff_eq.mpr c47
             have c47b1 : (((rd_Item l0_2 x6_3).f1).toList != ([] : List UInt8)) = false := bne_eq_false_iff_eq.mpr c47
             clear c47
             (first | rw [c47b0] | (simp only [i64_w, i32_w]; rw [c47b0]) | rw [c47b4] | rw [c47b3] | skip)
             have H' := Aside0.mk H
             clear H
             try go_wp2
             have n0_ : Aside0 (Kd.R k_Item 55 (((((w42.setCell ⟨gb537, 0, none⟩ (.int .i64 ((rd_Item l0_2 x6_3).f0))).setCell ⟨gb537, 1, none⟩ (.string ((rd_Item l0_2 x6_3).f1))).setCell ⟨gb537, 2, none⟩ (.string ((rd_Item l0_2 x6_3).f2))).setCell ⟨gb537, 3, none⟩ (.int .i64 ((rd_Item l0_2 x6_3).f3))).setCell ⟨gb537, 4, none⟩ (.int .i64 ((rd_Item l0_2 x6_3).f4))) w.heap.size (fun k_ => k_ ≠ gb537) u536002 x536002_3) := ⟨qd1_⟩
             have n1_ : Aside0 ((((((w42.setCell ⟨gb537, 0, none⟩ (.int .i64 ((rd_Item l0_2 x6_3).f0))).setCell ⟨gb537, 1, none⟩ (.string ((rd_Item l0_2 x6_3).f1))).setCell ⟨gb537, 2, none⟩ (.string ((rd_Item l0_2 x6_3).f2))).setCell ⟨gb537, 3, none⟩ (.int .i64 ((rd_Item l0_2 x6_3).f3))).setCell ⟨gb537, 4, none⟩ (.int .i64 ((rd_Item l0_2 x6_3).f4))).heap[gb527]? = some (.cells #[.int .i64 a0_0, .int .i64 a0_1, .slice (some ad536) l0_2.length c0_2] 48 (0, 0))) := ⟨bf_ NB527_537.out BK527.out⟩
             have n2_ : Aside0 ((((((w42.setCell ⟨gb537, 0, none⟩ (.int .i64 ((rd_Item l0_2 x6_3).f0))).setCell ⟨gb537, 1, none⟩ (.string ((rd_Item l0_2 x6_3).f1))).setCell ⟨gb537, 2, none⟩ (.string ((rd_Item l0_2 x6_3).f2))).setCell ⟨gb537, 3, none⟩ (.int .i64 ((rd_Item l0_2 x6_3).f3))).setCell ⟨gb537, 4, none⟩ (.int .i64 ((rd_Item l0_2 x6_3).f4))).heap[gb528]? = some (.cells #[.int .i64 x529000_10, .int .i64 x529001_10, .slice none 0 0] 48 (0, 0))) := ⟨bf_ NB528_537.out BK528.out⟩
             have n3_ : Aside0 ((((((w42.setCell ⟨gb537, 0, none⟩ (.int .i64 ((rd_Item l0_2 x6_3).f0))).setCell ⟨gb537, 1, none⟩ (.string ((rd_Item l0_2 x6_3).f1))).setCell ⟨gb537, 2, none⟩ (.string ((rd_Item l0_2 x6_3).f2))).setCell ⟨gb537, 3, none⟩ (.int .i64 ((rd_Item l0_2 x6_3).f3))).setCell ⟨gb537, 4, none⟩ (.int .i64 ((rd_Item l0_2 x6_3).f4))).heap[gb535]? = some (.cells #[.int .i64 a0_0, .int .i64 a0_1, u536002] 48 (0, 0))) := ⟨bf_ NB535_537.out BK535.out⟩
             have n4_ : Aside0 ((((((w42.setCell ⟨gb537, 0, none⟩ (.int .i64 ((rd_Item l0_2 x6_3).f0))).setCell ⟨gb537, 1, none⟩ (.string ((rd_Item l0_2 x6_3).f1))).setCell ⟨gb537, 2, none⟩ (.string ((rd_Item l0_2 x6_3).f2))).setCell ⟨gb537, 3, none⟩ (.int .i64 ((rd_Item l0_2 x6_3).f3))).setCell ⟨gb537, 4, none⟩ (.int .i64 ((rd_Item l0_2 x6_3).f4))).heap[gb537]? = some (.cells #[.int .i64 ((rd_Item l0_2 x6_3).f0), .string ((rd_Item l0_2 x6_3).f1), .string ((rd_Item l0_2 x6_3).f2), .int .i64 ((rd_Item l0_2 x6_3).f3), .int .i64 ((rd_Item l0_2 x6_3).f4)] 55 (0, 0))) := ⟨bp_ BK537.out⟩
             have n5_ : Aside0 (Below w.heap.size w (((((w42.setCell ⟨gb537, 0, none⟩ (.int .i64 ((rd_Item l0_2 x6_3).f0))).setCell ⟨gb537, 1, none⟩ (.string ((rd_Item l0_2 x6_3).f1))).setCell ⟨gb537, 2, none⟩ (.string ((rd_Item l0_2 x6_3).f2))).setCell ⟨gb537, 3, none⟩ (.int .i64 ((rd_Item l0_2 x6_3).f3))).setCell ⟨gb537, 4, none⟩ (.int .i64 ((rd_Item l0_2 x6_3).f4)))) := ⟨hb_ HB.out⟩
             (try clear HO_536002)
             (try clear BK527)
             (try clear BK528)
             (try clear BK535)
             (try clear BK537)
             (try clear HB)
             generalize (((((w42.setCell ⟨gb537, 0, none⟩ (.int .i64 ((rd_Item l0_2 x6_3).f0))).setCell ⟨gb537, 1, none⟩ (.string ((rd_Item l0_2 x6_3).f1))).setCell ⟨gb537, 2, none⟩ (.string ((rd_Item l0_2 x6_3).f2))).setCell ⟨gb537, 3, none⟩ (.int .i64 ((rd_Item l0_2 x6_3).f3))).setCell ⟨gb537, 4, none⟩ (.int .i64 ((rd_Item l0_2 x6_3).f4))) = w48 at n0_ n1_ n2_ n3_ n4_ n5_ ⊢
             have HO_536002 := n0_
             have BK527 := n1_
             have BK528 := n2_
             have BK535 := n3_
             have BK537 := n4_
             have HB := n5_
             clear n0_ n1_ n2_ n3_ n4_ n5_
             have n0_ := Aside0.mk (Kd.R_drew HO_536002.out)
             have n1_ := Aside0.mk (blk_drew BK527.out)
             have n2_ := Aside0.mk (blk_drew BK528.out)
             have n3_ := Aside0.mk (blk_drew BK535.out)
             have n4_ := Aside0.mk (blk_drew BK537.out)
             have n5_ := Aside0.mk (below_drew1 HB.out)
             clear HO_536002; clear BK527
             clear BK528; clear BK535
             clear BK537; clear HB
             have HO_536002 := n0_
             have BK527 := n1_
             have BK528 := n2_
             have BK535 := n3_
             have BK537 := n4_
             have HB := n5_
             clear n0_ n1_ n2_ n3_ n4_ n5_
             refine start_ (n := 21) (S := fun w' => w'.cell? ⟨gb537, 0, none⟩ = some (.int .i64 ((rd_Item l0_2 x6_3).f0)) ∧ w'.cell? ⟨gb537, 1, none⟩ = some (.string ((rd_Item l0_2 x6_3).f1)) ∧ w'.cell? ⟨gb537, 2, none⟩ = some (.string ((rd_Item l0_2 x6_3).f2)) ∧ w'.cell? ⟨gb537, 3, none⟩ = some (.int .i64 ((rd_Item l0_2 x6_3).f3)) ∧ w'.cell? ⟨gb537, 4, none⟩ = some (.int .i64 ((rd_Item l0_2 x6_3).f4))) (ds := []) spec_RowPack.m0 (by kernel_rfl) rfl rfl ⟨bc_ BK537 0, bc_ BK537 1, bc_ BK537 2, bc_ BK537 3, bc_ BK537 4⟩ (fun hHeld => ?_); refine with_tabW spec_RowPack.tab8 spec_RowPack.bits8 (fun HT_ HW_ => ?_)
             generalize w48.drew = w49 at HO_536002 BK527 BK528 BK535 BK537 HB hHeld ⊢
             refine pI_ 0 34 HT_ spec_RowPack.m1 rfl rfl ?_
             refine tk_ 1 35 HT_ HW_ spec_RowPack.m2 rfl rfl hHeld ?_
             refine pI_ 2 36 HT_ spec_RowPack.m3 rfl rfl ?_
             refine pI_ 3 37 HT_ spec_RowPack.m4 rfl rfl ?_
             refine pU_ 4 38 HT_ #[true, true, true, true, true, false, false, false, false, false, false, false, false, false, false, false, false, false, false, false, false] rfl rfl ?_
             refine pU_ 5 39 HT_ spec_RowPack.m5 rfl rfl ?_
             refine pU_ 6 40 HT_ spec_RowPack.m6 rfl rfl ?_
             refine pU_ 7 41 HT_ spec_RowPack.m7 rfl rfl ?_
             refine pI_ 8 42 HT_ spec_RowPack.m8 rfl rfl ?_
             refine pI_ 9 43 HT_ spec_RowPack.m9 rfl rfl ?_
             refine pU_ 10 44 HT_ spec_RowPack.m10 rfl rfl ?_
             refine pU_ 11 45 HT_ spec_RowPack.m11 rfl rfl ?_
             refine pU_ 12 46 HT_ spec_RowPack.m12 rfl rfl ?_
             refine pU_ 13 47 HT_ spec_RowPack.m13 rfl rfl ?_
             refine pU_ 14 48 HT_ spec_RowPack.m14 rfl rfl ?_
             refine pU_ 15 49 HT_ spec_RowPack.m15 rfl rfl ?_
             refine pU_ 16 50 HT_ spec_RowPack.m16 rfl rfl ?_
             refine pU_ 17 51 HT_ spec_RowPack.m17 rfl rfl ?_
             refine pU_ 18 52 HT_ spec_RowPack.m18 rfl rfl ?_
             refine pU_ 19 53 HT_ spec_RowPack.m19 rfl rfl ?_
             refine pI_ 20 54 HT_ spec_RowPack.m20 rfl rfl ?_
             refine done_ (done_of HT_.out (by kernel_rfl)) ?_
             try go_wp2
             go_meet
             case rel => exact ⟨_, (true), (qd4_), H', ⟨qd12_⟩, ⟨rq_ HO_536002.out⟩, ⟨bq_ BK527.out⟩, ⟨bq_ BK528.out⟩, ⟨bq_ BK535.out⟩, ⟨bq_ BK537.out⟩, ⟨hb_ HB.out⟩⟩
            ·
             rw [if_neg c47] at H
             have c47b0 : (((rd_Item l0_2 x6_3).f1).toList == ([] : List UInt8)) = false := beq_eq_false_iff_ne.mpr c47
             have c47b1 : (((rd_Item l0_2 x6_3).f1).toList != ([] : List UInt8)) = true := bne_iff_ne.mpr c47
             (first | rw [c47b0] | (simp only [i64_w, i32_w]; rw [c47b0]) | rw [c47b4] | rw [c47b3] | skip)
             replace H := Option.bind_eq_some_iff.mp H
             obtain ⟨t538, A500, H⟩ := H
             replace H : (if t538 = true then (if a1 = 0 then (none) else (spec_RowPack.j4 kj24 a1 x6_3 ((wrap64 (Int.tdiv ((rd_Item l0_2 x6_3).f0) a1)) == (wrap64 (Int.tdiv (wrap64 (a0_1 - 1)) a1))) a0_0 a0_1 l0_2 a0_0 a0_1 x536002_3 ((rd_Item l0_2 x6_3).f0) ((rd_Item l0_2 x6_3).f1) ((rd_Item l0_2 x6_3).f2) ((rd_Item l0_2 x6_3).f3) ((rd_Item l0_2 x6_3).f4))) else (spec_RowPack.j4 kj24 a1 x6_3 true a0_0 a0_1 l0_2 a0_0 a0_1 x536002_3 ((rd_Item l0_2 x6_3).f0) ((rd_Item l0_2 x6_3).f1) ((rd_Item l0_2 x6_3).f2) ((rd_Item l0_2 x6_3).f3) ((rd_Item l0_2 x6_3).f4))) = some (r1, r2, r3) := H
             have A50 := Aside0.mk A500
             clear A500
             by_cases c51 : t538 = true
             ·
              subst c51
              have H1 : (if a1 = 0 then (none) else (spec_RowPack.j4 kj24 a1 x6_3 ((wrap64 (Int.tdiv ((rd_Item l0_2 x6_3).f0) a1)) == (wrap64 (Int.tdiv (wrap64 (a0_1 - 1)) a1))) a0_0 a0_1 l0_2 a0_0 a0_1 x536002_3 ((rd_Item l0_2 x6_3).f0) ((rd_Item l0_2 x6_3).f1) ((rd_Item l0_2 x6_3).f2) ((rd_Item l0_2 x6_3).f3) ((rd_Item l0_2 x6_3).f4))) = some (r1, r2, r3) := by rw [if_pos rfl] at H; exact H
              clear H
              have H := H1
              clear H1
              by_cases c52 : a1 = 0
              ·
               rw [if_pos c52] at H
               exact absurd H (by simp)
              ·
               rw [if_neg c52] at H
               have c52b0 : (a1 == 0) = false := beq_eq_false_iff_ne.mpr c52
               have c52b1 : (a1 != 0) = true := bne_iff_ne.mpr c52
               have H' := Aside0.mk H
               clear H
               try go_wp2
               have n0_ : Aside0 (Kd.R k_Item 55 (((((w42.setCell ⟨gb537, 0, none⟩ (.int .i64 ((rd_Item l0_2 x6_3).f0))).setCell ⟨gb537, 1, none⟩ (.string ((rd_Item l0_2 x6_3).f1))).setCell ⟨gb537, 2, none⟩ (.string ((rd_Item l0_2 x6_3).f2))).setCell ⟨gb537, 3, none⟩ (.int .i64 ((rd_Item l0_2 x6_3).f3))).setCell ⟨gb537, 4, none⟩ (.int .i64 ((rd_Item l0_2 x6_3).f4))) w.heap.size (fun k_ => k_ ≠ gb537) u536002 x536002_3) := ⟨qd1_⟩
               have n1_ : Aside0 ((((((w42.setCell ⟨gb537, 0, none⟩ (.int .i64 ((rd_Item l0_2 x6_3).f0))).setCell ⟨gb537, 1, none⟩ (.string ((rd_Item l0_2 x6_3).f1))).setCell ⟨gb537, 2, none⟩ (.string ((rd_Item l0_2 x6_3).f2))).setCell ⟨gb537, 3, none⟩ (.int .i64 ((rd_Item l0_2 x6_3).f3))).setCell ⟨gb537, 4, none⟩ (.int .i64 ((rd_Item l0_2 x6_3).f4))).heap[gb527]? = some (.cells #[.int .i64 a0_0, .int .i64 a0_1, .slice (some ad536) l0_2.length c0_2] 48 (0, 0))) := ⟨bf_ NB527_537.out BK527.out⟩
               have n2_ : Aside0 ((((((w42.setCell ⟨gb537, 0, none⟩ (.int .i64 ((rd_Item l0_2 x6_3).f0))).setCell ⟨gb537, 1, none⟩ (.string ((rd_Item l0_2 x6_3).f1))).setCell ⟨gb537, 2, none⟩ (.string ((rd_Item l0_2 x6_3).f2))).setCell ⟨gb537, 3, none⟩ (.int .i64 ((rd_Item l0_2 x6_3).f3))).setCell ⟨gb537, 4, none⟩ (.int .i64 ((rd_Item l0_2 x6_3).f4))).heap[gb528]? = some (.cells #[.int .i64 x529000_10, .int .i64 x529001_10, .slice none 0 0] 48 (0, 0))) := ⟨bf_ NB528_537.out BK528.out⟩
               have n3_ : Aside0 ((((((w42.setCell ⟨gb537, 0, none⟩ (.int .i64 ((rd_Item l0_2 x6_3).f0))).setCell ⟨gb537, 1, none⟩ (.string ((rd_Item l0_2 x6_3).f1))).setCell ⟨gb537, 2, none⟩ (.string ((rd_Item l0_2 x6_3).f2))).setCell ⟨gb537, 3, none⟩ (.int .i64 ((rd_Item l0_2 x6_3).f3))).setCell ⟨gb537, 4, none⟩ (.int .i64 ((rd_Item l0_2 x6_3).f4))).heap[gb535]? = some (.cells #[.int .i64 a0_0, .int .i64 a0_1, u536002] 48 (0, 0))) := ⟨bf_ NB535_537.out BK535.out⟩
               have n4_ : Aside0 ((((((w42.setCell ⟨gb537, 0, none⟩ (.int .i64 ((rd_Item l0_2 x6_3).f0))).setCell ⟨gb537, 1, none⟩ (.string ((rd_Item l0_2 x6_3).f1))).setCell ⟨gb537, 2, none⟩ (.string ((rd_Item l0_2 x6_3).f2))).setCell ⟨gb537, 3, none⟩ (.int .i64 ((rd_Item l0_2 x6_3).f3))).setCell ⟨gb537, 4, none⟩ (.int .i64 ((rd_Item l0_2 x6_3).f4))).heap[gb537]? = some (.cells #[.int .i64 ((rd_Item l0_2 x6_3).f0), .string ((rd_Item l0_2 x6_3).f1), .string ((rd_Item l0_2 x6_3).f2), .int .i64 ((rd_Item l0_2 x6_3).f3), .int .i64 ((rd_Item l0_2 x6_3).f4)] 55 (0, 0))) := ⟨bp_ BK537.out⟩
               have n5_ : Aside0 (Below w.heap.size w (((((w42.setCell ⟨gb537, 0, none⟩ (.int .i64 ((rd_Item l0_2 x6_3).f0))).setCell ⟨gb537, 1, none⟩ (.string ((rd_Item l0_2 x6_3).f1))).setCell ⟨gb537, 2, none⟩ (.string ((rd_Item l0_2 x6_3).f2))).setCell ⟨gb537, 3, none⟩ (.int .i64 ((rd_Item l0_2 x6_3).f3))).setCell ⟨gb537, 4, none⟩ (.int .i64 ((rd_Item l0_2 x6_3).f4)))) := ⟨hb_ HB.out⟩
               (try clear HO_536002)
               (try clear BK527)
               (try clear BK528)
               (try clear BK535)
               (try clear BK537)
               (try clear HB)
               generalize (((((w42.setCell ⟨gb537, 0, none⟩ (.int .i64 ((rd_Item l0_2 x6_3).f0))).setCell ⟨gb537, 1, none⟩ (.string ((rd_Item l0_2 x6_3).f1))).setCell ⟨gb537, 2, none⟩ (.string ((rd_Item l0_2 x6_3).f2))).setCell ⟨gb537, 3, none⟩ (.int .i64 ((rd_Item l0_2 x6_3).f3))).setCell ⟨gb537, 4, none⟩ (.int .i64 ((rd_Item l0_2 x6_3).f4))) = w53 at n0_ n1_ n2_ n3_ n4_ n5_ ⊢
               have HO_536002 := n0_
               have BK527 := n1_
               have BK528 := n2_
               have BK535 := n3_
               have BK537 := n4_
               have HB := n5_
               clear n0_ n1_ n2_ n3_ n4_ n5_
               have n0_ := Aside0.mk (Kd.R_drew HO_536002.out)
               have n1_ := Aside0.mk (blk_drew BK527.out)
               have n2_ := Aside0.mk (blk_drew BK528.out)
               have n3_ := Aside0.mk (blk_drew BK535.out)
               have n4_ := Aside0.mk (blk_drew BK537.out)
               have n5_ := Aside0.mk (below_drew1 HB.out)
               clear HO_536002; clear BK527
               clear BK528; clear BK535
               clear BK537; clear HB
               have HO_536002 := n0_
               have BK527 := n1_
               have BK528 := n2_
               have BK535 := n3_
               have BK537 := n4_
               have HB := n5_
               clear n0_ n1_ n2_ n3_ n4_ n5_
               refine start_ (n := 21) (S := fun w' => w'.cell? ⟨gb537, 0, none⟩ = some (.int .i64 ((rd_Item l0_2 x6_3).f0)) ∧ w'.cell? ⟨gb537, 1, none⟩ = some (.string ((rd_Item l0_2 x6_3).f1)) ∧ w'.cell? ⟨gb537, 2, none⟩ = some (.string ((rd_Item l0_2 x6_3).f2)) ∧ w'.cell? ⟨gb537, 3, none⟩ = some (.int .i64 ((rd_Item l0_2 x6_3).f3)) ∧ w'.cell? ⟨gb537, 4, none⟩ = some (.int .i64 ((rd_Item l0_2 x6_3).f4)) ∧ w'.cell? ⟨gb527, 0, none⟩ = some (.int .i64 a0_0) ∧ w'.cell? ⟨gb527, 1, none⟩ = some (.int .i64 a0_1) ∧ w'.cell? ⟨gb527, 2, none⟩ = some (.slice (some ad536) l0_2.length c0_2)) (ds := []) spec_RowPack.m0 (by kernel_rfl) rfl rfl ⟨bc_ BK537 0, bc_ BK537 1, bc_ BK537 2, bc_ BK537 3, bc_ BK537 4, bc_ BK527 0, bc_ BK527 1, bc_ BK527 2⟩ (fun hHeld => ?_); refine with_tabW spec_RowPack.tab8 spec_RowPack.bits8 (fun HT_ HW_ => ?_)
               generalize w53.drew = w54 at HO_536002 BK527 BK528 BK535 BK537 HB hHeld ⊢
               refine pI_ 0 34 HT_ spec_RowPack.m1 rfl rfl ?_
               refine tk_ 1 35 HT_ HW_ spec_RowPack.m2 rfl rfl hHeld ?_
               refine pI_ 2 36 HT_ spec_RowPack.m3 rfl rfl ?_
               refine pI_ 3 37 HT_ spec_RowPack.m4 rfl rfl ?_
               refine pI_ 5 39 HT_ spec_RowPack.m21 rfl rfl ?_
               refine tk_ 4 38 HT_ HW_ spec_RowPack.m5 rfl rfl hHeld ?_
               refine on_ 6 40 HT_ spec_RowPack.m6 rfl rfl (fun K hK => ?_)
               refine goes_ Try.func75 (by kernel_rfl) rfl #[.agg #[.int .i64 a0_0, .int .i64 a0_1, .slice (some ad536) l0_2.length c0_2], .int .i64 x6_3] (by rfl) rfl rfl sm_ ?_
               with_reducible refine (spec_l3Behind.calls kj24 a0_0 a0_1 _ _ l0_2 x6_3 true _ ?side1 ?side2 A50.out).mono ?_
               (case side1 => repeat (first | exact (Kd.C_below HR0_2.out HB.out) | (with_reducible refine Kd.C_alloc ?_ _) | (with_reducible refine Kd.C_drewN ?_ _) | (with_reducible refine Kd.C_drew ?_)))
               (case side2 => exact HC0_2.out)
               rintro e w55 ⟨rfl, hb⟩
               refine ⟨_, rfl, ?_⟩
               have n0_ := Aside0.mk (Kd.R_below (rq_ HO_536002.out) hb)
               have n1_ := Aside0.mk (bb_ BK527.out hb)
               have n2_ := Aside0.mk (bb_ BK528.out hb)
               have n3_ := Aside0.mk (bb_ BK535.out hb)
               have n4_ := Aside0.mk (bb_ BK537.out hb)
               have n5_ := Aside0.mk (below_step (hb_ HB.out) hb)
               clear HO_536002; clear BK527
               clear BK528; clear BK535
               clear BK537; clear HB
               have HO_536002 := n0_
               have BK527 := n1_
               have BK528 := n2_
               have BK535 := n3_
               have BK537 := n4_
               have HB := n5_
               clear n0_ n1_ n2_ n3_ n4_ n5_
               (try clear hb)
               (try clear hb2)
               (try clear hk)
               (try clear hi)
               refine hK.out _ _ ⟨bc_ BK537 0, bc_ BK537 1, bc_ BK537 2, bc_ BK537 3, bc_ BK537 4, bc_ BK527 0, bc_ BK527 1, bc_ BK527 2⟩ (fun hHeld => ?_)
               clear hK K
               refine nm_ ?_
               refine pI_ 7 41 HT_ spec_RowPack.m7 rfl rfl ?_
               refine pI_ 8 42 HT_ spec_RowPack.m8 rfl rfl ?_
               refine pI_ 9 43 HT_ spec_RowPack.m9 rfl rfl ?_
               refine pI_ 10 44 HT_ spec_RowPack.m10 rfl rfl ?_
               refine pI_ 12 46 HT_ #[true, true, true, true, true, true, true, true, true, true, true, false, true, false, false, false, false, false, false, false, false] rfl rfl ?_
               refine pI_ 14 48 HT_ #[true, true, true, true, true, true, true, true, true, true, true, false, true, false, true, false, false, false, false, false, false] rfl rfl ?_
               refine pI_ 17 51 HT_ #[true, true, true, true, true, true, true, true, true, true, true, false, true, false, true, false, false, true, false, false, false] rfl rfl ?_
               refine tk_ 11 45 HT_ HW_ #[true, true, true, true, true, true, true, true, true, true, true, true, true, false, true, false, false, true, false, false, false] rfl rfl hHeld ?_
               refine pI_ 13 47 HT_ #[true, true, true, true, true, true, true, true, true, true, true, true, true, true, true, false, false, true, false, false, false] rfl rfl ?_
               refine tk_ 15 49 HT_ HW_ #[true, true, true, true, true, true, true, true, true, true, true, true, true, true, true, true, false, true, false, false, false] rfl rfl hHeld ?_
               refine pI_ 16 50 HT_ spec_RowPack.m17 rfl rfl ?_
               refine pI_ 18 52 HT_ spec_RowPack.m18 rfl rfl ?_
               refine pI_ 19 53 HT_ spec_RowPack.m19 rfl rfl ?_
               refine pI_ 20 54 HT_ spec_RowPack.m20 rfl rfl ?_
               refine done_ (done_of HT_.out (by kernel_rfl)) ?_
               try go_wp2
               go_meet
               case rel => exact ⟨_, (((wrap64 (Int.tdiv ((rd_Item l0_2 x6_3).f0) a1)) == (wrap64 (Int.tdiv (wrap64 (a0_1 - 1)) a1)))), (qd4_), H', ⟨qd12_⟩, ⟨rq_ HO_536002.out⟩, ⟨bq_ BK527.out⟩, ⟨bq_ BK528.out⟩, ⟨bq_ BK535.out⟩, ⟨bq_ BK537.out⟩, ⟨hb_ HB.out⟩⟩
             ·
              replace c51 := Bool.eq_false_iff.mpr c51
              subst c51
              have H1 : (spec_RowPack.j4 kj24 a1 x6_3 true a0_0 a0_1 l0_2 a0_0 a0_1 x536002_3 ((rd_Item l0_2 x6_3).f0) ((rd_Item l0_2 x6_3).f1) ((rd_Item l0_2 x6_3).f2) ((rd_Item l0_2 x6_3).f3) ((rd_Item l0_2 x6_3).f4)) = some (r1, r2, r3) := by rw [if_neg (show ¬ (false = true) by decide)] at H; exact H
              clear H
              have H := H1
              clear H1
              have H' := Aside0.mk H
              clear H
              try go_wp2
              have n0_ : Aside0 (Kd.R k_Item 55 (((((w42.setCell ⟨gb537, 0, none⟩ (.int .i64 ((rd_Item l0_2 x6_3).f0))).setCell ⟨gb537, 1, none⟩ (.string ((rd_Item l0_2 x6_3).f1))).setCell ⟨gb537, 2, none⟩ (.string ((rd_Item l0_2 x6_3).f2))).setCell ⟨gb537, 3, none⟩ (.int .i64 ((rd_Item l0_2 x6_3).f3))).setCell ⟨gb537, 4, none⟩ (.int .i64 ((rd_Item l0_2 x6_3).f4))) w.heap.size (fun k_ => k_ ≠ gb537) u536002 x536002_3) := ⟨qd1_⟩
              have n1_ : Aside0 ((((((w42.setCell ⟨gb537, 0, none⟩ (.int .i64 ((rd_Item l0_2 x6_3).f0))).setCell ⟨gb537, 1, none⟩ (.string ((rd_Item l0_2 x6_3).f1))).setCell ⟨gb537, 2, none⟩ (.string ((rd_Item l0_2 x6_3).f2))).setCell ⟨gb537, 3, none⟩ (.int .i64 ((rd_Item l0_2 x6_3).f3))).setCell ⟨gb537, 4, none⟩ (.int .i64 ((rd_Item l0_2 x6_3).f4))).heap[gb527]? = some (.cells #[.int .i64 a0_0, .int .i64 a0_1, .slice (some ad536) l0_2.length c0_2] 48 (0, 0))) := ⟨bf_ NB527_537.out BK527.out⟩
              have n2_ : Aside0 ((((((w42.setCell ⟨gb537, 0, none⟩ (.int .i64 ((rd_Item l0_2 x6_3).f0))).setCell ⟨gb537, 1, none⟩ (.string ((rd_Item l0_2 x6_3).f1))).setCell ⟨gb537, 2, none⟩ (.string ((rd_Item l0_2 x6_3).f2))).setCell ⟨gb537, 3, none⟩ (.int .i64 ((rd_Item l0_2 x6_3).f3))).setCell ⟨gb537, 4, none⟩ (.int .i64 ((rd_Item l0_2 x6_3).f4))).heap[gb528]? = some (.cells #[.int .i64 x529000_10, .int .i64 x529001_10, .slice none 0 0] 48 (0, 0))) := ⟨bf_ NB528_537.out BK528.out⟩
              have n3_ : Aside0 ((((((w42.setCell ⟨gb537, 0, none⟩ (.int .i64 ((rd_Item l0_2 x6_3).f0))).setCell ⟨gb537, 1, none⟩ (.string ((rd_Item l0_2 x6_3).f1))).setCell ⟨gb537, 2, none⟩ (.string ((rd_Item l0_2 x6_3).f2))).setCell ⟨gb537, 3, none⟩ (.int .i64 ((rd_Item l0_2 x6_3).f3))).setCell ⟨gb537, 4, none⟩ (.int .i64 ((rd_Item l0_2 x6_3).f4))).heap[gb535]? = some (.cells #[.int .i64 a0_0, .int .i64 a0_1, u536002] 48 (0, 0))) := ⟨bf_ NB535_537.out BK535.out⟩
              have n4_ : Aside0 ((((((w42.setCell ⟨gb537, 0, none⟩ (.int .i64 ((rd_Item l0_2 x6_3).f0))).setCell ⟨gb537, 1, none⟩ (.string ((rd_Item l0_2 x6_3).f1))).setCell ⟨gb537, 2, none⟩ (.string ((rd_Item l0_2 x6_3).f2))).setCell ⟨gb537, 3, none⟩ (.int .i64 ((rd_Item l0_2 x6_3).f3))).setCell ⟨gb537, 4, none⟩ (.int .i64 ((rd_Item l0_2 x6_3).f4))).heap[gb537]? = some (.cells #[.int .i64 ((rd_Item l0_2 x6_3).f0), .string ((rd_Item l0_2 x6_3).f1), .string ((rd_Item l0_2 x6_3).f2), .int .i64 ((rd_Item l0_2 x6_3).f3), .int .i64 ((rd_Item l0_2 x6_3).f4)] 55 (0, 0))) := ⟨bp_ BK537.out⟩
              have n5_ : Aside0 (Below w.heap.size w (((((w42.setCell ⟨gb537, 0, none⟩ (.int .i64 ((rd_Item l0_2 x6_3).f0))).setCell ⟨gb537, 1, none⟩ (.string ((rd_Item l0_2 x6_3).f1))).setCell ⟨gb537, 2, none⟩ (.string ((rd_Item l0_2 x6_3).f2))).setCell ⟨gb537, 3, none⟩ (.int .i64 ((rd_Item l0_2 x6_3).f3))).setCell ⟨gb537, 4, none⟩ (.int .i64 ((rd_Item l0_2 x6_3).f4)))) := ⟨hb_ HB.out⟩
              (try clear HO_536002)
              (try clear BK527)
              (try clear BK528)
              (try clear BK535)
              (try clear BK537)
              (try clear HB)
              generalize (((((w42.setCell ⟨gb537, 0, none⟩ (.int .i64 ((rd_Item l0_2 x6_3).f0))).setCell ⟨gb537, 1, none⟩ (.string ((rd_Item l0_2 x6_3).f1))).setCell ⟨gb537, 2, none⟩ (.string ((rd_Item l0_2 x6_3).f2))).setCell ⟨gb537, 3, none⟩ (.int .i64 ((rd_Item l0_2 x6_3).f3))).setCell ⟨gb537, 4, none⟩ (.int .i64 ((rd_Item l0_2 x6_3).f4))) = w56 at n0_ n1_ n2_ n3_ n4_ n5_ ⊢
              have HO_536002 := n0_
              have BK527 := n1_
              have BK528 := n2_
              have BK535 := n3_
              have BK537 := n4_
              have HB := n5_
              clear n0_ n1_ n2_ n3_ n4_ n5_
              have n0_ := Aside0.mk (Kd.R_drew HO_536002.out)
              have n1_ := Aside0.mk (blk_drew BK527.out)
              have n2_ := Aside0.mk (blk_drew BK528.out)
              have n3_ := Aside0.mk (blk_drew BK535.out)
              have n4_ := Aside0.mk (blk_drew BK537.out)
              have n5_ := Aside0.mk (below_drew1 HB.out)
              clear HO_536002; clear BK527
              clear BK528; clear BK535
              clear BK537; clear HB
              have HO_536002 := n0_
              have BK527 := n1_
              have BK528 := n2_
              have BK535 := n3_
              have BK537 := n4_
              have HB := n5_
              clear n0_ n1_ n2_ n3_ n4_ n5_
              refine start_ (n := 21) (S := fun w' => w'.cell? ⟨gb537, 0, none⟩ = some (.int .i64 ((rd_Item l0_2 x6_3).f0)) ∧ w'.cell? ⟨gb537, 1, none⟩ = some (.string ((rd_Item l0_2 x6_3).f1)) ∧ w'.cell? ⟨gb537, 2, none⟩ = some (.string ((rd_Item l0_2 x6_3).f2)) ∧ w'.cell? ⟨gb537, 3, none⟩ = some (.int .i64 ((rd_Item l0_2 x6_3).f3)) ∧ w'.cell? ⟨gb537, 4, none⟩ = some (.int .i64 ((rd_Item l0_2 x6_3).f4)) ∧ w'.cell? ⟨gb527, 0, none⟩ = some (.int .i64 a0_0) ∧ w'.cell? ⟨gb527, 1, none⟩ = some (.int .i64 a0_1) ∧ w'.cell? ⟨gb527, 2, none⟩ = some (.slice (some ad536) l0_2.length c0_2)) (ds := []) spec_RowPack.m0 (by kernel_rfl) rfl rfl ⟨bc_ BK537 0, bc_ BK537 1, bc_ BK537 2, bc_ BK537 3, bc_ BK537 4, bc_ BK527 0, bc_ BK527 1, bc_ BK527 2⟩ (fun hHeld => ?_); refine with_tabW spec_RowPack.tab8 spec_RowPack.bits8 (fun HT_ HW_ => ?_)
              generalize w56.drew = w57 at HO_536002 BK527 BK528 BK535 BK537 HB hHeld ⊢
              refine pI_ 0 34 HT_ spec_RowPack.m1 rfl rfl ?_
              refine tk_ 1 35 HT_ HW_ spec_RowPack.m2 rfl rfl hHeld ?_
              refine pI_ 2 36 HT_ spec_RowPack.m3 rfl rfl ?_
              refine pI_ 3 37 HT_ spec_RowPack.m4 rfl rfl ?_
              refine pI_ 5 39 HT_ spec_RowPack.m21 rfl rfl ?_
              refine tk_ 4 38 HT_ HW_ spec_RowPack.m5 rfl rfl hHeld ?_
              refine on_ 6 40 HT_ spec_RowPack.m6 rfl rfl (fun K hK => ?_)
              refine goes_ Try.func75 (by kernel_rfl) rfl #[.agg #[.int .i64 a0_0, .int .i64 a0_1, .slice (some ad536) l0_2.length c0_2], .int .i64 x6_3] (by rfl) rfl rfl sm_ ?_
              with_reducible refine (spec_l3Behind.calls kj24 a0_0 a0_1 _ _ l0_2 x6_3 false _ ?side1 ?side2 A50.out).mono ?_
              (case side1 => repeat (first | exact (Kd.C_below HR0_2.out HB.out) | (with_reducible refine Kd.C_alloc ?_ _) | (with_reducible refine Kd.C_drewN ?_ _) | (with_reducible refine Kd.C_drew ?_)))
              (case side2 => exact HC0_2.out)
              rintro e w58 ⟨rfl, hb⟩
              refine ⟨_, rfl, ?_⟩
              have n0_ := Aside0.mk (Kd.R_below (rq_ HO_536002.out) hb)
              have n1_ := Aside0.mk (bb_ BK527.out hb)
              have n2_ := Aside0.mk (bb_ BK528.out hb)
              have n3_ := Aside0.mk (bb_ BK535.out hb)
              have n4_ := Aside0.mk (bb_ BK537.out hb)
              have n5_ := Aside0.mk (below_step (hb_ HB.out) hb)
              clear HO_536002; clear BK527
              clear BK528; clear BK535
              clear BK537; clear HB
              have HO_536002 := n0_
              have BK527 := n1_
              have BK528 := n2_
              have BK535 := n3_
              have BK537 := n4_
              have HB := n5_
              clear n0_ n1_ n2_ n3_ n4_ n5_
              (try clear hb)
              (try clear hb2)
              (try clear hk)
              (try clear hi)
              refine hK.out _ _ ⟨bc_ BK537 0, bc_ BK537 1, bc_ BK537 2, bc_ BK537 3, bc_ BK537 4, bc_ BK527 0, bc_ BK527 1, bc_ BK527 2⟩ (fun hHeld => ?_)
              clear hK K
              refine nm_ ?_
              refine pI_ 7 41 HT_ spec_RowPack.m7 rfl rfl ?_
              refine pI_ 8 42 HT_ spec_RowPack.m8 rfl rfl ?_
              refine pI_ 9 43 HT_ spec_RowPack.m9 rfl rfl ?_
              refine pU_ 10 44 HT_ spec_RowPack.m10 rfl rfl ?_
              refine pU_ 11 45 HT_ spec_RowPack.m11 rfl rfl ?_
              refine pU_ 12 46 HT_ spec_RowPack.m12 rfl rfl ?_
              refine pU_ 13 47 HT_ spec_RowPack.m13 rfl rfl ?_
              refine pU_ 14 48 HT_ spec_RowPack.m14 rfl rfl ?_
              refine pU_ 15 49 HT_ spec_RowPack.m15 rfl rfl ?_
              refine pU_ 16 50 HT_ spec_RowPack.m16 rfl rfl ?_
              refine pU_ 17 51 HT_ spec_RowPack.m17 rfl rfl ?_
              refine pU_ 18 52 HT_ spec_RowPack.m18 rfl rfl ?_
              refine pU_ 19 53 HT_ spec_RowPack.m19 rfl rfl ?_
              refine pI_ 20 54 HT_ spec_RowPack.m20 rfl rfl ?_
              refine done_ (done_of HT_.out (by kernel_rfl)) ?_
              try go_wp2
              go_meet
              case rel => exact ⟨_, (true), (qd4_), H', ⟨qd12_⟩, ⟨rq_ HO_536002.out⟩, ⟨bq_ BK527.out⟩, ⟨bq_ BK528.out⟩, ⟨bq_ BK535.out⟩, ⟨bq_ BK537.out⟩, ⟨hb_ HB.out⟩⟩
           case rest =>
            clear HC38
            (try clear p2); (try clear c4); (try clear c5); (try clear p6); (try clear c7); (try clear c47); (try clear c47b0); (try clear c47b1); (try clear c51); (try clear c52); (try clear c52b0); (try clear c52b1)
            obtain ⟨kq, x54_37, rfl, HA, HJ37, HO_536002, BK527, BK528, BK535, BK537, HB⟩ := hcut
            cases kq with
            | zero => exact absurd HA.out (by simp [spec_RowPack.j4])
            | succ kj37 =>
             have H := HA.out
             clear HA
             simp only [spec_RowPack.j4] at H
             by_cases c59 : x54_37 = true
             ·
              subst c59
              have H1 : (if x536002_3.length < 2513169434916 then (spec_RowPack.l0 kj37 a1 (wrap64 (x6_3 + 1)) a0_0 a0_1 l0_2 a0_0 a0_1 (x536002_3 ++ [(⟨((rd_Item l0_2 x6_3).f0), ((rd_Item l0_2 x6_3).f1), ((rd_Item l0_2 x6_3).f2), ((rd_Item l0_2 x6_3).f3), ((rd_Item l0_2 x6_3).f4)⟩ : S_Item)])) else (none)) = some (r1, r2, r3) := by rw [if_pos rfl] at H; exact H
              clear H
              have H := H1
              clear H1
              by_cases c60 : x536002_3.length < 2513169434916
              ·
               rw [if_pos c60] at H
               have LMc60 := Aside0.mk c60
               clear c60
               obtain ⟨y539, hy539⟩ : ∃ y_ : List (S_Item), y_ = (x536002_3 ++ [(⟨((rd_Item l0_2 x6_3).f0), ((rd_Item l0_2 x6_3).f1), ((rd_Item l0_2 x6_3).f2), ((rd_Item l0_2 x6_3).f3), ((rd_Item l0_2 x6_3).f4)⟩ : S_Item)]) := ⟨_, rfl⟩
               replace H : (spec_RowPack.l0 kj37 a1 (wrap64 (x6_3 + 1)) a0_0 a0_1 l0_2 a0_0 a0_1 y539) = some (r1, r2, r3) := by first | (rw [hy539]; with_reducible exact H) | (have H2_ := (Option.bind_some _ _).symm.trans H; rw [hy539]; with_reducible exact H2_) | (have H2_ := (Option.bind_some _ _).symm.trans H; with_reducible exact H2_) | with_reducible exact H | (rw [hy539]; exact H) | exact H
               have Ny539 := Aside0.mk hy539
               clear hy539
               have H' := Aside0.mk H
               clear H
               have hnb61 := NB535_527.out
               have hnc61 := NB527_535.out
               have hnb62 := NB535_528.out
               have hnc62 := NB528_535.out
               have hnb63 := NB535_537.out
               have hnc63 := NB537_535.out
               have hcz64_0 : wc.cell? ⟨gb535, 0, none⟩ = some (.int .i64 a0_0) := bc_ BK535 0
               have hcz64_1 : wc.cell? ⟨gb535, 1, none⟩ = some (.int .i64 a0_1) := bc_ BK535 1
               have hcz64_2 : wc.cell? ⟨gb535, 2, none⟩ = some (u536002) := bc_ BK535 2
               have hfz64_0 := blk_frozen BK535.out 0
               have hfz64_1 := blk_frozen BK535.out 1
               have hfz64_2 := blk_frozen BK535.out 2
               have hnb65 := NB537_527.out
               have hnc65 := NB527_537.out
               have hnb66 := NB537_528.out
               have hnc66 := NB528_537.out
               have hcz67_0 : wc.cell? ⟨gb537, 0, none⟩ = some (.int .i64 ((rd_Item l0_2 x6_3).f0)) := bc_ BK537 0
               have hcz67_1 : wc.cell? ⟨gb537, 1, none⟩ = some (.string ((rd_Item l0_2 x6_3).f1)) := bc_ BK537 1
               have hcz67_2 : wc.cell? ⟨gb537, 2, none⟩ = some (.string ((rd_Item l0_2 x6_3).f2)) := bc_ BK537 2
               have hcz67_3 : wc.cell? ⟨gb537, 3, none⟩ = some (.int .i64 ((rd_Item l0_2 x6_3).f3)) := bc_ BK537 3
               have hcz67_4 : wc.cell? ⟨gb537, 4, none⟩ = some (.int .i64 ((rd_Item l0_2 x6_3).f4)) := bc_ BK537 4
               have hfz67_0 := blk_frozen BK537.out 0
               have hfz67_1 := blk_frozen BK537.out 1
               have hfz67_2 := blk_frozen BK537.out 2
               have hfz67_3 := blk_frozen BK537.out 3
               have hfz67_4 := blk_frozen BK537.out 4
               go_wp2_with (first | ((with_reducible refine gate_builtin (b := .append) (xs := #[.tmp 56, .tmp 58]) rfl ?_); at_builtin; refine Kd.R_append k_Item (w0 := w) w.heap.size rfl (.tmp 56) (.tmp 58) 46 55 (.agg #[(.int .i64 0), (.string ⟨#[]⟩), (.string ⟨#[]⟩), (.int .i64 0), (.int .i64 0)]) 56 rfl Try.underlying46 info55 rfl (by decide) (by omega) u536002 x536002_3 (⟨((rd_Item l0_2 x6_3).f0), ((rd_Item l0_2 x6_3).f1), ((rd_Item l0_2 x6_3).f2), ((rd_Item l0_2 x6_3).f3), ((rd_Item l0_2 x6_3).f4)⟩ : S_Item) [.int .i64 ((rd_Item l0_2 x6_3).f0), .string ((rd_Item l0_2 x6_3).f1), .string ((rd_Item l0_2 x6_3).f2), .int .i64 ((rd_Item l0_2 x6_3).f3), .int .i64 ((rd_Item l0_2 x6_3).f4)] (fun k_ => k_ ≠ gb537) (fun _ => False) rfl rfl ?aP (fun _ hk => hk.elim) ?aF ?aO ?aB ?aS ?aL ?_; (case aP => exact k_Item_mkM _ _ _ (⟨((rd_Item l0_2 x6_3).f0), ((rd_Item l0_2 x6_3).f1), ((rd_Item l0_2 x6_3).f2), ((rd_Item l0_2 x6_3).f3), ((rd_Item l0_2 x6_3).f4)⟩ : S_Item)); (case aB => exact (hb_ HB.out)); (case aF => exact (fun k_ hk => Kd.freshB (g := gb537) (o := .cells #[.int .i64 ((rd_Item l0_2 x6_3).f0), .string ((rd_Item l0_2 x6_3).f1), .string ((rd_Item l0_2 x6_3).f2), .int .i64 ((rd_Item l0_2 x6_3).f3), .int .i64 ((rd_Item l0_2 x6_3).f4)] 55 (0, 0)) (bq_ BK537.out) k_ hk)); (case aO => exact (rq_ HO_536002.out)); (case aS => exact (below_size (hb_ HB.out))); (case aL => have := LMc60.out; omega); intro v540 w68 ho hb hg hat; rw [← Ny539.out] at ho; have n0_ := Aside0.mk (blk_grown (g := gb527) (o := .cells #[.int .i64 a0_0, .int .i64 a0_1, .slice (some ad536) l0_2.length c0_2] 48 (0, 0)) (bq_ BK527.out) hg (Kd.R_ne HO_536002.out BK527.out (by decide))); have n1_ := Aside0.mk (blk_grown (g := gb528) (o := .cells #[.int .i64 x529000_10, .int .i64 x529001_10, .slice none 0 0] 48 (0, 0)) (bq_ BK528.out) hg (Kd.R_ne HO_536002.out BK528.out (by decide))); have n2_ := Aside0.mk (blk_grown (g := gb535) (o := .cells #[.int .i64 a0_0, .int .i64 a0_1, u536002] 48 (0, 0)) (bq_ BK535.out) hg (Kd.R_ne HO_536002.out BK535.out (by decide))); have n3_ := Aside0.mk (blk_grown (g := gb537) (o := .cells #[.int .i64 ((rd_Item l0_2 x6_3).f0), .string ((rd_Item l0_2 x6_3).f1), .string ((rd_Item l0_2 x6_3).f2), .int .i64 ((rd_Item l0_2 x6_3).f3), .int .i64 ((rd_Item l0_2 x6_3).f4)] 55 (0, 0)) (bq_ BK537.out) hg (Kd.R_away HO_536002.out (fun _ hk => hk))); have n4_ := Aside0.mk (hb); have n5_ := Aside0.mk (ho); clear BK527; clear BK528; clear BK535; clear BK537; clear HB; clear HO_536002; have BK527 := n0_; have BK528 := n1_; have BK535 := n2_; have BK537 := n3_; have HB := n4_; have HO541 := n5_; clear n0_ n1_ n2_ n3_ n4_ n5_; clear ho hb hg hat; obtain ⟨Ao69, co69, eo69⟩ := Kd.R_slice HO541.out; subst eo69; have hcz70_0 : w68.cell? ⟨gb535, 0, none⟩ = some (.int .i64 a0_0) := bc_ BK535 0; have hcz70_1 : w68.cell? ⟨gb535, 1, none⟩ = some (.int .i64 a0_1) := bc_ BK535 1; have hcz70_2 : w68.cell? ⟨gb535, 2, none⟩ = some (u536002) := bc_ BK535 2; have hfz70_0 := blk_frozen BK535.out 0; have hfz70_1 := blk_frozen BK535.out 1; have hfz70_2 := blk_frozen BK535.out 2))
               go_roundg kj37
               case measure => have := HJ2.out; have := HJ10.out; have := HK3.out; have := HJ24.out; have := HJ37.out; omega
               case rel => exact ⟨(wrap64 (x6_3 + 1)), (y539), (.slice Ao69 y539.length co69), (qd4_), H', ⟨by have := HJ2.out; have := HJ10.out; have := HK3.out; have := HJ24.out; have := HJ37.out; omega⟩, ⟨by (with_reducible repeat (first | apply Kd.R_alloc | apply Kd.R_drewN | apply Kd.R_drew)); exact Kd.R_mono (Kd.R_far (p := ⟨gb535, 2, none⟩) (Kd.R_types HO541.out BK535.out (by decide)) (fun _ hk => hk.2) (.slice Ao69 y539.length co69)) (fun _ hk => trivial)⟩, ⟨bf_ NB527_535.out BK527.out⟩, ⟨bf_ NB528_535.out BK528.out⟩, ⟨bp_ BK535.out⟩, ⟨hb_ HB.out⟩⟩
              ·
               rw [if_neg c60] at H
               exact absurd H (by simp)
             ·
              replace c59 := Bool.eq_false_iff.mpr c59
              subst c59
              have H1 : (spec_RowPack.l0 kj37 a1 (wrap64 (x6_3 + 1)) a0_0 a0_1 l0_2 a0_0 a0_1 x536002_3) = some (r1, r2, r3) := by rw [if_neg (show ¬ (false = true) by decide)] at H; exact H
              clear H
              have H := H1
              clear H1
              have H' := Aside0.mk H
              clear H
              go_wp2
              go_roundg kj37
              case measure => have := HJ2.out; have := HJ10.out; have := HK3.out; have := HJ24.out; have := HJ37.out; omega
              case rel => exact ⟨(wrap64 (x6_3 + 1)), (x536002_3), (u536002), (qd4_), H', ⟨by have := HJ2.out; have := HJ10.out; have := HK3.out; have := HJ24.out; have := HJ37.out; omega⟩, ⟨by (with_reducible repeat (first | apply Kd.R_alloc | apply Kd.R_drewN | apply Kd.R_drew)); exact Kd.R_mono HO_536002.out (fun _ hk => trivial)⟩, ⟨bq_ BK527.out⟩, ⟨bq_ BK528.out⟩, ⟨bq_ BK535.out⟩, ⟨hb_ HB.out⟩⟩
          ·
           rw [if_neg c37] at H
           exact absurd H (by simp)
         ·
          rw [if_neg c36] at H
          exact absurd H (by simp)
/-! ### spec_RowPut: function 81 -/
def spec_RowPut.j0 : Nat → ByteArray → ByteArray → Int → Int → Int → Int → List (S_Item) → Int → Int → List (S_Item) → Option (Int × Int × (List (S_Item)) × Int × Bool)
  | 0, _, _, _, _, _, _, _, _, _, _ => none
  | k + 1, x1, x2, x3, x4, x543000, x543001, x543002, x550000, x550001, x550002 => if x550002.length < 2513169434916 then ((some (x550002 ++ [(⟨x543001, x1, x2, x3, x4⟩ : S_Item)] : List (S_Item))).bind fun y551 => ((spec_RowOk.f k x550000 (wrap64 (x543001 + 1)) y551).bind fun t554 => (if t554 = true then (some (x550000, wrap64 (x543001 + 1), y551, x543001, true)) else ((spec_l3Copy.f x543000 x543001 x543002).bind fun bt555 => (some (bt555.1, bt555.2.1, bt555.2.2, 0, false)))))) else (none)
def spec_RowPut.f (k : Nat) (a0_0 : Int) (a0_1 : Int) (l0_2 : List (S_Item)) (a1 : ByteArray) (a2 : ByteArray) (a3 : Int) (a4 : Int) : Option (Int × Int × (List (S_Item)) × Int × Bool) := (spec_l3Copy.f a0_0 a0_1 l0_2).bind fun bt544 => ((spec_RowOk.f k a0_0 a0_1 l0_2).bind fun t550 => (if t550 = true then (spec_RowPut.j0 k a1 a2 a3 a4 a0_0 a0_1 l0_2 bt544.1 bt544.2.1 bt544.2.2) else (some (bt544.1, bt544.2.1, bt544.2.2, 0, false))))
theorem spec_RowPut.mono_l : ∀ k, (∀ y0 y1 y2 y3 y4 y5 y6 y7 y8 y9, LeO (spec_RowPut.j0 k y0 y1 y2 y3 y4 y5 y6 y7 y8 y9) (spec_RowPut.j0 (k + 1) y0 y1 y2 y3 y4 y5 y6 y7 y8 y9))
  | 0 => fun _ _ _ _ _ _ _ _ _ _ r h => by simp [spec_RowPut.j0] at h
  | k + 1 => by
    have ih0 := spec_RowPut.mono_l k
    · intro y0 y1 y2 y3 y4 y5 y6 y7 y8 y9
      unfold spec_RowPut.j0
      repeat' first
      | (with_reducible exact ih0 _ _ _ _ _ _ _ _ _ _)
      | (with_reducible exact spec_RowOk.mono _ _ _ _)
      | (with_reducible exact LeO.refl _)
      | (with_reducible exact LeO.none _)
      | (with_reducible refine LeO.ite ?_ ?_)
      | (with_reducible refine LeO.bind ?_ (fun _ => ?_))
      | exact ih0 _ _ _ _ _ _ _ _ _ _
      | exact spec_RowOk.mono _ _ _ _
      | exact LeO.none _
      | refine LeO.ite ?_ ?_
      | refine LeO.bind ?_ (fun _ => ?_)
theorem spec_RowPut.mono : ∀ a0 a1 a2 a3 a4 a5 a6 k, LeO (spec_RowPut.f k a0 a1 a2 a3 a4 a5 a6) (spec_RowPut.f (k + 1) a0 a1 a2 a3 a4 a5 a6) := by
  intro a0 a1 a2 a3 a4 a5 a6 k
  have ih0 := spec_RowPut.mono_l k
  unfold spec_RowPut.f
  repeat' first
      | (with_reducible exact ih0 _ _ _ _ _ _ _ _ _ _)
      | (with_reducible exact spec_RowOk.mono _ _ _ _)
      | (with_reducible exact LeO.refl _)
      | (with_reducible exact LeO.none _)
      | (with_reducible refine LeO.ite ?_ ?_)
      | (with_reducible refine LeO.bind ?_ (fun _ => ?_))
      | exact ih0 _ _ _ _ _ _ _ _ _ _
      | exact spec_RowOk.mono _ _ _ _
      | exact LeO.none _
      | refine LeO.ite ?_ ?_
      | refine LeO.bind ?_ (fun _ => ?_)
set_option maxHeartbeats 8000000 in
set_option maxRecDepth 100000 in
theorem spec_RowPut.calls (k : Nat) (a0_0 : Int) (a0_1 : Int) (A0_2 : Option Addr) (c0_2 : Nat) (l0_2 : List (S_Item)) (a1 : ByteArray) (a2 : ByteArray) (a3 : Int) (a4 : Int) (r1 : Int) (r2 : Int) (r3 : List (S_Item)) (r4 : Int) (r5 : Bool) (w : World) (hr0_2 : Kd.C k_Item w A0_2 l0_2.length l0_2) (hc0_2 : l0_2.length ≤ c0_2) (h : spec_RowPut.f k a0_0 a0_1 l0_2 a1 a2 a3 a4 = some (r1, r2, r3, r4, r5)) :
    Calls Try.prog 81 #[.agg #[.int .i64 a0_0, .int .i64 a0_1, .slice A0_2 l0_2.length c0_2], .string a1, .string a2, .int .i64 a3, .int .i64 a4] w fun e w' => ∃ v2_ : Value, e = .returned (.tuple #[.agg #[.int .i64 r1, .int .i64 r2, v2_], .int .i64 r4, .bool r5]) ∧ Kd.R k_Item 55 w' w.heap.size (fun _ => True) v2_ r3 ∧ Below w.heap.size w w' := by
  have hu48 := Try.underlying48
  have hu55 := Try.underlying55
  have HR0_2 := Aside0.mk hr0_2
  have HC0_2 := Aside0.mk hc0_2
  clear hr0_2 hc0_2
  have HB := Aside0.mk (Below.refl w.heap.size w)
  have H : ((spec_l3Copy.f a0_0 a0_1 l0_2).bind fun bt544 => ((spec_RowOk.f k a0_0 a0_1 l0_2).bind fun t550 => (if t550 = true then (spec_RowPut.j0 k a1 a2 a3 a4 a0_0 a0_1 l0_2 bt544.1 bt544.2.1 bt544.2.2) else (some (bt544.1, bt544.2.1, bt544.2.2, 0, false))))) = some (r1, r2, r3, r4, r5) := h
  clear h
  replace H := Option.bind_eq_some_iff.mp H
  obtain ⟨⟨t544, t545, t546⟩, A60, H⟩ := H
  replace H : ((spec_RowOk.f k a0_0 a0_1 l0_2).bind fun t550 => (if t550 = true then (spec_RowPut.j0 k a1 a2 a3 a4 a0_0 a0_1 l0_2 t544 t545 t546) else (some (t544, t545, t546, 0, false)))) = some (r1, r2, r3, r4, r5) := H
  have A6 := Aside0.mk A60
  clear A60
  replace H := Option.bind_eq_some_iff.mp H
  obtain ⟨t550, A70, H⟩ := H
  replace H : (if t550 = true then (spec_RowPut.j0 k a1 a2 a3 a4 a0_0 a0_1 l0_2 t544 t545 t546) else (some (t544, t545, t546, 0, false))) = some (r1, r2, r3, r4, r5) := H
  have A7 := Aside0.mk A70
  clear A70
  have HC8 := Aside0.mk H
  clear H
  go_enter Try.func81, Try.ntmps81
  go_upto_if 18 with (first | ((with_reducible refine gate_dst (N := 5) rfl ?_); refine box_event ?hg (N := 5) ?hd (cs := #[.int .i64 a0_0, .int .i64 a0_1, .slice A0_2 l0_2.length c0_2]) (t := 48) ?hr ?_; (case hd => rfl); (case hg => rfl); (case hr => first | (go_simp; done) | (go_simp; rfl)); intro gb542 hg w9 hbox hb; have n0_ := Aside0.mk (below_step (qd3_) hb); have n1_ := Aside0.mk (hbox); have n2_ := Aside0.mk ((by rw [hg]; exact (below_size (qd3_)) : w.heap.size ≤ gb542)); have n3_ := Aside0.mk ((by rw [hg]; exact (below_size (qd3_)) : w.heap.size ≤ gb542)); clear HB; have HB := n0_; have BK542 := n1_; have GW542 := n2_; have GE542 := n3_; clear n0_ n1_ n2_ n3_; clear hb hbox hg) | ((with_reducible refine gate_dst (N := 10) rfl ?_); refine box_event ?hg (N := 10) ?hd (cs := #[.int .i64 0, .int .i64 0, .slice none 0 0]) (t := 48) ?hr ?_; (case hd => rfl); (case hg => rfl); (case hr => first | (go_simp; done) | (go_simp; rfl)); intro gb543 hg w10 hbox hb; have n0_ := Aside0.mk (blk_below (g := gb542) (o := .cells #[.int .i64 a0_0, .int .i64 a0_1, .slice A0_2 l0_2.length c0_2] 48 (0, 0)) (bq_ BK542.out) hb); have n1_ := Aside0.mk (below_step (qd11_) hb); have n2_ := Aside0.mk (hbox); have n3_ := Aside0.mk ((by rw [hg]; exact (below_size (qd11_)) : w.heap.size ≤ gb543)); have n4_ := Aside0.mk ((by rw [hg]; exact (below_size (qd11_)) : w.heap.size ≤ gb543)); have n5_ := Aside0.mk ((by rw [hg]; exact Nat.ne_of_lt (blk_lt (g := gb542) (o := .cells #[.int .i64 a0_0, .int .i64 a0_1, .slice A0_2 l0_2.length c0_2] 48 (0, 0)) (bq_ BK542.out)) : gb542 ≠ gb543)); have n6_ := Aside0.mk ((by rw [hg]; exact Nat.ne_of_gt (blk_lt (g := gb542) (o := .cells #[.int .i64 a0_0, .int .i64 a0_1, .slice A0_2 l0_2.length c0_2] 48 (0, 0)) (bq_ BK542.out)) : gb543 ≠ gb542)); clear BK542; clear HB; have BK542 := n0_; have HB := n1_; have BK543 := n2_; have GW543 := n3_; have GE543 := n4_; have NB542_543 := n5_; have NB543_542 := n6_; clear n0_ n1_ n2_ n3_ n4_ n5_ n6_; clear hb hbox hg; have hnb11 := NB542_543.out; have hnc11 := NB543_542.out; have hcz12_0 : w10.cell? ⟨gb542, 0, none⟩ = some (.int .i64 a0_0) := bc_ BK542 0; have hcz12_1 : w10.cell? ⟨gb542, 1, none⟩ = some (.int .i64 a0_1) := bc_ BK542 1; have hcz12_2 : w10.cell? ⟨gb542, 2, none⟩ = some (.slice A0_2 l0_2.length c0_2) := bc_ BK542 2; have hfz12_0 := blk_frozen BK542.out 0; have hfz12_1 := blk_frozen BK542.out 1; have hfz12_2 := blk_frozen BK542.out 2) | ((with_reducible refine gate_callee (f := 68) rfl ?_); refine goesL_ (some 15) rfl rfl Try.func68 (by kernel_rfl) rfl #[.agg #[.int .i64 a0_0, .int .i64 a0_1, .slice A0_2 l0_2.length c0_2]] rfl (qd5_) ?_; (with_reducible refine (spec_l3Copy.calls a0_0 a0_1 _ _ l0_2 t544 t545 t546 _ ?side1 ?side2 A6.out).mono ?_); (case side1 => repeat (first | exact (Kd.C_below HR0_2.out HB.out) | (with_reducible refine Kd.C_alloc ?_ _) | (with_reducible refine Kd.C_drewN ?_ _) | (with_reducible refine Kd.C_drew ?_))); (case side2 => exact HC0_2.out); rintro e w13 ⟨v547, rfl, ho0, hb⟩; refine ⟨_, rfl, ?_⟩; have n0_ := Aside0.mk (Kd.R_lower ho0 (below_size (qd2_))); have n1_ := Aside0.mk (blk_below (g := gb542) (o := .cells #[.int .i64 a0_0, .int .i64 a0_1, .slice A0_2 l0_2.length c0_2] 48 (0, 0)) (bq_ BK542.out) hb); have n2_ := Aside0.mk (blk_below (g := gb543) (o := .cells #[.int .i64 0, .int .i64 0, .slice none 0 0] 48 (0, 0)) (bq_ BK543.out) hb); have n3_ := Aside0.mk (below_step (qd2_) hb); clear BK542; clear BK543; clear HB; have HO548 := n0_; have BK542 := n1_; have BK543 := n2_; have HB := n3_; clear n0_ n1_ n2_ n3_; (try clear hb); (try clear hb2); (try clear hk); (try clear hi); (try clear ho0)) | ((with_reducible refine gate_dst (N := 13) rfl ?_); refine box_event ?hg (N := 13) ?hd (cs := #[.int .i64 0, .int .i64 0, .slice none 0 0]) (t := 48) ?hr ?_; (case hd => rfl); (case hg => rfl); (case hr => first | (go_simp; done) | (go_simp; rfl)); intro gb549 hg w14 hbox hb; have n0_ := Aside0.mk (Kd.R_below (by (with_reducible repeat (first | apply Kd.R_alloc | apply Kd.R_drewN | apply Kd.R_drew)); exact HO548.out) hb); have n1_ := Aside0.mk (blk_below (g := gb542) (o := .cells #[.int .i64 a0_0, .int .i64 a0_1, .slice A0_2 l0_2.length c0_2] 48 (0, 0)) (bq_ BK542.out) hb); have n2_ := Aside0.mk (blk_below (g := gb543) (o := .cells #[.int .i64 0, .int .i64 0, .slice none 0 0] 48 (0, 0)) (bq_ BK543.out) hb); have n3_ := Aside0.mk (below_step (qd2_) hb); have n4_ := Aside0.mk (hbox); have n5_ := Aside0.mk ((by rw [hg]; exact (below_size (qd2_)) : w.heap.size ≤ gb549)); have n6_ := Aside0.mk ((by rw [hg]; exact (below_size (qd2_)) : w.heap.size ≤ gb549)); have n7_ := Aside0.mk ((by rw [hg]; exact Nat.ne_of_lt (blk_lt (g := gb542) (o := .cells #[.int .i64 a0_0, .int .i64 a0_1, .slice A0_2 l0_2.length c0_2] 48 (0, 0)) (bq_ BK542.out)) : gb542 ≠ gb549)); have n8_ := Aside0.mk ((by rw [hg]; exact Nat.ne_of_gt (blk_lt (g := gb542) (o := .cells #[.int .i64 a0_0, .int .i64 a0_1, .slice A0_2 l0_2.length c0_2] 48 (0, 0)) (bq_ BK542.out)) : gb549 ≠ gb542)); have n9_ := Aside0.mk ((by rw [hg]; exact Nat.ne_of_lt (blk_lt (g := gb543) (o := .cells #[.int .i64 0, .int .i64 0, .slice none 0 0] 48 (0, 0)) (bq_ BK543.out)) : gb543 ≠ gb549)); have n10_ := Aside0.mk ((by rw [hg]; exact Nat.ne_of_gt (blk_lt (g := gb543) (o := .cells #[.int .i64 0, .int .i64 0, .slice none 0 0] 48 (0, 0)) (bq_ BK543.out)) : gb549 ≠ gb543)); clear HO548; clear BK542; clear BK543; clear HB; have HO548 := n0_; have BK542 := n1_; have BK543 := n2_; have HB := n3_; have BK549 := n4_; have GW549 := n5_; have GE549 := n6_; have NB542_549 := n7_; have NB549_542 := n8_; have NB543_549 := n9_; have NB549_543 := n10_; clear n0_ n1_ n2_ n3_ n4_ n5_ n6_ n7_ n8_ n9_ n10_; clear hb hbox hg; have hnb15 := NB549_542.out; have hnc15 := NB542_549.out; have hnb16 := NB549_543.out; have hnc16 := NB543_549.out; have hcz17_0 : w14.cell? ⟨gb549, 0, none⟩ = some (.int .i64 0) := bc_ BK549 0; have hcz17_1 : w14.cell? ⟨gb549, 1, none⟩ = some (.int .i64 0) := bc_ BK549 1; have hcz17_2 : w14.cell? ⟨gb549, 2, none⟩ = some (.slice none 0 0) := bc_ BK549 2; have hfz17_0 := blk_frozen BK549.out 0; have hfz17_1 := blk_frozen BK549.out 1; have hfz17_2 := blk_frozen BK549.out 2; obtain ⟨Ao18, co18, eo18⟩ := Kd.R_slice HO548.out; subst eo18; have hcz19_0 : w14.cell? ⟨gb542, 0, none⟩ = some (.int .i64 a0_0) := bc_ BK542 0; have hcz19_1 : w14.cell? ⟨gb542, 1, none⟩ = some (.int .i64 a0_1) := bc_ BK542 1; have hcz19_2 : w14.cell? ⟨gb542, 2, none⟩ = some (.slice A0_2 l0_2.length c0_2) := bc_ BK542 2; have hfz19_0 := blk_frozen BK542.out 0; have hfz19_1 := blk_frozen BK542.out 1; have hfz19_2 := blk_frozen BK542.out 2) | ((with_reducible refine gate_callee (f := 69) rfl ?_); refine goesL_ (some 17) rfl rfl Try.func69 (by kernel_rfl) rfl #[.agg #[.int .i64 a0_0, .int .i64 a0_1, .slice A0_2 l0_2.length c0_2]] rfl (qd5_) ?_; (with_reducible refine (spec_RowOk.calls k a0_0 a0_1 _ _ l0_2 t550 _ ?side1 ?side2 A7.out).mono ?_); (case side1 => exact Kd.C_below HR0_2.out (qd0_)); (case side2 => exact HC0_2.out); rintro e w20 ⟨rfl, hb⟩; refine ⟨_, rfl, ?_⟩; have n0_ := Aside0.mk (Kd.R_below (by (with_reducible repeat (first | apply Kd.R_alloc | apply Kd.R_drewN | apply Kd.R_drew)); exact (Kd.R_mono (Kd.R_far (p := ⟨gb549, 2, none⟩) (Kd.R_far (p := ⟨gb549, 1, none⟩) (Kd.R_far (p := ⟨gb549, 0, none⟩) (Kd.R_types HO548.out BK549.out (by decide)) (fun _ hk => hk.2) (.int .i64 t544)) (fun _ hk => hk.2) (.int .i64 t545)) (fun _ hk => hk.2) (.slice Ao18 t546.length co18)) (fun _ h_ => h_.1))) hb); have n1_ := Aside0.mk (blk_below (g := gb542) (o := .cells #[.int .i64 a0_0, .int .i64 a0_1, .slice A0_2 l0_2.length c0_2] 48 (0, 0)) (bf_ NB542_549.out BK542.out) hb); have n2_ := Aside0.mk (blk_below (g := gb543) (o := .cells #[.int .i64 0, .int .i64 0, .slice none 0 0] 48 (0, 0)) (bf_ NB543_549.out BK543.out) hb); have n3_ := Aside0.mk (blk_below (g := gb549) (o := .cells #[.int .i64 t544, .int .i64 t545, .slice Ao18 t546.length co18] 48 (0, 0)) (bp_ BK549.out) hb); have n4_ := Aside0.mk (below_step (qd0_) hb); clear HO548; clear BK542; clear BK543; clear BK549; clear HB; have HO548 := n0_; have BK542 := n1_; have BK543 := n2_; have BK549 := n3_; have HB := n4_; clear n0_ n1_ n2_ n3_ n4_; (try clear hb); (try clear hb2); (try clear hk); (try clear hi)))
  (try simp only [Act.put, List.setIfInBounds_toArray, List.set_cons_zero, List.set_cons_succ])
  go_cut [] (fun wc => ∃ (kq : Nat) (x544000_7 : Int) (x544001_7 : Int), Aside0 (spec_RowPut.j0 kq a1 a2 a3 a4 a0_0 a0_1 l0_2 t544 t545 t546 = some (r1, r2, r3, r4, r5)) ∧ Aside0 (kq ≤ k) ∧ Aside0 (Kd.R k_Item 55 wc w.heap.size (fun _ => True) (.slice Ao18 t546.length co18) t546) ∧ Aside0 (wc.heap[gb542]? = some (.cells #[.int .i64 a0_0, .int .i64 a0_1, (.slice A0_2 l0_2.length c0_2)] 48 (0, 0))) ∧ Aside0 (wc.heap[gb543]? = some (.cells #[.int .i64 x544000_7, .int .i64 x544001_7, (.slice none 0 0)] 48 (0, 0))) ∧ Aside0 (wc.heap[gb549]? = some (.cells #[.int .i64 t544, .int .i64 t545, (.slice Ao18 t546.length co18)] 48 (0, 0))) ∧ Aside0 (Below w.heap.size w wc))
  case first =>
    have H := HC8.out
    clear HC8
    by_cases c21 : t550 = true
    · subst c21
      have H1 : (spec_RowPut.j0 k a1 a2 a3 a4 a0_0 a0_1 l0_2 t544 t545 t546) = some (r1, r2, r3, r4, r5) := by rw [if_pos rfl] at H; exact H
      clear H
      have H := H1
      clear H1
      have H' := Aside0.mk H
      clear H
      go_wp2
      go_meet
      case rel => exact ⟨_, (0), (0), H', ⟨qd13_⟩, ⟨by (with_reducible repeat (first | apply Kd.R_alloc | apply Kd.R_drewN | apply Kd.R_drew)); exact HO548.out⟩, ⟨bq_ BK542.out⟩, ⟨bq_ BK543.out⟩, ⟨bq_ BK549.out⟩, ⟨qd0_⟩⟩
    · replace c21 := Bool.eq_false_iff.mpr c21
      subst c21
      have H1 : (some (t544, t545, t546, 0, false)) = some (r1, r2, r3, r4, r5) := by rw [if_neg (show ¬ (false = true) by decide)] at H; exact H
      clear H
      have H := H1
      clear H1
      simp only [Option.some.injEq, Prod.mk.injEq] at H
      obtain ⟨rfl, rfl, rfl, rfl, rfl⟩ := H
      have hnb22 := NB549_542.out
      have hnc22 := NB542_549.out
      have hnb23 := NB549_543.out
      have hnc23 := NB543_549.out
      have hcz24_0 : w20.cell? ⟨gb549, 0, none⟩ = some (.int .i64 t544) := bc_ BK549 0
      have hcz24_1 : w20.cell? ⟨gb549, 1, none⟩ = some (.int .i64 t545) := bc_ BK549 1
      have hcz24_2 : w20.cell? ⟨gb549, 2, none⟩ = some (.slice Ao18 t546.length co18) := bc_ BK549 2
      have hfz24_0 := blk_frozen BK549.out 0
      have hfz24_1 := blk_frozen BK549.out 1
      have hfz24_2 := blk_frozen BK549.out 2
      have hnb25 := NB543_542.out
      have hnc25 := NB542_543.out
      have hcz26_0 : w20.cell? ⟨gb543, 0, none⟩ = some (.int .i64 0) := bc_ BK543 0
      have hcz26_1 : w20.cell? ⟨gb543, 1, none⟩ = some (.int .i64 0) := bc_ BK543 1
      have hcz26_2 : w20.cell? ⟨gb543, 2, none⟩ = some (.slice none 0 0) := bc_ BK543 2
      have hfz26_0 := blk_frozen BK543.out 0
      have hfz26_1 := blk_frozen BK543.out 1
      have hfz26_2 := blk_frozen BK543.out 2
      go_wp2
      refine bodyPost_ret (results_ctt rfl _ _ gb543 48 #[.int .i64 t544, .int .i64 t545, .slice Ao18 t546.length co18] (0, 0) _ rfl (bp_ BK543.out) Try.underlying48 rfl (by kernel_rfl)) rfl ?_
      exact ⟨_, qd8_, by (with_reducible repeat (first | apply Kd.R_alloc | apply Kd.R_drewN | apply Kd.R_drew)); exact Kd.R_mono (Kd.R_far (p := ⟨gb543, 2, none⟩) (Kd.R_far (p := ⟨gb543, 1, none⟩) (Kd.R_far (p := ⟨gb543, 0, none⟩) (Kd.R_types HO548.out BK543.out (by decide)) (fun _ hk => hk.2) (.int .i64 t544)) (fun _ hk => hk.2) (.int .i64 t545)) (fun _ hk => hk.2) (.slice Ao18 t546.length co18)) (fun _ hk => trivial), qd0_⟩
  case rest =>
    clear HC8
    try clear c1
    try clear c2
    try clear p2
    try clear c6
    try clear c8
    try clear c11
    try clear c15
    try clear c16
    try clear c21
    try clear c22
    try clear c23
    try clear c25
    try clear hcz12_0
    try clear hcz12_1
    try clear hcz12_2
    try clear hcz17_0
    try clear hcz17_1
    try clear hcz17_2
    try clear hcz19_0
    try clear hcz19_1
    try clear hcz19_2
    try clear hcz24_0
    try clear hcz24_1
    try clear hcz24_2
    try clear hcz26_0
    try clear hcz26_1
    try clear hcz26_2
    try clear hfz12_0
    try clear hfz12_1
    try clear hfz12_2
    try clear hfz17_0
    try clear hfz17_1
    try clear hfz17_2
    try clear hfz19_0
    try clear hfz19_1
    try clear hfz19_2
    try clear hfz24_0
    try clear hfz24_1
    try clear hfz24_2
    try clear hfz26_0
    try clear hfz26_1
    try clear hfz26_2
    obtain ⟨kq, x544000_7, x544001_7, HA, HJ7, HO_550002, BK542, BK543, BK549, HB⟩ := hcut
    cases kq with
    | zero => exact absurd HA.out (by simp [spec_RowPut.j0])
    | succ kj7 =>
      have H := HA.out
      clear HA
      simp only [spec_RowPut.j0] at H
      by_cases c27 : t546.length < 2513169434916
      · rw [if_pos c27] at H
        have LMc27 := Aside0.mk c27
        clear c27
        obtain ⟨y551, hy551⟩ : ∃ y_ : List (S_Item), y_ = (t546 ++ [(⟨a0_1, a1, a2, a3, a4⟩ : S_Item)]) := ⟨_, rfl⟩
        replace H : ((spec_RowOk.f kj7 t544 (wrap64 (a0_1 + 1)) y551).bind fun t554 => (if t554 = true then (some (t544, wrap64 (a0_1 + 1), y551, a0_1, true)) else ((spec_l3Copy.f a0_0 a0_1 l0_2).bind fun bt555 => (some (bt555.1, bt555.2.1, bt555.2.2, 0, false))))) = some (r1, r2, r3, r4, r5) := by first | (rw [hy551]; with_reducible exact H) | (have H2_ := (Option.bind_some _ _).symm.trans H; rw [hy551]; with_reducible exact H2_) | (have H2_ := (Option.bind_some _ _).symm.trans H; with_reducible exact H2_) | with_reducible exact H | (rw [hy551]; exact H) | exact H
        have Ny551 := Aside0.mk hy551
        clear hy551
        replace H := Option.bind_eq_some_iff.mp H
        obtain ⟨t554, A280, H⟩ := H
        replace H : (if t554 = true then (some (t544, wrap64 (a0_1 + 1), y551, a0_1, true)) else ((spec_l3Copy.f a0_0 a0_1 l0_2).bind fun bt555 => (some (bt555.1, bt555.2.1, bt555.2.2, 0, false)))) = some (r1, r2, r3, r4, r5) := H
        have A28 := Aside0.mk A280
        clear A280
        by_cases c29 : t554 = true
        · subst c29
          have H1 : (some (t544, wrap64 (a0_1 + 1), y551, a0_1, true)) = some (r1, r2, r3, r4, r5) := by rw [if_pos rfl] at H; exact H
          clear H
          have H := H1
          clear H1
          simp only [Option.some.injEq, Prod.mk.injEq] at H
          obtain ⟨rfl, rfl, rfl, rfl, rfl⟩ := H
          have hnb30 := NB549_542.out
          have hnc30 := NB542_549.out
          have hnb31 := NB549_543.out
          have hnc31 := NB543_549.out
          have hcz32_0 : wc.cell? ⟨gb549, 0, none⟩ = some (.int .i64 t544) := bc_ BK549 0
          have hcz32_1 : wc.cell? ⟨gb549, 1, none⟩ = some (.int .i64 t545) := bc_ BK549 1
          have hcz32_2 : wc.cell? ⟨gb549, 2, none⟩ = some (.slice Ao18 t546.length co18) := bc_ BK549 2
          have hfz32_0 := blk_frozen BK549.out 0
          have hfz32_1 := blk_frozen BK549.out 1
          have hfz32_2 := blk_frozen BK549.out 2
          have hnb33 := NB542_543.out
          have hnc33 := NB543_542.out
          have hcz34_0 : wc.cell? ⟨gb542, 0, none⟩ = some (.int .i64 a0_0) := bc_ BK542 0
          have hcz34_1 : wc.cell? ⟨gb542, 1, none⟩ = some (.int .i64 a0_1) := bc_ BK542 1
          have hcz34_2 : wc.cell? ⟨gb542, 2, none⟩ = some (.slice A0_2 l0_2.length c0_2) := bc_ BK542 2
          have hfz34_0 := blk_frozen BK542.out 0
          have hfz34_1 := blk_frozen BK542.out 1
          have hfz34_2 := blk_frozen BK542.out 2
          try go_wp2_with (first | ((with_reducible refine gate_builtin (b := .append) (xs := #[.tmp 21, .tmp 29]) rfl ?_); at_builtin; refine Kd.R_append k_Item (w0 := w) w.heap.size rfl (.tmp 21) (.tmp 29) 46 55 (.agg #[(.int .i64 0), (.string ⟨#[]⟩), (.string ⟨#[]⟩), (.int .i64 0), (.int .i64 0)]) 56 rfl Try.underlying46 info55 rfl (by decide) (by omega) (.slice Ao18 t546.length co18) t546 (⟨a0_1, a1, a2, a3, a4⟩ : S_Item) [.int .i64 a0_1, .string a1, .string a2, .int .i64 a3, .int .i64 a4] (fun _ => True) (fun _ => False) rfl rfl ?aP (fun _ hk => hk.elim) ?aF ?aO ?aB ?aS ?aL ?_; (case aP => exact k_Item_mkM _ _ _ (⟨a0_1, a1, a2, a3, a4⟩ : S_Item)); (case aB => exact (qd0_)); (case aF => exact (fun _ _ => trivial)); (case aO => exact (by (with_reducible repeat (first | apply Kd.R_alloc | apply Kd.R_drewN | apply Kd.R_drew)); exact HO_550002.out)); (case aS => exact (below_size (qd0_))); (case aL => have := LMc27.out; omega); intro v552 w35 ho hb hg hat; rw [← Ny551.out] at ho; have n0_ := Aside0.mk (blk_grown (g := gb542) (o := .cells #[.int .i64 a0_0, .int .i64 a0_1, .slice A0_2 l0_2.length c0_2] 48 (0, 0)) (bq_ BK542.out) hg (Kd.R_ne HO_550002.out BK542.out (by decide))); have n1_ := Aside0.mk (blk_grown (g := gb543) (o := .cells #[.int .i64 x544000_7, .int .i64 x544001_7, .slice none 0 0] 48 (0, 0)) (bq_ BK543.out) hg (Kd.R_ne HO_550002.out BK543.out (by decide))); have n2_ := Aside0.mk (blk_grown (g := gb549) (o := .cells #[.int .i64 t544, .int .i64 t545, .slice Ao18 t546.length co18] 48 (0, 0)) (bq_ BK549.out) hg (Kd.R_ne HO_550002.out BK549.out (by decide))); have n3_ := Aside0.mk (hb); have n4_ := Aside0.mk (ho); clear BK542; clear BK543; clear BK549; clear HB; clear HO_550002; have BK542 := n0_; have BK543 := n1_; have BK549 := n2_; have HB := n3_; have HO553 := n4_; clear n0_ n1_ n2_ n3_ n4_; clear ho hb hg hat; obtain ⟨Ao36, co36, eo36⟩ := Kd.R_slice HO553.out; subst eo36; have hcz37_0 : w35.cell? ⟨gb549, 0, none⟩ = some (.int .i64 t544) := bc_ BK549 0; have hcz37_1 : w35.cell? ⟨gb549, 1, none⟩ = some (.int .i64 t545) := bc_ BK549 1; have hcz37_2 : w35.cell? ⟨gb549, 2, none⟩ = some (.slice Ao18 t546.length co18) := bc_ BK549 2; have hfz37_0 := blk_frozen BK549.out 0; have hfz37_1 := blk_frozen BK549.out 1; have hfz37_2 := blk_frozen BK549.out 2; have hcz38_0 : w35.cell? ⟨gb542, 0, none⟩ = some (.int .i64 a0_0) := bc_ BK542 0; have hcz38_1 : w35.cell? ⟨gb542, 1, none⟩ = some (.int .i64 a0_1) := bc_ BK542 1; have hcz38_2 : w35.cell? ⟨gb542, 2, none⟩ = some (.slice A0_2 l0_2.length c0_2) := bc_ BK542 2; have hfz38_0 := blk_frozen BK542.out 0; have hfz38_1 := blk_frozen BK542.out 1; have hfz38_2 := blk_frozen BK542.out 2) | ((with_reducible refine gate_callee (f := 69) rfl ?_); refine goesL_ (some 37) rfl rfl Try.func69 (by kernel_rfl) rfl #[.agg #[.int .i64 t544, .int .i64 (wrap64 (a0_1 + 1)), .slice Ao36 y551.length co36]] rfl (qd5_) ?_; (with_reducible refine (spec_RowOk.calls kj7 t544 (wrap64 (a0_1 + 1)) _ _ y551 true _ ?side1 ?side2 A28.out).mono ?_); (case side1 => refine (Kd.R_reads' (e := 55) (base := w.heap.size) (ok := fun k_ => True) (n := y551.length) (c := co36) ?_).2.2; exact (qd10_)); (case side2 => exact (Kd.R_reads' HO553.out).2.1); rintro e w39 ⟨rfl, hb⟩; refine ⟨_, rfl, ?_⟩; have n0_ := Aside0.mk (Kd.R_below (qd10_) hb); have n1_ := Aside0.mk (blk_below (g := gb542) (o := .cells #[.int .i64 a0_0, .int .i64 a0_1, .slice A0_2 l0_2.length c0_2] 48 (0, 0)) (bf_ NB542_549.out BK542.out) hb); have n2_ := Aside0.mk (blk_below (g := gb543) (o := .cells #[.int .i64 x544000_7, .int .i64 x544001_7, .slice none 0 0] 48 (0, 0)) (bf_ NB543_549.out BK543.out) hb); have n3_ := Aside0.mk (blk_below (g := gb549) (o := .cells #[.int .i64 t544, .int .i64 (wrap64 (a0_1 + 1)), .slice Ao36 y551.length co36] 48 (0, 0)) (bp_ BK549.out) hb); have n4_ := Aside0.mk (below_step (qd0_) hb); clear HO553; clear BK542; clear BK543; clear BK549; clear HB; have HO553 := n0_; have BK542 := n1_; have BK543 := n2_; have BK549 := n3_; have HB := n4_; clear n0_ n1_ n2_ n3_ n4_; (try clear hb); (try clear hb2); (try clear hk); (try clear hi)))
          have n0_ := Aside0.mk (Kd.R_drew HO553.out)
          have n1_ := Aside0.mk (blk_drew BK542.out)
          have n2_ := Aside0.mk (blk_drew BK543.out)
          have n3_ := Aside0.mk (blk_drew BK549.out)
          have n4_ := Aside0.mk (below_drew1 HB.out)
          clear HO553
          clear BK542
          clear BK543
          clear BK549
          clear HB
          have HO553 := n0_
          have BK542 := n1_
          have BK543 := n2_
          have BK549 := n3_
          have HB := n4_
          clear n0_ n1_ n2_ n3_ n4_
          refine start_ (n := 6) (S := fun w' => w'.cell? ⟨gb549, 0, none⟩ = some (.int .i64 t544) ∧ w'.cell? ⟨gb549, 1, none⟩ = some (.int .i64 (wrap64 (a0_1 + 1))) ∧ w'.cell? ⟨gb549, 2, none⟩ = some (.slice Ao36 y551.length co36) ∧ w'.cell? ⟨gb542, 0, none⟩ = some (.int .i64 a0_0) ∧ w'.cell? ⟨gb542, 1, none⟩ = some (.int .i64 a0_1) ∧ w'.cell? ⟨gb542, 2, none⟩ = some (.slice A0_2 l0_2.length c0_2)) (ds := []) #[false, false, false, false, false, false] (by kernel_rfl) rfl rfl ⟨bc_ BK549 0, bc_ BK549 1, bc_ BK549 2, bc_ BK542 0, bc_ BK542 1, bc_ BK542 2⟩ (fun hHeld => ?_)
          generalize w39.drew = w40 at HO553 BK542 BK543 BK549 HB hHeld ⊢
          refine pure_ (i := 1) (N := some 42) (v := ?_) (a' := ?_) #[false, true, false, false, false, false] rfl rfl (by kernel_rfl) (fun _ _ _ h => h) (Or.inl ⟨by rfl, ?_⟩) ?_ ?_
          rotate_left
          · intro w'
            go_simp
            with_reducible rfl
          rotate_left
          · simp only [Act.put, List.setIfInBounds_toArray, List.set_cons_zero, List.set_cons_succ, i64_w, i32_w]
            rfl
          refine take_ (i := 0) (N := some 41) (v := ?_) (a' := ?_) #[true, true, false, false, false, false] rfl rfl (by kernel_rfl) (fun _ _ _ h => h) (Or.inl ⟨by rfl, ?_⟩) hHeld ?_ ?_
          rotate_left
          · rintro w' ⟨s0, s1, s2, s3, s4, s5⟩
            go_simp
            with_reducible rfl
          rotate_left
          · simp only [Act.put, List.setIfInBounds_toArray, List.set_cons_zero, List.set_cons_succ, i64_w, i32_w]
            rfl
          refine take_ (i := 2) (N := some 43) (v := ?_) (a' := ?_) #[true, true, true, false, false, false] rfl rfl (by kernel_rfl) (fun _ _ _ h => h) (Or.inl ⟨by rfl, ?_⟩) hHeld ?_ ?_
          rotate_left
          · rintro w' ⟨s0, s1, s2, s3, s4, s5⟩
            go_simp
            with_reducible rfl
          rotate_left
          · simp only [Act.put, List.setIfInBounds_toArray, List.set_cons_zero, List.set_cons_succ, i64_w, i32_w]
            rfl
          refine one_ (i := 3) (N := none) #[true, true, true, true, false, false] rfl rfl (by kernel_rfl) (by decide) (fun K hK => ?_)
          have hs41 : w40.cell? ⟨gb543, 0, none⟩ = some (.int .i64 x544000_7) := bc_ BK543 0
          have hfs41 := blk_frozen BK543.out 0
          have hns41_0 := NB542_543.out
          have hns41_2 := NB549_543.out
          have hms41_0 := NB543_542.out
          have hms41_2 := NB543_549.out
          have hs42 : w40.cell? ⟨gb543, 1, none⟩ = some (.int .i64 x544001_7) := bc_ BK543 1
          have hfs42 := blk_frozen BK543.out 1
          have hns42_0 := NB542_543.out
          have hns42_2 := NB549_543.out
          have hms42_0 := NB543_542.out
          have hms42_2 := NB543_549.out
          have hs43 : w40.cell? ⟨gb543, 2, none⟩ = some (.slice none 0 0) := bc_ BK543 2
          have hfs43 := blk_frozen BK543.out 2
          have hns43_0 := NB542_543.out
          have hns43_2 := NB549_543.out
          have hms43_0 := NB543_542.out
          have hms43_2 := NB543_549.out
          refine skip_ (w1 := ?_) (by rfl) rfl ?_ ?_
          rotate_left
          · go_simp
            rfl
          refine hK.out _ _ ⟨(cfs_ NB549_543.out (hHeld.1)), (cfs_ NB549_543.out (hHeld.2.1)), (cfs_ NB549_543.out (hHeld.2.2.1)), (cfs_ NB542_543.out (hHeld.2.2.2.1)), (cfs_ NB542_543.out (hHeld.2.2.2.2.1)), (cfs_ NB542_543.out (hHeld.2.2.2.2.2))⟩ (fun hHeld => ?_)
          clear hK K
          refine pure_ (i := 4) (N := some 11) (v := ?_) (a' := ?_) #[true, true, true, true, true, false] rfl rfl (by kernel_rfl) (fun _ _ _ h => h) (Or.inl ⟨by rfl, ?_⟩) ?_ ?_
          rotate_left
          · intro w'
            go_simp
            with_reducible rfl
          rotate_left
          · simp only [Act.put, List.setIfInBounds_toArray, List.set_cons_zero, List.set_cons_succ, i64_w, i32_w]
            rfl
          refine pure_ (i := 5) (N := some 12) (v := ?_) (a' := ?_) #[true, true, true, true, true, true] rfl rfl (by kernel_rfl) (fun _ _ _ h => h) (Or.inl ⟨by rfl, ?_⟩) ?_ ?_
          rotate_left
          · intro w'
            go_simp
            with_reducible rfl
          rotate_left
          · simp only [Act.put, List.setIfInBounds_toArray, List.set_cons_zero, List.set_cons_succ, i64_w, i32_w]
            rfl
          refine done_ (by kernel_rfl) ?_
          try go_wp2
          refine bodyPost_ret (results_ctt rfl _ _ gb543 48 #[.int .i64 t544, .int .i64 (wrap64 (a0_1 + 1)), .slice Ao36 y551.length co36] (0, 0) _ rfl (bp_ BK543.out) Try.underlying48 rfl (by kernel_rfl)) rfl ?_
          exact ⟨_, qd8_, by (with_reducible repeat (first | apply Kd.R_alloc | apply Kd.R_drewN | apply Kd.R_drew)); exact Kd.R_mono (Kd.R_far (p := ⟨gb543, 2, none⟩) (Kd.R_far (p := ⟨gb543, 1, none⟩) (Kd.R_far (p := ⟨gb543, 0, none⟩) (Kd.R_types HO553.out BK543.out (by decide)) (fun _ hk => hk.2) (.int .i64 t544)) (fun _ hk => hk.2) (.int .i64 (wrap64 (a0_1 + 1)))) (fun _ hk => hk.2) (.slice Ao36 y551.length co36)) (fun _ hk => trivial), qd0_⟩
        · replace c29 := Bool.eq_false_iff.mpr c29
          subst c29
          have H1 : ((spec_l3Copy.f a0_0 a0_1 l0_2).bind fun bt555 => (some (bt555.1, bt555.2.1, bt555.2.2, 0, false))) = some (r1, r2, r3, r4, r5) := by rw [if_neg (show ¬ (false = true) by decide)] at H; exact H
          clear H
          have H := H1
          clear H1
          replace H := Option.bind_eq_some_iff.mp H
          obtain ⟨⟨t555, t556, t557⟩, A440, H⟩ := H
          replace H : (some (t555, t556, t557, 0, false)) = some (r1, r2, r3, r4, r5) := H
          have A44 := Aside0.mk A440
          clear A440
          simp only [Option.some.injEq, Prod.mk.injEq] at H
          obtain ⟨rfl, rfl, rfl, rfl, rfl⟩ := H
          have hnb45 := NB549_542.out
          have hnc45 := NB542_549.out
          have hnb46 := NB549_543.out
          have hnc46 := NB543_549.out
          have hcz47_0 : wc.cell? ⟨gb549, 0, none⟩ = some (.int .i64 t544) := bc_ BK549 0
          have hcz47_1 : wc.cell? ⟨gb549, 1, none⟩ = some (.int .i64 t545) := bc_ BK549 1
          have hcz47_2 : wc.cell? ⟨gb549, 2, none⟩ = some (.slice Ao18 t546.length co18) := bc_ BK549 2
          have hfz47_0 := blk_frozen BK549.out 0
          have hfz47_1 := blk_frozen BK549.out 1
          have hfz47_2 := blk_frozen BK549.out 2
          have hnb48 := NB542_543.out
          have hnc48 := NB543_542.out
          have hcz49_0 : wc.cell? ⟨gb542, 0, none⟩ = some (.int .i64 a0_0) := bc_ BK542 0
          have hcz49_1 : wc.cell? ⟨gb542, 1, none⟩ = some (.int .i64 a0_1) := bc_ BK542 1
          have hcz49_2 : wc.cell? ⟨gb542, 2, none⟩ = some (.slice A0_2 l0_2.length c0_2) := bc_ BK542 2
          have hfz49_0 := blk_frozen BK542.out 0
          have hfz49_1 := blk_frozen BK542.out 1
          have hfz49_2 := blk_frozen BK542.out 2
          go_wp2_with (first | ((with_reducible refine gate_builtin (b := .append) (xs := #[.tmp 21, .tmp 29]) rfl ?_); at_builtin; refine Kd.R_append k_Item (w0 := w) w.heap.size rfl (.tmp 21) (.tmp 29) 46 55 (.agg #[(.int .i64 0), (.string ⟨#[]⟩), (.string ⟨#[]⟩), (.int .i64 0), (.int .i64 0)]) 56 rfl Try.underlying46 info55 rfl (by decide) (by omega) (.slice Ao18 t546.length co18) t546 (⟨a0_1, a1, a2, a3, a4⟩ : S_Item) [.int .i64 a0_1, .string a1, .string a2, .int .i64 a3, .int .i64 a4] (fun _ => True) (fun _ => False) rfl rfl ?aP (fun _ hk => hk.elim) ?aF ?aO ?aB ?aS ?aL ?_; (case aP => exact k_Item_mkM _ _ _ (⟨a0_1, a1, a2, a3, a4⟩ : S_Item)); (case aB => exact (qd0_)); (case aF => exact (fun _ _ => trivial)); (case aO => exact (by (with_reducible repeat (first | apply Kd.R_alloc | apply Kd.R_drewN | apply Kd.R_drew)); exact HO_550002.out)); (case aS => exact (below_size (qd0_))); (case aL => have := LMc27.out; omega); intro v552 w50 ho hb hg hat; rw [← Ny551.out] at ho; have n0_ := Aside0.mk (blk_grown (g := gb542) (o := .cells #[.int .i64 a0_0, .int .i64 a0_1, .slice A0_2 l0_2.length c0_2] 48 (0, 0)) (bq_ BK542.out) hg (Kd.R_ne HO_550002.out BK542.out (by decide))); have n1_ := Aside0.mk (blk_grown (g := gb543) (o := .cells #[.int .i64 x544000_7, .int .i64 x544001_7, .slice none 0 0] 48 (0, 0)) (bq_ BK543.out) hg (Kd.R_ne HO_550002.out BK543.out (by decide))); have n2_ := Aside0.mk (blk_grown (g := gb549) (o := .cells #[.int .i64 t544, .int .i64 t545, .slice Ao18 t546.length co18] 48 (0, 0)) (bq_ BK549.out) hg (Kd.R_ne HO_550002.out BK549.out (by decide))); have n3_ := Aside0.mk (hb); have n4_ := Aside0.mk (ho); clear BK542; clear BK543; clear BK549; clear HB; clear HO_550002; have BK542 := n0_; have BK543 := n1_; have BK549 := n2_; have HB := n3_; have HO553 := n4_; clear n0_ n1_ n2_ n3_ n4_; clear ho hb hg hat; obtain ⟨Ao51, co51, eo51⟩ := Kd.R_slice HO553.out; subst eo51; have hcz52_0 : w50.cell? ⟨gb549, 0, none⟩ = some (.int .i64 t544) := bc_ BK549 0; have hcz52_1 : w50.cell? ⟨gb549, 1, none⟩ = some (.int .i64 t545) := bc_ BK549 1; have hcz52_2 : w50.cell? ⟨gb549, 2, none⟩ = some (.slice Ao18 t546.length co18) := bc_ BK549 2; have hfz52_0 := blk_frozen BK549.out 0; have hfz52_1 := blk_frozen BK549.out 1; have hfz52_2 := blk_frozen BK549.out 2; have hcz53_0 : w50.cell? ⟨gb542, 0, none⟩ = some (.int .i64 a0_0) := bc_ BK542 0; have hcz53_1 : w50.cell? ⟨gb542, 1, none⟩ = some (.int .i64 a0_1) := bc_ BK542 1; have hcz53_2 : w50.cell? ⟨gb542, 2, none⟩ = some (.slice A0_2 l0_2.length c0_2) := bc_ BK542 2; have hfz53_0 := blk_frozen BK542.out 0; have hfz53_1 := blk_frozen BK542.out 1; have hfz53_2 := blk_frozen BK542.out 2) | ((with_reducible refine gate_callee (f := 69) rfl ?_); refine goesL_ (some 37) rfl rfl Try.func69 (by kernel_rfl) rfl #[.agg #[.int .i64 t544, .int .i64 (wrap64 (a0_1 + 1)), .slice Ao51 y551.length co51]] rfl (qd5_) ?_; (with_reducible refine (spec_RowOk.calls kj7 t544 (wrap64 (a0_1 + 1)) _ _ y551 false _ ?side1 ?side2 A28.out).mono ?_); (case side1 => refine (Kd.R_reads' (e := 55) (base := w.heap.size) (ok := fun k_ => True) (n := y551.length) (c := co51) ?_).2.2; exact (qd9_)); (case side2 => exact (Kd.R_reads' HO553.out).2.1); rintro e w54 ⟨rfl, hb⟩; refine ⟨_, rfl, ?_⟩; have n0_ := Aside0.mk (Kd.R_below (qd9_) hb); have n1_ := Aside0.mk (blk_below (g := gb542) (o := .cells #[.int .i64 a0_0, .int .i64 a0_1, .slice A0_2 l0_2.length c0_2] 48 (0, 0)) (bf_ NB542_549.out BK542.out) hb); have n2_ := Aside0.mk (blk_below (g := gb543) (o := .cells #[.int .i64 x544000_7, .int .i64 x544001_7, .slice none 0 0] 48 (0, 0)) (bf_ NB543_549.out BK543.out) hb); have n3_ := Aside0.mk (blk_below (g := gb549) (o := .cells #[.int .i64 t544, .int .i64 (wrap64 (a0_1 + 1)), .slice Ao51 y551.length co51] 48 (0, 0)) (bp_ BK549.out) hb); have n4_ := Aside0.mk (below_step (qd0_) hb); clear HO553; clear BK542; clear BK543; clear BK549; clear HB; have HO553 := n0_; have BK542 := n1_; have BK543 := n2_; have BK549 := n3_; have HB := n4_; clear n0_ n1_ n2_ n3_ n4_; (try clear hb); (try clear hb2); (try clear hk); (try clear hi); have hcz55_0 : w54.cell? ⟨gb542, 0, none⟩ = some (.int .i64 a0_0) := bc_ BK542 0; have hcz55_1 : w54.cell? ⟨gb542, 1, none⟩ = some (.int .i64 a0_1) := bc_ BK542 1; have hcz55_2 : w54.cell? ⟨gb542, 2, none⟩ = some (.slice A0_2 l0_2.length c0_2) := bc_ BK542 2; have hfz55_0 := blk_frozen BK542.out 0; have hfz55_1 := blk_frozen BK542.out 1; have hfz55_2 := blk_frozen BK542.out 2) | ((with_reducible refine gate_callee (f := 68) rfl ?_); refine goesL_ (some 40) rfl rfl Try.func68 (by kernel_rfl) rfl #[.agg #[.int .i64 a0_0, .int .i64 a0_1, .slice A0_2 l0_2.length c0_2]] rfl (qd5_) ?_; (with_reducible refine (spec_l3Copy.calls a0_0 a0_1 _ _ l0_2 t555 t556 t557 _ ?side1 ?side2 A44.out).mono ?_); (case side1 => repeat (first | exact (Kd.C_below HR0_2.out HB.out) | (with_reducible refine Kd.C_alloc ?_ _) | (with_reducible refine Kd.C_drewN ?_ _) | (with_reducible refine Kd.C_drew ?_))); (case side2 => exact HC0_2.out); rintro e w56 ⟨v558, rfl, ho0, hb⟩; refine ⟨_, rfl, ?_⟩; have n0_ := Aside0.mk (Kd.R_elder' (by (with_reducible repeat (first | apply Kd.R_alloc | apply Kd.R_drewN | apply Kd.R_drew)); exact HO553.out) (Kd.R_base ho0) hb); have n1_ := Aside0.mk (Kd.R_lower (Kd.R_new' ho0 (Kd.R_lt (by (with_reducible repeat (first | apply Kd.R_alloc | apply Kd.R_drewN | apply Kd.R_drew)); exact HO553.out))) (below_size (qd0_))); have n2_ := Aside0.mk (blk_below (g := gb542) (o := .cells #[.int .i64 a0_0, .int .i64 a0_1, .slice A0_2 l0_2.length c0_2] 48 (0, 0)) (bq_ BK542.out) hb); have n3_ := Aside0.mk (blk_below (g := gb543) (o := .cells #[.int .i64 x544000_7, .int .i64 x544001_7, .slice none 0 0] 48 (0, 0)) (bq_ BK543.out) hb); have n4_ := Aside0.mk (blk_below (g := gb549) (o := .cells #[.int .i64 t544, .int .i64 (wrap64 (a0_1 + 1)), .slice Ao51 y551.length co51] 48 (0, 0)) (bq_ BK549.out) hb); have n5_ := Aside0.mk (below_step (qd0_) hb); clear HO553; clear BK542; clear BK543; clear BK549; clear HB; have HO553 := n0_; have HO559 := n1_; have BK542 := n2_; have BK543 := n3_; have BK549 := n4_; have HB := n5_; clear n0_ n1_ n2_ n3_ n4_ n5_; (try clear hb); (try clear hb2); (try clear hk); (try clear hi); (try clear ho0); have hcz57_0 : w56.cell? ⟨gb543, 0, none⟩ = some (.int .i64 x544000_7) := bc_ BK543 0; have hcz57_1 : w56.cell? ⟨gb543, 1, none⟩ = some (.int .i64 x544001_7) := bc_ BK543 1; have hcz57_2 : w56.cell? ⟨gb543, 2, none⟩ = some (.slice none 0 0) := bc_ BK543 2; have hfz57_0 := blk_frozen BK543.out 0; have hfz57_1 := blk_frozen BK543.out 1; have hfz57_2 := blk_frozen BK543.out 2; obtain ⟨Ao58, co58, eo58⟩ := Kd.R_slice HO559.out; subst eo58))
          refine bodyPost_ret (results_ctt rfl _ _ gb543 48 #[.int .i64 t555, .int .i64 t556, .slice Ao58 t557.length co58] (0, 0) _ rfl (bp_ BK543.out) Try.underlying48 rfl (by kernel_rfl)) rfl ?_
          exact ⟨_, qd8_, by (with_reducible repeat (first | apply Kd.R_alloc | apply Kd.R_drewN | apply Kd.R_drew)); exact Kd.R_mono (Kd.R_far (p := ⟨gb543, 2, none⟩) (Kd.R_far (p := ⟨gb543, 1, none⟩) (Kd.R_far (p := ⟨gb543, 0, none⟩) (Kd.R_types HO559.out BK543.out (by decide)) (fun _ hk => hk.2) (.int .i64 t555)) (fun _ hk => hk.2) (.int .i64 t556)) (fun _ hk => hk.2) (.slice Ao58 t557.length co58)) (fun _ hk => trivial), qd0_⟩
      · rw [if_neg c27] at H
        exact absurd H (by simp)
end Go.Proofs.Ythkepjgolaichaa.Q
