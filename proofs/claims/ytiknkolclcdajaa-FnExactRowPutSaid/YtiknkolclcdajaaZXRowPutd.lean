/- Made by a program of ours out of the print of the loaded functions: for each of some functions a plain function, and the walk that shows that a call comes to what it says. No condition but those of each theorem. -/
import Derived.Test.YtiknkolclcdajaaZXRowPut0
import Derived.Test.YtiknkolclcdajaaZXRowPutb
import Derived.Test.YtiknkolclcdajaaZXRowPutc
namespace Go.Proofs.Ytiknkolclcdajaa.Q
open Go.RowKit Go.Proofs.YtiknkolclcdajaaW.PrintWords Go.Proofs.YtiknkolclcdajaaW.PrintLast Go.Proofs.YtiknkolclcdajaaW.PrintMore
attribute [local go_sem] max2_int min2_int max_two min_two max_three min_three max_four min_four   -- for this text's walks alone
set_option linter.unusedVariables false
set_option linter.unusedSimpArgs false

/-! ### impl_copyRow: function 97 -/
def impl_copyRow.f (a0_0 : Int) (a0_1 : Int) (l0_2 : List (S_Item)) : Option (Int × Int × (List (S_Item))) := if ([] : List (S_Item)).length + l0_2.length < 2513169434916 then (some (a0_0, a0_1, (([] : List (S_Item)) ++ l0_2))) else (none)
set_option maxHeartbeats 8000000 in
set_option maxRecDepth 100000 in
theorem impl_copyRow.calls (a0_0 : Int) (a0_1 : Int) (A0_2 : Option Addr) (c0_2 : Nat) (l0_2 : List (S_Item)) (r1 : Int) (r2 : Int) (r3 : List (S_Item)) (w : World) (hr0_2 : Kd.C k_Item w A0_2 l0_2.length l0_2) (hc0_2 : l0_2.length ≤ c0_2) (h : impl_copyRow.f a0_0 a0_1 l0_2 = some (r1, r2, r3)) :
    Calls Try.prog 97 #[.agg #[.int .i64 a0_0, .int .i64 a0_1, .slice A0_2 l0_2.length c0_2]] w fun e w' => ∃ v2_ : Value, e = .returned (.agg #[.int .i64 r1, .int .i64 r2, v2_]) ∧ Kd.R k_Item 69 w' w.heap.size (fun _ => True) v2_ r3 ∧ Below w.heap.size w w' := by
  have hu57 := Try.underlying57
  have HR0_2 := Aside0.mk hr0_2
  have HC0_2 := Aside0.mk hc0_2
  clear hr0_2 hc0_2
  have HB := Aside0.mk (Below.refl w.heap.size w)
  have H : (if ([] : List (S_Item)).length + l0_2.length < 2513169434916 then (some (a0_0, a0_1, (([] : List (S_Item)) ++ l0_2))) else (none)) = some (r1, r2, r3) := h
  clear h
  by_cases c2 : ([] : List (S_Item)).length + l0_2.length < 2513169434916
  · rw [if_pos c2] at H
    have LMc2 := Aside0.mk c2
    clear c2
    obtain ⟨y981, hy981⟩ : ∃ y_ : List (S_Item), y_ = (([] : List (S_Item)) ++ l0_2) := ⟨_, rfl⟩
    replace H : (some (a0_0, a0_1, y981)) = some (r1, r2, r3) := by first | (rw [hy981]; with_reducible exact H) | (have H2_ := (Option.bind_some _ _).symm.trans H; rw [hy981]; with_reducible exact H2_) | (have H2_ := (Option.bind_some _ _).symm.trans H; with_reducible exact H2_) | with_reducible exact H | (rw [hy981]; exact H) | exact H
    have Ny981 := Aside0.mk hy981
    clear hy981
    simp only [Option.some.injEq, Prod.mk.injEq] at H
    obtain ⟨rfl, rfl, rfl⟩ := H
    go_enter Try.func97, Try.ntmps97
    go_wp2_with (first | ((with_reducible refine gate_dst (N := 1) rfl ?_); refine box_event ?hg (N := 1) ?hd (cs := #[.int .i64 a0_0, .int .i64 a0_1, .slice A0_2 l0_2.length c0_2]) (t := 57) ?hr ?_; (case hd => rfl); (case hg => rfl); (case hr => first | (go_simp; done) | (go_simp; rfl)); intro gb979 hg w3 hbox hb; have n0_ := Aside0.mk (below_step (by repeat (first | (with_reducible first | exact HB.out | apply below_alloc | apply pw_below_drewN | apply below_drew1) | exact HB.out)) hb); have n1_ := Aside0.mk (hbox); have n2_ := Aside0.mk ((by rw [hg]; exact (below_size (by repeat (first | (with_reducible first | exact HB.out | apply below_alloc | apply pw_below_drewN | apply below_drew1) | exact HB.out))) : w.heap.size ≤ gb979)); have n3_ := Aside0.mk ((by rw [hg]; exact (below_size (by repeat (first | (with_reducible first | exact HB.out | apply below_alloc | apply pw_below_drewN | apply below_drew1) | exact HB.out))) : w.heap.size ≤ gb979)); clear HB; have HB := n0_; have BK979 := n1_; have GW979 := n2_; have GE979 := n3_; clear n0_ n1_ n2_ n3_; clear hb hbox hg) | ((with_reducible refine gate_dst (N := 2) rfl ?_); refine box_event ?hg (N := 2) ?hd (cs := #[.int .i64 0, .int .i64 0, .slice none 0 0]) (t := 57) ?hr ?_; (case hd => rfl); (case hg => rfl); (case hr => first | (go_simp; done) | (go_simp; rfl)); intro gb980 hg w4 hbox hb; have n0_ := Aside0.mk (blk_below (g := gb979) (o := .cells #[.int .i64 a0_0, .int .i64 a0_1, .slice A0_2 l0_2.length c0_2] 57 (0, 0)) (by (with_reducible repeat (first | refine blk_drewN ?_ _ | refine blk_drew ?_ | refine blk_alloc ?_ _)); exact BK979.out) hb); have n1_ := Aside0.mk (below_step (by repeat (first | (with_reducible first | exact HB.out | apply below_alloc | apply pw_below_drewN | apply below_drew1 | refine below_set ?_ GE979.out) | exact HB.out)) hb); have n2_ := Aside0.mk (hbox); have n3_ := Aside0.mk ((by rw [hg]; exact (below_size (by repeat (first | (with_reducible first | exact HB.out | apply below_alloc | apply pw_below_drewN | apply below_drew1 | refine below_set ?_ GE979.out) | exact HB.out))) : w.heap.size ≤ gb980)); have n4_ := Aside0.mk ((by rw [hg]; exact (below_size (by repeat (first | (with_reducible first | exact HB.out | apply below_alloc | apply pw_below_drewN | apply below_drew1 | refine below_set ?_ GE979.out) | exact HB.out))) : w.heap.size ≤ gb980)); have n5_ := Aside0.mk ((by rw [hg]; exact Nat.ne_of_lt (blk_lt (g := gb979) (o := .cells #[.int .i64 a0_0, .int .i64 a0_1, .slice A0_2 l0_2.length c0_2] 57 (0, 0)) (by (with_reducible repeat (first | refine blk_drewN ?_ _ | refine blk_drew ?_ | refine blk_alloc ?_ _)); exact BK979.out)) : gb979 ≠ gb980)); have n6_ := Aside0.mk ((by rw [hg]; exact Nat.ne_of_gt (blk_lt (g := gb979) (o := .cells #[.int .i64 a0_0, .int .i64 a0_1, .slice A0_2 l0_2.length c0_2] 57 (0, 0)) (by (with_reducible repeat (first | refine blk_drewN ?_ _ | refine blk_drew ?_ | refine blk_alloc ?_ _)); exact BK979.out)) : gb980 ≠ gb979)); clear BK979; clear HB; have BK979 := n0_; have HB := n1_; have BK980 := n2_; have GW980 := n3_; have GE980 := n4_; have NB979_980 := n5_; have NB980_979 := n6_; clear n0_ n1_ n2_ n3_ n4_ n5_ n6_; clear hb hbox hg; have hnb5 := NB979_980.out; have hnc5 := NB980_979.out; have hcz6_0 : w4.cell? ⟨gb979, 0, none⟩ = some (.int .i64 a0_0) := (blk_cell BK979.out 0).trans rfl; have hcz6_1 : w4.cell? ⟨gb979, 1, none⟩ = some (.int .i64 a0_1) := (blk_cell BK979.out 1).trans rfl; have hcz6_2 : w4.cell? ⟨gb979, 2, none⟩ = some (.slice A0_2 l0_2.length c0_2) := (blk_cell BK979.out 2).trans rfl; have hfz6_0 := blk_frozen BK979.out 0; have hfz6_1 := blk_frozen BK979.out 1; have hfz6_2 := blk_frozen BK979.out 2) | ((with_reducible refine gate_builtin (b := .append) (xs := #[.const (.slice none 0 0), .tmp 4]) rfl ?_); at_builtin; refine Kd.R_append_rows k_Item (w0 := w) w.heap.size rfl (.const (.slice none 0 0)) (.tmp 4) 55 69 (.agg #[(.int .i64 0), (.string ⟨#[]⟩), (.string ⟨#[]⟩), (.int .i64 0), (.int .i64 0)]) 56 rfl Try.underlying55 info69 rfl (by decide) (by omega) (.slice none 0 0) ([] : List (S_Item)) l0_2 _ _ _ (fun _ => True) (fun _ => False) rfl rfl ?aO ?aR (fun _ _ h => h) (fun _ h => h.elim) ?aF ?aB ?aS ?aL ?_; (case aR => repeat (first | exact (Kd.C_below HR0_2.out HB.out) | (with_reducible refine Kd.C_alloc ?_ _) | (with_reducible refine Kd.C_drewN ?_ _) | (with_reducible refine Kd.C_drew ?_))); (case aB => exact (by repeat (first | (with_reducible first | exact HB.out | apply below_alloc | apply pw_below_drewN | apply below_drew1 | refine below_set ?_ GE979.out | refine below_set ?_ GE980.out) | exact HB.out))); (case aF => exact (fun _ _ => trivial)); (case aO => exact ((Kd.R_nil _ _ _ _ (fun _ => True)))); (case aS => exact (below_size (by repeat (first | (with_reducible first | exact HB.out | apply below_alloc | apply pw_below_drewN | apply below_drew1 | refine below_set ?_ GE979.out | refine below_set ?_ GE980.out) | exact HB.out)))); (case aL => have := LMc2.out; omega); intro v982 w7 ho hb hg hat; rw [← Ny981.out] at ho; have n0_ := Aside0.mk (blk_grown (g := gb979) (o := .cells #[.int .i64 a0_0, .int .i64 a0_1, .slice A0_2 l0_2.length c0_2] 57 (0, 0)) (by (with_reducible repeat (first | refine blk_drewN ?_ _ | refine blk_drew ?_ | refine blk_alloc ?_ _)); exact BK979.out) hg (by simp [Value.ownBlock])); have n1_ := Aside0.mk (blk_grown (g := gb980) (o := .cells #[.int .i64 0, .int .i64 0, .slice none 0 0] 57 (0, 0)) (by (with_reducible repeat (first | refine blk_drewN ?_ _ | refine blk_drew ?_ | refine blk_alloc ?_ _)); exact BK980.out) hg (by simp [Value.ownBlock])); have n2_ := Aside0.mk (hb); have n3_ := Aside0.mk (ho); clear BK979; clear BK980; clear HB; have BK979 := n0_; have BK980 := n1_; have HB := n2_; have HO983 := n3_; clear n0_ n1_ n2_ n3_; clear ho hb hg hat; obtain ⟨Ao8, co8, eo8⟩ := Kd.R_slice HO983.out; subst eo8; have hcz9_0 : w7.cell? ⟨gb979, 0, none⟩ = some (.int .i64 a0_0) := (blk_cell BK979.out 0).trans rfl; have hcz9_1 : w7.cell? ⟨gb979, 1, none⟩ = some (.int .i64 a0_1) := (blk_cell BK979.out 1).trans rfl; have hcz9_2 : w7.cell? ⟨gb979, 2, none⟩ = some (.slice A0_2 l0_2.length c0_2) := (blk_cell BK979.out 2).trans rfl; have hfz9_0 := blk_frozen BK979.out 0; have hfz9_1 := blk_frozen BK979.out 1; have hfz9_2 := blk_frozen BK979.out 2; have hcz10_0 : w7.cell? ⟨gb980, 0, none⟩ = some (.int .i64 0) := (blk_cell BK980.out 0).trans rfl; have hcz10_1 : w7.cell? ⟨gb980, 1, none⟩ = some (.int .i64 0) := (blk_cell BK980.out 1).trans rfl; have hcz10_2 : w7.cell? ⟨gb980, 2, none⟩ = some (.slice none 0 0) := (blk_cell BK980.out 2).trans rfl; have hfz10_0 := blk_frozen BK980.out 0; have hfz10_1 := blk_frozen BK980.out 1; have hfz10_2 := blk_frozen BK980.out 2))
    refine bodyPost_ret (results_cell_row rfl _ _ gb980 57 #[.int .i64 a0_0, .int .i64 a0_1, .slice Ao8 y981.length co8] (0, 0) _ rfl (by (with_reducible repeat (first | refine blk_drewN ?_ _ | refine blk_drew ?_ | refine blk_alloc ?_ _)); refine blk_put (cs := #[.int .i64 a0_0, .int .i64 a0_1, .slice none 0 0]) ?_ 2 _ rfl; (with_reducible repeat (first | refine blk_drewN ?_ _ | refine blk_drew ?_ | refine blk_alloc ?_ _)); refine blk_put (cs := #[.int .i64 a0_0, .int .i64 0, .slice none 0 0]) ?_ 1 _ rfl; (with_reducible repeat (first | refine blk_drewN ?_ _ | refine blk_drew ?_ | refine blk_alloc ?_ _)); refine blk_put (cs := #[.int .i64 0, .int .i64 0, .slice none 0 0]) ?_ 0 _ rfl; (with_reducible repeat (first | refine blk_drewN ?_ _ | refine blk_drew ?_ | refine blk_alloc ?_ _)); refine blk_far ?_ NB980_979.out _; (with_reducible repeat (first | refine blk_drewN ?_ _ | refine blk_drew ?_ | refine blk_alloc ?_ _)); exact BK980.out) Try.underlying57 rfl (by kernel_rfl)) rfl ?_
    exact ⟨_, by first | rfl | (simp [errW_none, errW_some] <;> rfl) | (simp [*, errW_none, errW_some] <;> rfl), by (with_reducible repeat (first | apply Kd.R_alloc | apply Kd.R_drewN | apply Kd.R_drew)); exact Kd.R_mono (Kd.R_far (p := ⟨gb980, 2, none⟩) (Kd.R_far (p := ⟨gb980, 1, none⟩) (Kd.R_far (p := ⟨gb980, 0, none⟩) (Kd.R_far (p := ⟨gb979, 2, none⟩) (Kd.R_types (Kd.R_types HO983.out BK979.out (by decide)) BK980.out (by decide)) (fun _ hk => hk.1.2) (.slice Ao8 y981.length co8)) (fun _ hk => hk.2) (.int .i64 a0_0)) (fun _ hk => hk.2) (.int .i64 a0_1)) (fun _ hk => hk.2) (.slice Ao8 y981.length co8)) (fun _ hk => trivial), by repeat (first | (with_reducible first | exact HB.out | apply below_alloc | apply pw_below_drewN | apply below_drew1 | refine below_set ?_ GE979.out | refine below_set ?_ GE980.out) | exact HB.out)⟩
  · rw [if_neg c2] at H
    exact absurd H (by simp)
/-! ### spec_RowPut: function 30 -/
def spec_RowPut.j0 : Nat → ByteArray → ByteArray → Int → Int → Int → Int → List (S_Item) → Int → Int → List (S_Item) → Option (Int × Int × (List (S_Item)) × Int × Bool)
 | 0, _, _, _, _, _, _, _, _, _, _ => none
 | k + 1, x1, x2, x3, x4, x1022000, x1022001, x1022002, x1029000, x1029001, x1029002 => if x1029002.length < 2513169434916 then ((some (x1029002 ++ [(⟨x1022001, x1, x2, x3, x4⟩ : S_Item)] : List (S_Item))).bind fun y1030 => ((spec_RowOk.f k x1029000 (wrap64 (x1022001 + 1)) y1030).bind fun t1033 => (if t1033 = true then (some (x1029000, wrap64 (x1022001 + 1), y1030, x1022001, true)) else ((spec_l3Copy.f x1022000 x1022001 x1022002).bind fun bt1034 => (some (bt1034.1, bt1034.2.1, bt1034.2.2, 0, false)))))) else (none)
def spec_RowPut.f (k : Nat) (a0_0 : Int) (a0_1 : Int) (l0_2 : List (S_Item)) (a1 : ByteArray) (a2 : ByteArray) (a3 : Int) (a4 : Int) : Option (Int × Int × (List (S_Item)) × Int × Bool) := (spec_l3Copy.f a0_0 a0_1 l0_2).bind fun bt1023 => ((spec_RowOk.f k a0_0 a0_1 l0_2).bind fun t1029 => (if t1029 = true then (spec_RowPut.j0 k a1 a2 a3 a4 a0_0 a0_1 l0_2 bt1023.1 bt1023.2.1 bt1023.2.2) else (some (bt1023.1, bt1023.2.1, bt1023.2.2, 0, false))))
theorem spec_RowPut.mono_l : ∀ k, (∀ y0 y1 y2 y3 y4 y5 y6 y7 y8 y9, LeO (spec_RowPut.j0 k y0 y1 y2 y3 y4 y5 y6 y7 y8 y9) (spec_RowPut.j0 (k + 1) y0 y1 y2 y3 y4 y5 y6 y7 y8 y9))
 | 0 => fun _ _ _ _ _ _ _ _ _ _ r h => by simp [spec_RowPut.j0] at h
 | k + 1 => by
  have ih0 := spec_RowPut.mono_l k
  ·
   intro y0 y1 y2 y3 y4 y5 y6 y7 y8 y9
   unfold spec_RowPut.j0
   repeat' first
   | (with_reducible exact ih0 _ _ _ _ _ _ _ _ _ _)
   | (with_reducible exact spec_RowOk.mono _ _ _ _)
   | (with_reducible exact LeO.refl _)
   | (with_reducible exact LeO.none _)
   | (with_reducible refine LeO.ite ?_ ?_)
   | (with_reducible refine LeO.bind ?_ (fun _ => ?_))
   | exact ih0 _ _ _ _ _ _ _ _ _ _
   | exact spec_RowOk.mono _ _ _ _
   | exact LeO.none _
   | refine LeO.ite ?_ ?_
   | refine LeO.bind ?_ (fun _ => ?_)
theorem spec_RowPut.mono : ∀ a0 a1 a2 a3 a4 a5 a6 k, LeO (spec_RowPut.f k a0 a1 a2 a3 a4 a5 a6) (spec_RowPut.f (k + 1) a0 a1 a2 a3 a4 a5 a6) := by
 intro a0 a1 a2 a3 a4 a5 a6 k
 have ih0 := spec_RowPut.mono_l k
 unfold spec_RowPut.f
 repeat' first
  | (with_reducible exact ih0 _ _ _ _ _ _ _ _ _ _)
  | (with_reducible exact spec_RowOk.mono _ _ _ _)
  | (with_reducible exact LeO.refl _)
  | (with_reducible exact LeO.none _)
  | (with_reducible refine LeO.ite ?_ ?_)
  | (with_reducible refine LeO.bind ?_ (fun _ => ?_))
  | exact ih0 _ _ _ _ _ _ _ _ _ _
  | exact spec_RowOk.mono _ _ _ _
  | exact LeO.none _
  | refine LeO.ite ?_ ?_
  | refine LeO.bind ?_ (fun _ => ?_)
set_option maxHeartbeats 8000000 in
set_option maxRecDepth 100000 in
theorem spec_RowPut.calls (k : Nat) (a0_0 : Int) (a0_1 : Int) (A0_2 : Option Addr) (c0_2 : Nat) (l0_2 : List (S_Item)) (a1 : ByteArray) (a2 : ByteArray) (a3 : Int) (a4 : Int) (r1 : Int) (r2 : Int) (r3 : List (S_Item)) (r4 : Int) (r5 : Bool) (w : World) (hr0_2 : Kd.C k_Item w A0_2 l0_2.length l0_2) (hc0_2 : l0_2.length ≤ c0_2) (h : spec_RowPut.f k a0_0 a0_1 l0_2 a1 a2 a3 a4 = some (r1, r2, r3, r4, r5)) :
 Calls Try.prog 30 #[.agg #[.int .i64 a0_0, .int .i64 a0_1, .slice A0_2 l0_2.length c0_2], .string a1, .string a2, .int .i64 a3, .int .i64 a4] w fun e w' => ∃ v2_ : Value, e = .returned (.tuple #[.agg #[.int .i64 r1, .int .i64 r2, v2_], .int .i64 r4, .bool r5]) ∧ Kd.R k_Item 69 w' w.heap.size (fun _ => True) v2_ r3 ∧ Below w.heap.size w w' := by
 have hu57 := Try.underlying57
 have hu69 := Try.underlying69
 have HR0_2 := Aside0.mk hr0_2
 have HC0_2 := Aside0.mk hc0_2
 clear hr0_2 hc0_2
 have HB := Aside0.mk (Below.refl w.heap.size w)
 have H : ((spec_l3Copy.f a0_0 a0_1 l0_2).bind fun bt1023 => ((spec_RowOk.f k a0_0 a0_1 l0_2).bind fun t1029 => (if t1029 = true then (spec_RowPut.j0 k a1 a2 a3 a4 a0_0 a0_1 l0_2 bt1023.1 bt1023.2.1 bt1023.2.2) else (some (bt1023.1, bt1023.2.1, bt1023.2.2, 0, false))))) = some (r1, r2, r3, r4, r5) := h
 clear h
 replace H := Option.bind_eq_some_iff.mp H
 obtain ⟨⟨t1023, t1024, t1025⟩, A60, H⟩ := H
 replace H : ((spec_RowOk.f k a0_0 a0_1 l0_2).bind fun t1029 => (if t1029 = true then (spec_RowPut.j0 k a1 a2 a3 a4 a0_0 a0_1 l0_2 t1023 t1024 t1025) else (some (t1023, t1024, t1025, 0, false)))) = some (r1, r2, r3, r4, r5) := H
 have A6 := Aside0.mk A60
 clear A60
 replace H := Option.bind_eq_some_iff.mp H
 obtain ⟨t1029, A70, H⟩ := H
 replace H : (if t1029 = true then (spec_RowPut.j0 k a1 a2 a3 a4 a0_0 a0_1 l0_2 t1023 t1024 t1025) else (some (t1023, t1024, t1025, 0, false))) = some (r1, r2, r3, r4, r5) := H
 have A7 := Aside0.mk A70
 clear A70
 have HC8 := Aside0.mk H
 clear H
 go_enter Try.func30, Try.ntmps30
 go_upto_if 18 with (first | ((with_reducible refine gate_dst (N := 5) rfl ?_); refine box_event ?hg (N := 5) ?hd (cs := #[.int .i64 a0_0, .int .i64 a0_1, .slice A0_2 l0_2.length c0_2]) (t := 57) ?hr ?_; (case hd => rfl); (case hg => rfl); (case hr => first | (go_simp; done) | (go_simp; rfl)); intro gb1021 hg w9 hbox hb; have n0_ := Aside0.mk (below_step (hb_ HB.out) hb); have n1_ := Aside0.mk (hbox); have n2_ := Aside0.mk ((by rw [hg]; exact (below_size (hb_ HB.out)) : w.heap.size ≤ gb1021)); have n3_ := Aside0.mk ((by rw [hg]; exact (below_size (hb_ HB.out)) : w.heap.size ≤ gb1021)); clear HB; have HB := n0_; have BK1021 := n1_; have GW1021 := n2_; have GE1021 := n3_; clear n0_ n1_ n2_ n3_; clear hb hbox hg) | ((with_reducible refine gate_dst (N := 10) rfl ?_); refine box_event ?hg (N := 10) ?hd (cs := #[.int .i64 0, .int .i64 0, .slice none 0 0]) (t := 57) ?hr ?_; (case hd => rfl); (case hg => rfl); (case hr => first | (go_simp; done) | (go_simp; rfl)); intro gb1022 hg w10 hbox hb; have n0_ := Aside0.mk (bb_ BK1021.out hb); have n1_ := Aside0.mk (below_step (hb_ HB.out) hb); have n2_ := Aside0.mk (hbox); have n3_ := Aside0.mk ((by rw [hg]; exact (below_size (hb_ HB.out)) : w.heap.size ≤ gb1022)); have n4_ := Aside0.mk ((by rw [hg]; exact (below_size (hb_ HB.out)) : w.heap.size ≤ gb1022)); have n5_ := Aside0.mk ((by rw [hg]; exact Nat.ne_of_lt (blk_lt (g := gb1021) (o := .cells #[.int .i64 a0_0, .int .i64 a0_1, .slice A0_2 l0_2.length c0_2] 57 (0, 0)) (bq_ BK1021.out)) : gb1021 ≠ gb1022)); have n6_ := Aside0.mk ((by rw [hg]; exact Nat.ne_of_gt (blk_lt (g := gb1021) (o := .cells #[.int .i64 a0_0, .int .i64 a0_1, .slice A0_2 l0_2.length c0_2] 57 (0, 0)) (bq_ BK1021.out)) : gb1022 ≠ gb1021)); clear BK1021; clear HB; have BK1021 := n0_; have HB := n1_; have BK1022 := n2_; have GW1022 := n3_; have GE1022 := n4_; have NB1021_1022 := n5_; have NB1022_1021 := n6_; clear n0_ n1_ n2_ n3_ n4_ n5_ n6_; clear hb hbox hg; have hnb11 := NB1021_1022.out; have hnc11 := NB1022_1021.out; have hcz12_0 : w10.cell? ⟨gb1021, 0, none⟩ = some (.int .i64 a0_0) := (blk_cell BK1021.out 0).trans rfl; have hcz12_1 : w10.cell? ⟨gb1021, 1, none⟩ = some (.int .i64 a0_1) := (blk_cell BK1021.out 1).trans rfl; have hcz12_2 : w10.cell? ⟨gb1021, 2, none⟩ = some (.slice A0_2 l0_2.length c0_2) := (blk_cell BK1021.out 2).trans rfl; have hfz12_0 := blk_frozen BK1021.out 0; have hfz12_1 := blk_frozen BK1021.out 1; have hfz12_2 := blk_frozen BK1021.out 2) | ((with_reducible refine gate_callee (f := 95) rfl ?_); refine goesL_ (some 15) rfl rfl Try.func95 (by kernel_rfl) rfl #[.agg #[.int .i64 a0_0, .int .i64 a0_1, .slice A0_2 l0_2.length c0_2]] rfl sm_ ?_; (with_reducible refine (spec_l3Copy.calls a0_0 a0_1 _ _ l0_2 t1023 t1024 t1025 _ ?side1 ?side2 A6.out).mono ?_); (case side1 => repeat (first | exact (Kd.C_below HR0_2.out HB.out) | (with_reducible refine Kd.C_alloc ?_ _) | (with_reducible refine Kd.C_drewN ?_ _) | (with_reducible refine Kd.C_drew ?_))); (case side2 => exact HC0_2.out); rintro e w13 ⟨v1026, rfl, ho0, hb⟩; refine ⟨_, rfl, ?_⟩; have n0_ := Aside0.mk (Kd.R_lower ho0 (below_size (hb_ HB.out))); have n1_ := Aside0.mk (bb_ BK1021.out hb); have n2_ := Aside0.mk (bb_ BK1022.out hb); have n3_ := Aside0.mk (below_step (hb_ HB.out) hb); clear BK1021; clear BK1022; clear HB; have HO1027 := n0_; have BK1021 := n1_; have BK1022 := n2_; have HB := n3_; clear n0_ n1_ n2_ n3_; (try clear hb); (try clear hb2); (try clear hk); (try clear hi); (try clear ho0)) | ((with_reducible refine gate_dst (N := 13) rfl ?_); refine box_event ?hg (N := 13) ?hd (cs := #[.int .i64 0, .int .i64 0, .slice none 0 0]) (t := 57) ?hr ?_; (case hd => rfl); (case hg => rfl); (case hr => first | (go_simp; done) | (go_simp; rfl)); intro gb1028 hg w14 hbox hb; have n0_ := Aside0.mk (Kd.R_below (rq_ HO1027.out) hb); have n1_ := Aside0.mk (bb_ BK1021.out hb); have n2_ := Aside0.mk (bb_ BK1022.out hb); have n3_ := Aside0.mk (below_step (hb_ HB.out) hb); have n4_ := Aside0.mk (hbox); have n5_ := Aside0.mk ((by rw [hg]; exact (below_size (hb_ HB.out)) : w.heap.size ≤ gb1028)); have n6_ := Aside0.mk ((by rw [hg]; exact (below_size (hb_ HB.out)) : w.heap.size ≤ gb1028)); have n7_ := Aside0.mk ((by rw [hg]; exact Nat.ne_of_lt (blk_lt (g := gb1021) (o := .cells #[.int .i64 a0_0, .int .i64 a0_1, .slice A0_2 l0_2.length c0_2] 57 (0, 0)) (bq_ BK1021.out)) : gb1021 ≠ gb1028)); have n8_ := Aside0.mk ((by rw [hg]; exact Nat.ne_of_gt (blk_lt (g := gb1021) (o := .cells #[.int .i64 a0_0, .int .i64 a0_1, .slice A0_2 l0_2.length c0_2] 57 (0, 0)) (bq_ BK1021.out)) : gb1028 ≠ gb1021)); have n9_ := Aside0.mk ((by rw [hg]; exact Nat.ne_of_lt (blk_lt (g := gb1022) (o := .cells #[.int .i64 0, .int .i64 0, .slice none 0 0] 57 (0, 0)) (bq_ BK1022.out)) : gb1022 ≠ gb1028)); have n10_ := Aside0.mk ((by rw [hg]; exact Nat.ne_of_gt (blk_lt (g := gb1022) (o := .cells #[.int .i64 0, .int .i64 0, .slice none 0 0] 57 (0, 0)) (bq_ BK1022.out)) : gb1028 ≠ gb1022)); clear HO1027; clear BK1021; clear BK1022; clear HB; have HO1027 := n0_; have BK1021 := n1_; have BK1022 := n2_; have HB := n3_; have BK1028 := n4_; have GW1028 := n5_; have GE1028 := n6_; have NB1021_1028 := n7_; have NB1028_1021 := n8_; have NB1022_1028 := n9_; have NB1028_1022 := n10_; clear n0_ n1_ n2_ n3_ n4_ n5_ n6_ n7_ n8_ n9_ n10_; clear hb hbox hg; have hnb15 := NB1028_1021.out; have hnc15 := NB1021_1028.out; have hnb16 := NB1028_1022.out; have hnc16 := NB1022_1028.out; have hcz17_0 : w14.cell? ⟨gb1028, 0, none⟩ = some (.int .i64 0) := (blk_cell BK1028.out 0).trans rfl; have hcz17_1 : w14.cell? ⟨gb1028, 1, none⟩ = some (.int .i64 0) := (blk_cell BK1028.out 1).trans rfl; have hcz17_2 : w14.cell? ⟨gb1028, 2, none⟩ = some (.slice none 0 0) := (blk_cell BK1028.out 2).trans rfl; have hfz17_0 := blk_frozen BK1028.out 0; have hfz17_1 := blk_frozen BK1028.out 1; have hfz17_2 := blk_frozen BK1028.out 2; obtain ⟨Ao18, co18, eo18⟩ := Kd.R_slice HO1027.out; subst eo18; have hcz19_0 : w14.cell? ⟨gb1021, 0, none⟩ = some (.int .i64 a0_0) := (blk_cell BK1021.out 0).trans rfl; have hcz19_1 : w14.cell? ⟨gb1021, 1, none⟩ = some (.int .i64 a0_1) := (blk_cell BK1021.out 1).trans rfl; have hcz19_2 : w14.cell? ⟨gb1021, 2, none⟩ = some (.slice A0_2 l0_2.length c0_2) := (blk_cell BK1021.out 2).trans rfl; have hfz19_0 := blk_frozen BK1021.out 0; have hfz19_1 := blk_frozen BK1021.out 1; have hfz19_2 := blk_frozen BK1021.out 2) | ((with_reducible refine gate_callee (f := 45) rfl ?_); refine goesL_ (some 17) rfl rfl Try.func45 (by kernel_rfl) rfl #[.agg #[.int .i64 a0_0, .int .i64 a0_1, .slice A0_2 l0_2.length c0_2]] rfl sm_ ?_; (with_reducible refine (spec_RowOk.calls k a0_0 a0_1 _ _ l0_2 t1029 _ ?side1 ?side2 A7.out).mono ?_); (case side1 => exact Kd.C_below HR0_2.out (hb_ HB.out)); (case side2 => exact HC0_2.out); rintro e w20 ⟨rfl, hb⟩; refine ⟨_, rfl, ?_⟩; have n0_ := Aside0.mk (Kd.R_below (rk_ HO1027.out BK1028.out) hb); have n1_ := Aside0.mk (blk_below (g := gb1021) (o := .cells #[.int .i64 a0_0, .int .i64 a0_1, .slice A0_2 l0_2.length c0_2] 57 (0, 0)) (bf_ NB1021_1028.out BK1021.out) hb); have n2_ := Aside0.mk (blk_below (g := gb1022) (o := .cells #[.int .i64 0, .int .i64 0, .slice none 0 0] 57 (0, 0)) (bf_ NB1022_1028.out BK1022.out) hb); have n3_ := Aside0.mk (blk_below (g := gb1028) (o := .cells #[.int .i64 t1023, .int .i64 t1024, .slice Ao18 t1025.length co18] 57 (0, 0)) (bp_ BK1028.out) hb); have n4_ := Aside0.mk (below_step (hb_ HB.out) hb); clear HO1027; clear BK1021; clear BK1022; clear BK1028; clear HB; have HO1027 := n0_; have BK1021 := n1_; have BK1022 := n2_; have BK1028 := n3_; have HB := n4_; clear n0_ n1_ n2_ n3_ n4_; (try clear hb); (try clear hb2); (try clear hk); (try clear hi)))
 (try simp only [Act.put, List.setIfInBounds_toArray, List.set_cons_zero, List.set_cons_succ])
 go_cut [] (fun wc => ∃ (kq : Nat) (x1023000_7 : Int) (x1023001_7 : Int), Aside0 (spec_RowPut.j0 kq a1 a2 a3 a4 a0_0 a0_1 l0_2 t1023 t1024 t1025 = some (r1, r2, r3, r4, r5)) ∧ Aside0 (kq ≤ k) ∧ Aside0 (Kd.R k_Item 69 wc w.heap.size (fun _ => True) (.slice Ao18 t1025.length co18) t1025) ∧ Aside0 (wc.heap[gb1021]? = some (.cells #[.int .i64 a0_0, .int .i64 a0_1, (.slice A0_2 l0_2.length c0_2)] 57 (0, 0))) ∧ Aside0 (wc.heap[gb1022]? = some (.cells #[.int .i64 x1023000_7, .int .i64 x1023001_7, (.slice none 0 0)] 57 (0, 0))) ∧ Aside0 (wc.heap[gb1028]? = some (.cells #[.int .i64 t1023, .int .i64 t1024, (.slice Ao18 t1025.length co18)] 57 (0, 0))) ∧ Aside0 (Below w.heap.size w wc))
 case first =>
  have H := HC8.out
  clear HC8
  by_cases c21 : t1029 = true
  ·
   subst c21
   have H1 : (spec_RowPut.j0 k a1 a2 a3 a4 a0_0 a0_1 l0_2 t1023 t1024 t1025) = some (r1, r2, r3, r4, r5) := by rw [if_pos rfl] at H; exact H
   clear H
   have H := H1
   clear H1
   have H' := Aside0.mk H
   clear H
   go_wp2
   go_meet
   case rel => exact ⟨_, (0), (0), H', ⟨by first | omega | exact Nat.le_refl _⟩, ⟨rq_ HO1027.out⟩, ⟨bq_ BK1021.out⟩, ⟨bq_ BK1022.out⟩, ⟨bq_ BK1028.out⟩, ⟨hb_ HB.out⟩⟩
  ·
   replace c21 := Bool.eq_false_iff.mpr c21
   subst c21
   have H1 : (some (t1023, t1024, t1025, 0, false)) = some (r1, r2, r3, r4, r5) := by rw [if_neg (show ¬ (false = true) by decide)] at H; exact H
   clear H
   have H := H1
   clear H1
   simp only [Option.some.injEq, Prod.mk.injEq] at H
   obtain ⟨rfl, rfl, rfl, rfl, rfl⟩ := H
   have hnb22 := NB1028_1021.out
   have hnc22 := NB1021_1028.out
   have hnb23 := NB1028_1022.out
   have hnc23 := NB1022_1028.out
   have hcz24_0 : w20.cell? ⟨gb1028, 0, none⟩ = some (.int .i64 t1023) := (blk_cell BK1028.out 0).trans rfl
   have hcz24_1 : w20.cell? ⟨gb1028, 1, none⟩ = some (.int .i64 t1024) := (blk_cell BK1028.out 1).trans rfl
   have hcz24_2 : w20.cell? ⟨gb1028, 2, none⟩ = some (.slice Ao18 t1025.length co18) := (blk_cell BK1028.out 2).trans rfl
   have hfz24_0 := blk_frozen BK1028.out 0
   have hfz24_1 := blk_frozen BK1028.out 1
   have hfz24_2 := blk_frozen BK1028.out 2
   have hnb25 := NB1022_1021.out
   have hnc25 := NB1021_1022.out
   have hcz26_0 : w20.cell? ⟨gb1022, 0, none⟩ = some (.int .i64 0) := (blk_cell BK1022.out 0).trans rfl
   have hcz26_1 : w20.cell? ⟨gb1022, 1, none⟩ = some (.int .i64 0) := (blk_cell BK1022.out 1).trans rfl
   have hcz26_2 : w20.cell? ⟨gb1022, 2, none⟩ = some (.slice none 0 0) := (blk_cell BK1022.out 2).trans rfl
   have hfz26_0 := blk_frozen BK1022.out 0
   have hfz26_1 := blk_frozen BK1022.out 1
   have hfz26_2 := blk_frozen BK1022.out 2
   go_wp2
   refine bodyPost_ret (results_ctt rfl _ _ gb1022 57 #[.int .i64 t1023, .int .i64 t1024, .slice Ao18 t1025.length co18] (0, 0) _ rfl (bp_ BK1022.out) Try.underlying57 rfl (by kernel_rfl)) rfl ?_
   exact ⟨_, by first | rfl | (simp [errW_none, errW_some] <;> rfl) | (simp [*, errW_none, errW_some] <;> rfl), by (with_reducible repeat (first | apply Kd.R_alloc | apply Kd.R_drewN | apply Kd.R_drew)); exact Kd.R_mono (Kd.R_far (p := ⟨gb1022, 2, none⟩) (Kd.R_far (p := ⟨gb1022, 1, none⟩) (Kd.R_far (p := ⟨gb1022, 0, none⟩) (Kd.R_types HO1027.out BK1022.out (by decide)) (fun _ hk => hk.2) (.int .i64 t1023)) (fun _ hk => hk.2) (.int .i64 t1024)) (fun _ hk => hk.2) (.slice Ao18 t1025.length co18)) (fun _ hk => trivial), hb_ HB.out⟩
 case rest =>
  clear HC8
  (try clear c1); (try clear c2); (try clear p2); (try clear c3); (try clear c4); (try clear c9); (try clear c11); (try clear c15); (try clear c16); (try clear c21); (try clear c22); (try clear c23); (try clear c25); (try clear hcz12_0); (try clear hcz12_1); (try clear hcz12_2); (try clear hcz17_0); (try clear hcz17_1); (try clear hcz17_2); (try clear hcz19_0); (try clear hcz19_1); (try clear hcz19_2); (try clear hcz24_0); (try clear hcz24_1); (try clear hcz24_2); (try clear hcz26_0); (try clear hcz26_1); (try clear hcz26_2); (try clear hfz12_0); (try clear hfz12_1); (try clear hfz12_2); (try clear hfz17_0); (try clear hfz17_1); (try clear hfz17_2); (try clear hfz19_0); (try clear hfz19_1); (try clear hfz19_2); (try clear hfz24_0); (try clear hfz24_1); (try clear hfz24_2); (try clear hfz26_0); (try clear hfz26_1); (try clear hfz26_2)
  obtain ⟨kq, x1023000_7, x1023001_7, HA, HJ7, HO_1029002, BK1021, BK1022, BK1028, HB⟩ := hcut
  cases kq with
  | zero => exact absurd HA.out (by simp [spec_RowPut.j0])
  | succ kj7 =>
   have H := HA.out
   clear HA
   simp only [spec_RowPut.j0] at H
   by_cases c27 : t1025.length < 2513169434916
   ·
    rw [if_pos c27] at H
    have LMc27 := Aside0.mk c27
    clear c27
    obtain ⟨y1030, hy1030⟩ : ∃ y_ : List (S_Item), y_ = (t1025 ++ [(⟨a0_1, a1, a2, a3, a4⟩ : S_Item)]) := ⟨_, rfl⟩
    replace H : ((spec_RowOk.f kj7 t1023 (wrap64 (a0_1 + 1)) y1030).bind fun t1033 => (if t1033 = true then (some (t1023, wrap64 (a0_1 + 1), y1030, a0_1, true)) else ((spec_l3Copy.f a0_0 a0_1 l0_2).bind fun bt1034 => (some (bt1034.1, bt1034.2.1, bt1034.2.2, 0, false))))) = some (r1, r2, r3, r4, r5) := by first | (rw [hy1030]; with_reducible exact H) | (have H2_ := (Option.bind_some _ _).symm.trans H; rw [hy1030]; with_reducible exact H2_) | (have H2_ := (Option.bind_some _ _).symm.trans H; with_reducible exact H2_) | with_reducible exact H | (rw [hy1030]; exact H) | exact H
    have Ny1030 := Aside0.mk hy1030
    clear hy1030
    replace H := Option.bind_eq_some_iff.mp H
    obtain ⟨t1033, A280, H⟩ := H
    replace H : (if t1033 = true then (some (t1023, wrap64 (a0_1 + 1), y1030, a0_1, true)) else ((spec_l3Copy.f a0_0 a0_1 l0_2).bind fun bt1034 => (some (bt1034.1, bt1034.2.1, bt1034.2.2, 0, false)))) = some (r1, r2, r3, r4, r5) := H
    have A28 := Aside0.mk A280
    clear A280
    by_cases c29 : t1033 = true
    ·
     subst c29
     have H1 : (some (t1023, wrap64 (a0_1 + 1), y1030, a0_1, true)) = some (r1, r2, r3, r4, r5) := by rw [if_pos rfl] at H; exact H
     clear H
     have H := H1
     clear H1
     simp only [Option.some.injEq, Prod.mk.injEq] at H
     obtain ⟨rfl, rfl, rfl, rfl, rfl⟩ := H
     have hnb30 := NB1028_1021.out
     have hnc30 := NB1021_1028.out
     have hnb31 := NB1028_1022.out
     have hnc31 := NB1022_1028.out
     have hcz32_0 : wc.cell? ⟨gb1028, 0, none⟩ = some (.int .i64 t1023) := (blk_cell BK1028.out 0).trans rfl
     have hcz32_1 : wc.cell? ⟨gb1028, 1, none⟩ = some (.int .i64 t1024) := (blk_cell BK1028.out 1).trans rfl
     have hcz32_2 : wc.cell? ⟨gb1028, 2, none⟩ = some (.slice Ao18 t1025.length co18) := (blk_cell BK1028.out 2).trans rfl
     have hfz32_0 := blk_frozen BK1028.out 0
     have hfz32_1 := blk_frozen BK1028.out 1
     have hfz32_2 := blk_frozen BK1028.out 2
     have hnb33 := NB1021_1022.out
     have hnc33 := NB1022_1021.out
     have hcz34_0 : wc.cell? ⟨gb1021, 0, none⟩ = some (.int .i64 a0_0) := (blk_cell BK1021.out 0).trans rfl
     have hcz34_1 : wc.cell? ⟨gb1021, 1, none⟩ = some (.int .i64 a0_1) := (blk_cell BK1021.out 1).trans rfl
     have hcz34_2 : wc.cell? ⟨gb1021, 2, none⟩ = some (.slice A0_2 l0_2.length c0_2) := (blk_cell BK1021.out 2).trans rfl
     have hfz34_0 := blk_frozen BK1021.out 0
     have hfz34_1 := blk_frozen BK1021.out 1
     have hfz34_2 := blk_frozen BK1021.out 2
     try go_wp2_with (first | ((with_reducible refine gate_builtin (b := .append) (xs := #[.tmp 21, .tmp 29]) rfl ?_); at_builtin; refine Kd.R_append k_Item (w0 := w) w.heap.size rfl (.tmp 21) (.tmp 29) 55 69 (.agg #[(.int .i64 0), (.string ⟨#[]⟩), (.string ⟨#[]⟩), (.int .i64 0), (.int .i64 0)]) 56 rfl Try.underlying55 info69 rfl (by decide) (by omega) (.slice Ao18 t1025.length co18) t1025 (⟨a0_1, a1, a2, a3, a4⟩ : S_Item) [.int .i64 a0_1, .string a1, .string a2, .int .i64 a3, .int .i64 a4] (fun _ => True) (fun _ => False) rfl rfl ?aP (fun _ hk => hk.elim) ?aF ?aO ?aB ?aS ?aL ?_; (case aP => exact k_Item_mkM _ _ _ (⟨a0_1, a1, a2, a3, a4⟩ : S_Item)); (case aB => exact (hb_ HB.out)); (case aF => exact (fun _ _ => trivial)); (case aO => exact (rq_ HO_1029002.out)); (case aS => exact (below_size (hb_ HB.out))); (case aL => have := LMc27.out; omega); intro v1031 w35 ho hb hg hat; rw [← Ny1030.out] at ho; have n0_ := Aside0.mk (blk_grown (g := gb1021) (o := .cells #[.int .i64 a0_0, .int .i64 a0_1, .slice A0_2 l0_2.length c0_2] 57 (0, 0)) (bq_ BK1021.out) hg (Kd.R_ne HO_1029002.out BK1021.out (by decide))); have n1_ := Aside0.mk (blk_grown (g := gb1022) (o := .cells #[.int .i64 x1023000_7, .int .i64 x1023001_7, .slice none 0 0] 57 (0, 0)) (bq_ BK1022.out) hg (Kd.R_ne HO_1029002.out BK1022.out (by decide))); have n2_ := Aside0.mk (blk_grown (g := gb1028) (o := .cells #[.int .i64 t1023, .int .i64 t1024, .slice Ao18 t1025.length co18] 57 (0, 0)) (bq_ BK1028.out) hg (Kd.R_ne HO_1029002.out BK1028.out (by decide))); have n3_ := Aside0.mk (hb); have n4_ := Aside0.mk (ho); clear BK1021; clear BK1022; clear BK1028; clear HB; clear HO_1029002; have BK1021 := n0_; have BK1022 := n1_; have BK1028 := n2_; have HB := n3_; have HO1032 := n4_; clear n0_ n1_ n2_ n3_ n4_; clear ho hb hg hat; obtain ⟨Ao36, co36, eo36⟩ := Kd.R_slice HO1032.out; subst eo36; have hcz37_0 : w35.cell? ⟨gb1028, 0, none⟩ = some (.int .i64 t1023) := (blk_cell BK1028.out 0).trans rfl; have hcz37_1 : w35.cell? ⟨gb1028, 1, none⟩ = some (.int .i64 t1024) := (blk_cell BK1028.out 1).trans rfl; have hcz37_2 : w35.cell? ⟨gb1028, 2, none⟩ = some (.slice Ao18 t1025.length co18) := (blk_cell BK1028.out 2).trans rfl; have hfz37_0 := blk_frozen BK1028.out 0; have hfz37_1 := blk_frozen BK1028.out 1; have hfz37_2 := blk_frozen BK1028.out 2; have hcz38_0 : w35.cell? ⟨gb1021, 0, none⟩ = some (.int .i64 a0_0) := (blk_cell BK1021.out 0).trans rfl; have hcz38_1 : w35.cell? ⟨gb1021, 1, none⟩ = some (.int .i64 a0_1) := (blk_cell BK1021.out 1).trans rfl; have hcz38_2 : w35.cell? ⟨gb1021, 2, none⟩ = some (.slice A0_2 l0_2.length c0_2) := (blk_cell BK1021.out 2).trans rfl; have hfz38_0 := blk_frozen BK1021.out 0; have hfz38_1 := blk_frozen BK1021.out 1; have hfz38_2 := blk_frozen BK1021.out 2) | ((with_reducible refine gate_callee (f := 45) rfl ?_); refine goesL_ (some 37) rfl rfl Try.func45 (by kernel_rfl) rfl #[.agg #[.int .i64 t1023, .int .i64 (wrap64 (a0_1 + 1)), .slice Ao36 y1030.length co36]] rfl sm_ ?_; (with_reducible refine (spec_RowOk.calls kj7 t1023 (wrap64 (a0_1 + 1)) _ _ y1030 true _ ?side1 ?side2 A28.out).mono ?_); (case side1 => refine (Kd.R_reads' (e := 69) (base := w.heap.size) (ok := fun k_ => True) (n := y1030.length) (c := co36) ?_).2.2; exact (rk_ HO1032.out BK1028.out)); (case side2 => exact (Kd.R_reads' HO1032.out).2.1); rintro e w39 ⟨rfl, hb⟩; refine ⟨_, rfl, ?_⟩; have n0_ := Aside0.mk (Kd.R_below (rk_ HO1032.out BK1028.out) hb); have n1_ := Aside0.mk (blk_below (g := gb1021) (o := .cells #[.int .i64 a0_0, .int .i64 a0_1, .slice A0_2 l0_2.length c0_2] 57 (0, 0)) (bf_ NB1021_1028.out BK1021.out) hb); have n2_ := Aside0.mk (blk_below (g := gb1022) (o := .cells #[.int .i64 x1023000_7, .int .i64 x1023001_7, .slice none 0 0] 57 (0, 0)) (bf_ NB1022_1028.out BK1022.out) hb); have n3_ := Aside0.mk (blk_below (g := gb1028) (o := .cells #[.int .i64 t1023, .int .i64 (wrap64 (a0_1 + 1)), .slice Ao36 y1030.length co36] 57 (0, 0)) (bp_ BK1028.out) hb); have n4_ := Aside0.mk (below_step (hb_ HB.out) hb); clear HO1032; clear BK1021; clear BK1022; clear BK1028; clear HB; have HO1032 := n0_; have BK1021 := n1_; have BK1022 := n2_; have BK1028 := n3_; have HB := n4_; clear n0_ n1_ n2_ n3_ n4_; (try clear hb); (try clear hb2); (try clear hk); (try clear hi)))
     have n0_ := Aside0.mk (Kd.R_drew HO1032.out)
     have n1_ := Aside0.mk (blk_drew BK1021.out)
     have n2_ := Aside0.mk (blk_drew BK1022.out)
     have n3_ := Aside0.mk (blk_drew BK1028.out)
     have n4_ := Aside0.mk (below_drew1 HB.out)
     clear HO1032; clear BK1021
     clear BK1022; clear BK1028
     clear HB
     have HO1032 := n0_
     have BK1021 := n1_
     have BK1022 := n2_
     have BK1028 := n3_
     have HB := n4_
     clear n0_ n1_ n2_ n3_ n4_
     refine start_ (n := 6) (S := fun w' => w'.cell? ⟨gb1028, 0, none⟩ = some (.int .i64 t1023) ∧ w'.cell? ⟨gb1028, 1, none⟩ = some (.int .i64 (wrap64 (a0_1 + 1))) ∧ w'.cell? ⟨gb1028, 2, none⟩ = some (.slice Ao36 y1030.length co36) ∧ w'.cell? ⟨gb1021, 0, none⟩ = some (.int .i64 a0_0) ∧ w'.cell? ⟨gb1021, 1, none⟩ = some (.int .i64 a0_1) ∧ w'.cell? ⟨gb1021, 2, none⟩ = some (.slice A0_2 l0_2.length c0_2)) (ds := []) #[false, false, false, false, false, false] (by kernel_rfl) rfl rfl ⟨(blk_cell BK1028.out 0).trans rfl, (blk_cell BK1028.out 1).trans rfl, (blk_cell BK1028.out 2).trans rfl, (blk_cell BK1021.out 0).trans rfl, (blk_cell BK1021.out 1).trans rfl, (blk_cell BK1021.out 2).trans rfl⟩ (fun hHeld => ?_)
     generalize w39.drew = w40 at HO1032 BK1021 BK1022 BK1028 HB hHeld ⊢
     refine pure_ (i := 1) (N := some 42) (v := ?_) (a' := ?_) #[false, true, false, false, false, false] rfl rfl (by kernel_rfl) (fun _ _ _ h => h) (Or.inl ⟨by rfl, ?_⟩) ?_ ?_; rotate_left; (focus intro w'; go_simp; with_reducible rfl); rotate_left; (focus simp only [Act.put, List.setIfInBounds_toArray, List.set_cons_zero, List.set_cons_succ, i64_w, i32_w]; rfl)
     refine take_ (i := 0) (N := some 41) (v := ?_) (a' := ?_) #[true, true, false, false, false, false] rfl rfl (by kernel_rfl) (fun _ _ _ h => h) (Or.inl ⟨by rfl, ?_⟩) hHeld ?_ ?_
     rotate_left
     ·
      rintro w' ⟨s0, s1, s2, s3, s4, s5⟩
      go_simp
      with_reducible rfl
     rotate_left; (focus simp only [Act.put, List.setIfInBounds_toArray, List.set_cons_zero, List.set_cons_succ, i64_w, i32_w]; rfl)
     refine take_ (i := 2) (N := some 43) (v := ?_) (a' := ?_) #[true, true, true, false, false, false] rfl rfl (by kernel_rfl) (fun _ _ _ h => h) (Or.inl ⟨by rfl, ?_⟩) hHeld ?_ ?_
     rotate_left
     ·
      rintro w' ⟨s0, s1, s2, s3, s4, s5⟩
      go_simp
      with_reducible rfl
     rotate_left; (focus simp only [Act.put, List.setIfInBounds_toArray, List.set_cons_zero, List.set_cons_succ, i64_w, i32_w]; rfl)
     refine one_ (i := 3) (N := none) #[true, true, true, true, false, false] rfl rfl (by kernel_rfl) (by decide) (fun K hK => ?_)
     have hs41 : w40.cell? ⟨gb1022, 0, none⟩ = some (.int .i64 x1023000_7) := (blk_cell BK1022.out 0).trans rfl
     have hfs41 := blk_frozen BK1022.out 0
     have hns41_0 := NB1021_1022.out
     have hns41_2 := NB1028_1022.out
     have hms41_0 := NB1022_1021.out
     have hms41_2 := NB1022_1028.out
     have hs42 : w40.cell? ⟨gb1022, 1, none⟩ = some (.int .i64 x1023001_7) := (blk_cell BK1022.out 1).trans rfl
     have hfs42 := blk_frozen BK1022.out 1
     have hns42_0 := NB1021_1022.out
     have hns42_2 := NB1028_1022.out
     have hms42_0 := NB1022_1021.out
     have hms42_2 := NB1022_1028.out
     have hs43 : w40.cell? ⟨gb1022, 2, none⟩ = some (.slice none 0 0) := (blk_cell BK1022.out 2).trans rfl
     have hfs43 := blk_frozen BK1022.out 2
     have hns43_0 := NB1021_1022.out
     have hns43_2 := NB1028_1022.out
     have hms43_0 := NB1022_1021.out
     have hms43_2 := NB1022_1028.out
     refine skip_ (w1 := ?_) (by rfl) rfl ?_ ?_
     rotate_left; (focus go_simp; rfl)
     refine hK.out _ _ ⟨((cell_far (p := ⟨gb1022, _, none⟩) NB1028_1022.out _).trans (((cell_far (p := ⟨gb1022, _, none⟩) NB1028_1022.out _).trans (((cell_far (p := ⟨gb1022, _, none⟩) NB1028_1022.out _).trans (hHeld.1)))))), ((cell_far (p := ⟨gb1022, _, none⟩) NB1028_1022.out _).trans (((cell_far (p := ⟨gb1022, _, none⟩) NB1028_1022.out _).trans (((cell_far (p := ⟨gb1022, _, none⟩) NB1028_1022.out _).trans (hHeld.2.1)))))), ((cell_far (p := ⟨gb1022, _, none⟩) NB1028_1022.out _).trans (((cell_far (p := ⟨gb1022, _, none⟩) NB1028_1022.out _).trans (((cell_far (p := ⟨gb1022, _, none⟩) NB1028_1022.out _).trans (hHeld.2.2.1)))))), ((cell_far (p := ⟨gb1022, _, none⟩) NB1021_1022.out _).trans (((cell_far (p := ⟨gb1022, _, none⟩) NB1021_1022.out _).trans (((cell_far (p := ⟨gb1022, _, none⟩) NB1021_1022.out _).trans (hHeld.2.2.2.1)))))), ((cell_far (p := ⟨gb1022, _, none⟩) NB1021_1022.out _).trans (((cell_far (p := ⟨gb1022, _, none⟩) NB1021_1022.out _).trans (((cell_far (p := ⟨gb1022, _, none⟩) NB1021_1022.out _).trans (hHeld.2.2.2.2.1)))))), ((cell_far (p := ⟨gb1022, _, none⟩) NB1021_1022.out _).trans (((cell_far (p := ⟨gb1022, _, none⟩) NB1021_1022.out _).trans (((cell_far (p := ⟨gb1022, _, none⟩) NB1021_1022.out _).trans (hHeld.2.2.2.2.2))))))⟩ (fun hHeld => ?_)
     clear hK K
     refine pure_ (i := 4) (N := some 11) (v := ?_) (a' := ?_) #[true, true, true, true, true, false] rfl rfl (by kernel_rfl) (fun _ _ _ h => h) (Or.inl ⟨by rfl, ?_⟩) ?_ ?_; rotate_left; (focus intro w'; go_simp; with_reducible rfl); rotate_left; (focus simp only [Act.put, List.setIfInBounds_toArray, List.set_cons_zero, List.set_cons_succ, i64_w, i32_w]; rfl)
     refine pure_ (i := 5) (N := some 12) (v := ?_) (a' := ?_) #[true, true, true, true, true, true] rfl rfl (by kernel_rfl) (fun _ _ _ h => h) (Or.inl ⟨by rfl, ?_⟩) ?_ ?_; rotate_left; (focus intro w'; go_simp; with_reducible rfl); rotate_left; (focus simp only [Act.put, List.setIfInBounds_toArray, List.set_cons_zero, List.set_cons_succ, i64_w, i32_w]; rfl)
     refine done_ (by kernel_rfl) ?_
     try go_wp2
     refine bodyPost_ret (results_ctt rfl _ _ gb1022 57 #[.int .i64 t1023, .int .i64 (wrap64 (a0_1 + 1)), .slice Ao36 y1030.length co36] (0, 0) _ rfl (bp_ BK1022.out) Try.underlying57 rfl (by kernel_rfl)) rfl ?_
     exact ⟨_, by first | rfl | (simp [errW_none, errW_some] <;> rfl) | (simp [*, errW_none, errW_some] <;> rfl), by (with_reducible repeat (first | apply Kd.R_alloc | apply Kd.R_drewN | apply Kd.R_drew)); exact Kd.R_mono (Kd.R_far (p := ⟨gb1022, 2, none⟩) (Kd.R_far (p := ⟨gb1022, 1, none⟩) (Kd.R_far (p := ⟨gb1022, 0, none⟩) (Kd.R_types HO1032.out BK1022.out (by decide)) (fun _ hk => hk.2) (.int .i64 t1023)) (fun _ hk => hk.2) (.int .i64 (wrap64 (a0_1 + 1)))) (fun _ hk => hk.2) (.slice Ao36 y1030.length co36)) (fun _ hk => trivial), hb_ HB.out⟩
    ·
     replace c29 := Bool.eq_false_iff.mpr c29
     subst c29
     have H1 : ((spec_l3Copy.f a0_0 a0_1 l0_2).bind fun bt1034 => (some (bt1034.1, bt1034.2.1, bt1034.2.2, 0, false))) = some (r1, r2, r3, r4, r5) := by rw [if_neg (show ¬ (false = true) by decide)] at H; exact H
     clear H
     have H := H1
     clear H1
     replace H := Option.bind_eq_some_iff.mp H
     obtain ⟨⟨t1034, t1035, t1036⟩, A440, H⟩ := H
     replace H : (some (t1034, t1035, t1036, 0, false)) = some (r1, r2, r3, r4, r5) := H
     have A44 := Aside0.mk A440
     clear A440
     simp only [Option.some.injEq, Prod.mk.injEq] at H
     obtain ⟨rfl, rfl, rfl, rfl, rfl⟩ := H
     have hnb45 := NB1028_1021.out
     have hnc45 := NB1021_1028.out
     have hnb46 := NB1028_1022.out
     have hnc46 := NB1022_1028.out
     have hcz47_0 : wc.cell? ⟨gb1028, 0, none⟩ = some (.int .i64 t1023) := (blk_cell BK1028.out 0).trans rfl
     have hcz47_1 : wc.cell? ⟨gb1028, 1, none⟩ = some (.int .i64 t1024) := (blk_cell BK1028.out 1).trans rfl
     have hcz47_2 : wc.cell? ⟨gb1028, 2, none⟩ = some (.slice Ao18 t1025.length co18) := (blk_cell BK1028.out 2).trans rfl
     have hfz47_0 := blk_frozen BK1028.out 0
     have hfz47_1 := blk_frozen BK1028.out 1
     have hfz47_2 := blk_frozen BK1028.out 2
     have hnb48 := NB1021_1022.out
     have hnc48 := NB1022_1021.out
     have hcz49_0 : wc.cell? ⟨gb1021, 0, none⟩ = some (.int .i64 a0_0) := (blk_cell BK1021.out 0).trans rfl
     have hcz49_1 : wc.cell? ⟨gb1021, 1, none⟩ = some (.int .i64 a0_1) := (blk_cell BK1021.out 1).trans rfl
     have hcz49_2 : wc.cell? ⟨gb1021, 2, none⟩ = some (.slice A0_2 l0_2.length c0_2) := (blk_cell BK1021.out 2).trans rfl
     have hfz49_0 := blk_frozen BK1021.out 0
     have hfz49_1 := blk_frozen BK1021.out 1
     have hfz49_2 := blk_frozen BK1021.out 2
     go_wp2_with (first | ((with_reducible refine gate_builtin (b := .append) (xs := #[.tmp 21, .tmp 29]) rfl ?_); at_builtin; refine Kd.R_append k_Item (w0 := w) w.heap.size rfl (.tmp 21) (.tmp 29) 55 69 (.agg #[(.int .i64 0), (.string ⟨#[]⟩), (.string ⟨#[]⟩), (.int .i64 0), (.int .i64 0)]) 56 rfl Try.underlying55 info69 rfl (by decide) (by omega) (.slice Ao18 t1025.length co18) t1025 (⟨a0_1, a1, a2, a3, a4⟩ : S_Item) [.int .i64 a0_1, .string a1, .string a2, .int .i64 a3, .int .i64 a4] (fun _ => True) (fun _ => False) rfl rfl ?aP (fun _ hk => hk.elim) ?aF ?aO ?aB ?aS ?aL ?_; (case aP => exact k_Item_mkM _ _ _ (⟨a0_1, a1, a2, a3, a4⟩ : S_Item)); (case aB => exact (hb_ HB.out)); (case aF => exact (fun _ _ => trivial)); (case aO => exact (rq_ HO_1029002.out)); (case aS => exact (below_size (hb_ HB.out))); (case aL => have := LMc27.out; omega); intro v1031 w50 ho hb hg hat; rw [← Ny1030.out] at ho; have n0_ := Aside0.mk (blk_grown (g := gb1021) (o := .cells #[.int .i64 a0_0, .int .i64 a0_1, .slice A0_2 l0_2.length c0_2] 57 (0, 0)) (bq_ BK1021.out) hg (Kd.R_ne HO_1029002.out BK1021.out (by decide))); have n1_ := Aside0.mk (blk_grown (g := gb1022) (o := .cells #[.int .i64 x1023000_7, .int .i64 x1023001_7, .slice none 0 0] 57 (0, 0)) (bq_ BK1022.out) hg (Kd.R_ne HO_1029002.out BK1022.out (by decide))); have n2_ := Aside0.mk (blk_grown (g := gb1028) (o := .cells #[.int .i64 t1023, .int .i64 t1024, .slice Ao18 t1025.length co18] 57 (0, 0)) (bq_ BK1028.out) hg (Kd.R_ne HO_1029002.out BK1028.out (by decide))); have n3_ := Aside0.mk (hb); have n4_ := Aside0.mk (ho); clear BK1021; clear BK1022; clear BK1028; clear HB; clear HO_1029002; have BK1021 := n0_; have BK1022 := n1_; have BK1028 := n2_; have HB := n3_; have HO1032 := n4_; clear n0_ n1_ n2_ n3_ n4_; clear ho hb hg hat; obtain ⟨Ao51, co51, eo51⟩ := Kd.R_slice HO1032.out; subst eo51; have hcz52_0 : w50.cell? ⟨gb1028, 0, none⟩ = some (.int .i64 t1023) := (blk_cell BK1028.out 0).trans rfl; have hcz52_1 : w50.cell? ⟨gb1028, 1, none⟩ = some (.int .i64 t1024) := (blk_cell BK1028.out 1).trans rfl; have hcz52_2 : w50.cell? ⟨gb1028, 2, none⟩ = some (.slice Ao18 t1025.length co18) := (blk_cell BK1028.out 2).trans rfl; have hfz52_0 := blk_frozen BK1028.out 0; have hfz52_1 := blk_frozen BK1028.out 1; have hfz52_2 := blk_frozen BK1028.out 2; have hcz53_0 : w50.cell? ⟨gb1021, 0, none⟩ = some (.int .i64 a0_0) := (blk_cell BK1021.out 0).trans rfl; have hcz53_1 : w50.cell? ⟨gb1021, 1, none⟩ = some (.int .i64 a0_1) := (blk_cell BK1021.out 1).trans rfl; have hcz53_2 : w50.cell? ⟨gb1021, 2, none⟩ = some (.slice A0_2 l0_2.length c0_2) := (blk_cell BK1021.out 2).trans rfl; have hfz53_0 := blk_frozen BK1021.out 0; have hfz53_1 := blk_frozen BK1021.out 1; have hfz53_2 := blk_frozen BK1021.out 2) | ((with_reducible refine gate_callee (f := 45) rfl ?_); refine goesL_ (some 37) rfl rfl Try.func45 (by kernel_rfl) rfl #[.agg #[.int .i64 t1023, .int .i64 (wrap64 (a0_1 + 1)), .slice Ao51 y1030.length co51]] rfl sm_ ?_; (with_reducible refine (spec_RowOk.calls kj7 t1023 (wrap64 (a0_1 + 1)) _ _ y1030 false _ ?side1 ?side2 A28.out).mono ?_); (case side1 => refine (Kd.R_reads' (e := 69) (base := w.heap.size) (ok := fun k_ => True) (n := y1030.length) (c := co51) ?_).2.2; exact (rk_ HO1032.out BK1028.out)); (case side2 => exact (Kd.R_reads' HO1032.out).2.1); rintro e w54 ⟨rfl, hb⟩; refine ⟨_, rfl, ?_⟩; have n0_ := Aside0.mk (Kd.R_below (rk_ HO1032.out BK1028.out) hb); have n1_ := Aside0.mk (blk_below (g := gb1021) (o := .cells #[.int .i64 a0_0, .int .i64 a0_1, .slice A0_2 l0_2.length c0_2] 57 (0, 0)) (bf_ NB1021_1028.out BK1021.out) hb); have n2_ := Aside0.mk (blk_below (g := gb1022) (o := .cells #[.int .i64 x1023000_7, .int .i64 x1023001_7, .slice none 0 0] 57 (0, 0)) (bf_ NB1022_1028.out BK1022.out) hb); have n3_ := Aside0.mk (blk_below (g := gb1028) (o := .cells #[.int .i64 t1023, .int .i64 (wrap64 (a0_1 + 1)), .slice Ao51 y1030.length co51] 57 (0, 0)) (bp_ BK1028.out) hb); have n4_ := Aside0.mk (below_step (hb_ HB.out) hb); clear HO1032; clear BK1021; clear BK1022; clear BK1028; clear HB; have HO1032 := n0_; have BK1021 := n1_; have BK1022 := n2_; have BK1028 := n3_; have HB := n4_; clear n0_ n1_ n2_ n3_ n4_; (try clear hb); (try clear hb2); (try clear hk); (try clear hi); have hcz55_0 : w54.cell? ⟨gb1021, 0, none⟩ = some (.int .i64 a0_0) := (blk_cell BK1021.out 0).trans rfl; have hcz55_1 : w54.cell? ⟨gb1021, 1, none⟩ = some (.int .i64 a0_1) := (blk_cell BK1021.out 1).trans rfl; have hcz55_2 : w54.cell? ⟨gb1021, 2, none⟩ = some (.slice A0_2 l0_2.length c0_2) := (blk_cell BK1021.out 2).trans rfl; have hfz55_0 := blk_frozen BK1021.out 0; have hfz55_1 := blk_frozen BK1021.out 1; have hfz55_2 := blk_frozen BK1021.out 2) | ((with_reducible refine gate_callee (f := 95) rfl ?_); refine goesL_ (some 40) rfl rfl Try.func95 (by kernel_rfl) rfl #[.agg #[.int .i64 a0_0, .int .i64 a0_1, .slice A0_2 l0_2.length c0_2]] rfl sm_ ?_; (with_reducible refine (spec_l3Copy.calls a0_0 a0_1 _ _ l0_2 t1034 t1035 t1036 _ ?side1 ?side2 A44.out).mono ?_); (case side1 => repeat (first | exact (Kd.C_below HR0_2.out HB.out) | (with_reducible refine Kd.C_alloc ?_ _) | (with_reducible refine Kd.C_drewN ?_ _) | (with_reducible refine Kd.C_drew ?_))); (case side2 => exact HC0_2.out); rintro e w56 ⟨v1037, rfl, ho0, hb⟩; refine ⟨_, rfl, ?_⟩; have n0_ := Aside0.mk (Kd.R_elder' (rq_ HO1032.out) (Kd.R_base ho0) hb); have n1_ := Aside0.mk (Kd.R_lower (Kd.R_new' ho0 (Kd.R_lt (rq_ HO1032.out))) (below_size (hb_ HB.out))); have n2_ := Aside0.mk (bb_ BK1021.out hb); have n3_ := Aside0.mk (bb_ BK1022.out hb); have n4_ := Aside0.mk (bb_ BK1028.out hb); have n5_ := Aside0.mk (below_step (hb_ HB.out) hb); clear HO1032; clear BK1021; clear BK1022; clear BK1028; clear HB; have HO1032 := n0_; have HO1038 := n1_; have BK1021 := n2_; have BK1022 := n3_; have BK1028 := n4_; have HB := n5_; clear n0_ n1_ n2_ n3_ n4_ n5_; (try clear hb); (try clear hb2); (try clear hk); (try clear hi); (try clear ho0); have hcz57_0 : w56.cell? ⟨gb1022, 0, none⟩ = some (.int .i64 x1023000_7) := (blk_cell BK1022.out 0).trans rfl; have hcz57_1 : w56.cell? ⟨gb1022, 1, none⟩ = some (.int .i64 x1023001_7) := (blk_cell BK1022.out 1).trans rfl; have hcz57_2 : w56.cell? ⟨gb1022, 2, none⟩ = some (.slice none 0 0) := (blk_cell BK1022.out 2).trans rfl; have hfz57_0 := blk_frozen BK1022.out 0; have hfz57_1 := blk_frozen BK1022.out 1; have hfz57_2 := blk_frozen BK1022.out 2; obtain ⟨Ao58, co58, eo58⟩ := Kd.R_slice HO1038.out; subst eo58))
     refine bodyPost_ret (results_ctt rfl _ _ gb1022 57 #[.int .i64 t1034, .int .i64 t1035, .slice Ao58 t1036.length co58] (0, 0) _ rfl (bp_ BK1022.out) Try.underlying57 rfl (by kernel_rfl)) rfl ?_
     exact ⟨_, by first | rfl | (simp [errW_none, errW_some] <;> rfl) | (simp [*, errW_none, errW_some] <;> rfl), by (with_reducible repeat (first | apply Kd.R_alloc | apply Kd.R_drewN | apply Kd.R_drew)); exact Kd.R_mono (Kd.R_far (p := ⟨gb1022, 2, none⟩) (Kd.R_far (p := ⟨gb1022, 1, none⟩) (Kd.R_far (p := ⟨gb1022, 0, none⟩) (Kd.R_types HO1038.out BK1022.out (by decide)) (fun _ hk => hk.2) (.int .i64 t1034)) (fun _ hk => hk.2) (.int .i64 t1035)) (fun _ hk => hk.2) (.slice Ao58 t1036.length co58)) (fun _ hk => trivial), hb_ HB.out⟩
   ·
    rw [if_neg c27] at H
    exact absurd H (by simp)
/-! ### impl_RowPut: function 32 -/
def impl_RowPut.j0 : Nat → Bool → Int → Int → List (S_Item) → Int → Int → List (S_Item) → Option (Int × Int × (List (S_Item)) × Int × Bool)
 | 0, _, _, _, _, _, _, _ => none
 | k + 1, x39, x1040000, x1040001, x1040002, x1047000, x1047001, x1047002 => if x39 = true then ((impl_copyRow.f x1040000 x1040001 x1040002).bind fun bt1052 => (some (bt1052.1, bt1052.2.1, bt1052.2.2, 0, false))) else (some (x1047000, x1047001, x1047002, x1040001, true))
def impl_RowPut.f (k : Nat) (a0_0 : Int) (a0_1 : Int) (l0_2 : List (S_Item)) (a1 : ByteArray) (a2 : ByteArray) (a3 : Int) (a4 : Int) : Option (Int × Int × (List (S_Item)) × Int × Bool) := (impl_copyRow.f a0_0 a0_1 l0_2).bind fun bt1041 => (if bt1041.2.2.length < 2513169434916 then ((some (bt1041.2.2 ++ [(⟨a0_1, a1, a2, a3, a4⟩ : S_Item)] : List (S_Item))).bind fun y1047 => ((impl_RowOk.f k a0_0 a0_1 l0_2).bind fun t1050 => (if t1050 = true then ((impl_RowOk.f k bt1041.1 (wrap64 (bt1041.2.1 + 1)) y1047).bind fun t1051 => (impl_RowPut.j0 k (!t1051) a0_0 a0_1 l0_2 bt1041.1 (wrap64 (bt1041.2.1 + 1)) y1047)) else (impl_RowPut.j0 k true a0_0 a0_1 l0_2 bt1041.1 (wrap64 (bt1041.2.1 + 1)) y1047)))) else (none))
theorem impl_RowPut.mono_l : ∀ k, (∀ y0 y1 y2 y3 y4 y5 y6, LeO (impl_RowPut.j0 k y0 y1 y2 y3 y4 y5 y6) (impl_RowPut.j0 (k + 1) y0 y1 y2 y3 y4 y5 y6))
 | 0 => fun _ _ _ _ _ _ _ r h => by simp [impl_RowPut.j0] at h
 | k + 1 => by
  have ih0 := impl_RowPut.mono_l k
  ·
   intro y0 y1 y2 y3 y4 y5 y6
   unfold impl_RowPut.j0
   repeat' first
   | (with_reducible exact ih0 _ _ _ _ _ _ _)
   | (with_reducible exact impl_RowOk.mono _ _ _ _)
   | (with_reducible exact LeO.refl _)
   | (with_reducible exact LeO.none _)
   | (with_reducible refine LeO.ite ?_ ?_)
   | (with_reducible refine LeO.bind ?_ (fun _ => ?_))
   | exact ih0 _ _ _ _ _ _ _
   | exact impl_RowOk.mono _ _ _ _
   | exact LeO.none _
   | refine LeO.ite ?_ ?_
   | refine LeO.bind ?_ (fun _ => ?_)
theorem impl_RowPut.mono : ∀ a0 a1 a2 a3 a4 a5 a6 k, LeO (impl_RowPut.f k a0 a1 a2 a3 a4 a5 a6) (impl_RowPut.f (k + 1) a0 a1 a2 a3 a4 a5 a6) := by
 intro a0 a1 a2 a3 a4 a5 a6 k
 have ih0 := impl_RowPut.mono_l k
 unfold impl_RowPut.f
 repeat' first
  | (with_reducible exact ih0 _ _ _ _ _ _ _)
  | (with_reducible exact impl_RowOk.mono _ _ _ _)
  | (with_reducible exact LeO.refl _)
  | (with_reducible exact LeO.none _)
  | (with_reducible refine LeO.ite ?_ ?_)
  | (with_reducible refine LeO.bind ?_ (fun _ => ?_))
  | exact ih0 _ _ _ _ _ _ _
  | exact impl_RowOk.mono _ _ _ _
  | exact LeO.none _
  | refine LeO.ite ?_ ?_
  | refine LeO.bind ?_ (fun _ => ?_)
set_option maxHeartbeats 8000000 in
set_option maxRecDepth 100000 in
theorem impl_RowPut.calls (k : Nat) (a0_0 : Int) (a0_1 : Int) (A0_2 : Option Addr) (c0_2 : Nat) (l0_2 : List (S_Item)) (a1 : ByteArray) (a2 : ByteArray) (a3 : Int) (a4 : Int) (r1 : Int) (r2 : Int) (r3 : List (S_Item)) (r4 : Int) (r5 : Bool) (w : World) (hr0_2 : Kd.C k_Item w A0_2 l0_2.length l0_2) (hc0_2 : l0_2.length ≤ c0_2) (h : impl_RowPut.f k a0_0 a0_1 l0_2 a1 a2 a3 a4 = some (r1, r2, r3, r4, r5)) :
 Calls Try.prog 32 #[.agg #[.int .i64 a0_0, .int .i64 a0_1, .slice A0_2 l0_2.length c0_2], .string a1, .string a2, .int .i64 a3, .int .i64 a4] w fun e w' => ∃ v2_ : Value, e = .returned (.tuple #[.agg #[.int .i64 r1, .int .i64 r2, v2_], .int .i64 r4, .bool r5]) ∧ Kd.R k_Item 69 w' w.heap.size (fun _ => True) v2_ r3 ∧ Below w.heap.size w w' := by
 have hu57 := Try.underlying57
 have hu69 := Try.underlying69
 have HR0_2 := Aside0.mk hr0_2
 have HC0_2 := Aside0.mk hc0_2
 clear hr0_2 hc0_2
 have HB := Aside0.mk (Below.refl w.heap.size w)
 have H : ((impl_copyRow.f a0_0 a0_1 l0_2).bind fun bt1041 => (if bt1041.2.2.length < 2513169434916 then ((some (bt1041.2.2 ++ [(⟨a0_1, a1, a2, a3, a4⟩ : S_Item)] : List (S_Item))).bind fun y1047 => ((impl_RowOk.f k a0_0 a0_1 l0_2).bind fun t1050 => (if t1050 = true then ((impl_RowOk.f k bt1041.1 (wrap64 (bt1041.2.1 + 1)) y1047).bind fun t1051 => (impl_RowPut.j0 k (!t1051) a0_0 a0_1 l0_2 bt1041.1 (wrap64 (bt1041.2.1 + 1)) y1047)) else (impl_RowPut.j0 k true a0_0 a0_1 l0_2 bt1041.1 (wrap64 (bt1041.2.1 + 1)) y1047)))) else (none))) = some (r1, r2, r3, r4, r5) := h
 clear h
 replace H := Option.bind_eq_some_iff.mp H
 obtain ⟨⟨t1041, t1042, t1043⟩, A60, H⟩ := H
 replace H : (if t1043.length < 2513169434916 then ((some (t1043 ++ [(⟨a0_1, a1, a2, a3, a4⟩ : S_Item)] : List (S_Item))).bind fun y1047 => ((impl_RowOk.f k a0_0 a0_1 l0_2).bind fun t1050 => (if t1050 = true then ((impl_RowOk.f k t1041 (wrap64 (t1042 + 1)) y1047).bind fun t1051 => (impl_RowPut.j0 k (!t1051) a0_0 a0_1 l0_2 t1041 (wrap64 (t1042 + 1)) y1047)) else (impl_RowPut.j0 k true a0_0 a0_1 l0_2 t1041 (wrap64 (t1042 + 1)) y1047)))) else (none)) = some (r1, r2, r3, r4, r5) := H
 have A6 := Aside0.mk A60
 clear A60
 by_cases c7 : t1043.length < 2513169434916
 ·
  rw [if_pos c7] at H
  have LMc7 := Aside0.mk c7
  clear c7
  obtain ⟨y1047, hy1047⟩ : ∃ y_ : List (S_Item), y_ = (t1043 ++ [(⟨a0_1, a1, a2, a3, a4⟩ : S_Item)]) := ⟨_, rfl⟩
  replace H : ((impl_RowOk.f k a0_0 a0_1 l0_2).bind fun t1050 => (if t1050 = true then ((impl_RowOk.f k t1041 (wrap64 (t1042 + 1)) y1047).bind fun t1051 => (impl_RowPut.j0 k (!t1051) a0_0 a0_1 l0_2 t1041 (wrap64 (t1042 + 1)) y1047)) else (impl_RowPut.j0 k true a0_0 a0_1 l0_2 t1041 (wrap64 (t1042 + 1)) y1047))) = some (r1, r2, r3, r4, r5) := by first | (rw [hy1047]; with_reducible exact H) | (have H2_ := (Option.bind_some _ _).symm.trans H; rw [hy1047]; with_reducible exact H2_) | (have H2_ := (Option.bind_some _ _).symm.trans H; with_reducible exact H2_) | with_reducible exact H | (rw [hy1047]; exact H) | exact H
  have Ny1047 := Aside0.mk hy1047
  clear hy1047
  have HC8 := Aside0.mk H
  clear H
  go_enter Try.func32, Try.ntmps32
  go_upto_region 4 with (first | ((with_reducible refine gate_dst (N := 5) rfl ?_); refine box_event ?hg (N := 5) ?hd (cs := #[.int .i64 a0_0, .int .i64 a0_1, .slice A0_2 l0_2.length c0_2]) (t := 57) ?hr ?_; (case hd => rfl); (case hg => rfl); (case hr => first | (go_simp; done) | (go_simp; rfl)); intro gb1039 hg w9 hbox hb; have n0_ := Aside0.mk (below_step (hb_ HB.out) hb); have n1_ := Aside0.mk (hbox); have n2_ := Aside0.mk ((by rw [hg]; exact (below_size (hb_ HB.out)) : w.heap.size ≤ gb1039)); have n3_ := Aside0.mk ((by rw [hg]; exact (below_size (hb_ HB.out)) : w.heap.size ≤ gb1039)); clear HB; have HB := n0_; have BK1039 := n1_; have GW1039 := n2_; have GE1039 := n3_; clear n0_ n1_ n2_ n3_; clear hb hbox hg) | ((with_reducible refine gate_dst (N := 10) rfl ?_); refine box_event ?hg (N := 10) ?hd (cs := #[.int .i64 0, .int .i64 0, .slice none 0 0]) (t := 57) ?hr ?_; (case hd => rfl); (case hg => rfl); (case hr => first | (go_simp; done) | (go_simp; rfl)); intro gb1040 hg w10 hbox hb; have n0_ := Aside0.mk (bb_ BK1039.out hb); have n1_ := Aside0.mk (below_step (hb_ HB.out) hb); have n2_ := Aside0.mk (hbox); have n3_ := Aside0.mk ((by rw [hg]; exact (below_size (hb_ HB.out)) : w.heap.size ≤ gb1040)); have n4_ := Aside0.mk ((by rw [hg]; exact (below_size (hb_ HB.out)) : w.heap.size ≤ gb1040)); have n5_ := Aside0.mk ((by rw [hg]; exact Nat.ne_of_lt (blk_lt (g := gb1039) (o := .cells #[.int .i64 a0_0, .int .i64 a0_1, .slice A0_2 l0_2.length c0_2] 57 (0, 0)) (bq_ BK1039.out)) : gb1039 ≠ gb1040)); have n6_ := Aside0.mk ((by rw [hg]; exact Nat.ne_of_gt (blk_lt (g := gb1039) (o := .cells #[.int .i64 a0_0, .int .i64 a0_1, .slice A0_2 l0_2.length c0_2] 57 (0, 0)) (bq_ BK1039.out)) : gb1040 ≠ gb1039)); clear BK1039; clear HB; have BK1039 := n0_; have HB := n1_; have BK1040 := n2_; have GW1040 := n3_; have GE1040 := n4_; have NB1039_1040 := n5_; have NB1040_1039 := n6_; clear n0_ n1_ n2_ n3_ n4_ n5_ n6_; clear hb hbox hg; have hnb11 := NB1039_1040.out; have hnc11 := NB1040_1039.out; have hcz12_0 : w10.cell? ⟨gb1039, 0, none⟩ = some (.int .i64 a0_0) := (blk_cell BK1039.out 0).trans rfl; have hcz12_1 : w10.cell? ⟨gb1039, 1, none⟩ = some (.int .i64 a0_1) := (blk_cell BK1039.out 1).trans rfl; have hcz12_2 : w10.cell? ⟨gb1039, 2, none⟩ = some (.slice A0_2 l0_2.length c0_2) := (blk_cell BK1039.out 2).trans rfl; have hfz12_0 := blk_frozen BK1039.out 0; have hfz12_1 := blk_frozen BK1039.out 1; have hfz12_2 := blk_frozen BK1039.out 2) | ((with_reducible refine gate_callee (f := 97) rfl ?_); refine goesL_ (some 15) rfl rfl Try.func97 (by kernel_rfl) rfl #[.agg #[.int .i64 a0_0, .int .i64 a0_1, .slice A0_2 l0_2.length c0_2]] rfl sm_ ?_; (with_reducible refine (impl_copyRow.calls a0_0 a0_1 _ _ l0_2 t1041 t1042 t1043 _ ?side1 ?side2 A6.out).mono ?_); (case side1 => repeat (first | exact (Kd.C_below HR0_2.out HB.out) | (with_reducible refine Kd.C_alloc ?_ _) | (with_reducible refine Kd.C_drewN ?_ _) | (with_reducible refine Kd.C_drew ?_))); (case side2 => exact HC0_2.out); rintro e w13 ⟨v1044, rfl, ho0, hb⟩; refine ⟨_, rfl, ?_⟩; have n0_ := Aside0.mk (Kd.R_lower ho0 (below_size (hb_ HB.out))); have n1_ := Aside0.mk (bb_ BK1039.out hb); have n2_ := Aside0.mk (bb_ BK1040.out hb); have n3_ := Aside0.mk (below_step (hb_ HB.out) hb); clear BK1039; clear BK1040; clear HB; have HO1045 := n0_; have BK1039 := n1_; have BK1040 := n2_; have HB := n3_; clear n0_ n1_ n2_ n3_; (try clear hb); (try clear hb2); (try clear hk); (try clear hi); (try clear ho0)) | ((with_reducible refine gate_dst (N := 13) rfl ?_); refine box_event ?hg (N := 13) ?hd (cs := #[.int .i64 0, .int .i64 0, .slice none 0 0]) (t := 57) ?hr ?_; (case hd => rfl); (case hg => rfl); (case hr => first | (go_simp; done) | (go_simp; rfl)); intro gb1046 hg w14 hbox hb; have n0_ := Aside0.mk (Kd.R_below (rq_ HO1045.out) hb); have n1_ := Aside0.mk (bb_ BK1039.out hb); have n2_ := Aside0.mk (bb_ BK1040.out hb); have n3_ := Aside0.mk (below_step (hb_ HB.out) hb); have n4_ := Aside0.mk (hbox); have n5_ := Aside0.mk ((by rw [hg]; exact (below_size (hb_ HB.out)) : w.heap.size ≤ gb1046)); have n6_ := Aside0.mk ((by rw [hg]; exact (below_size (hb_ HB.out)) : w.heap.size ≤ gb1046)); have n7_ := Aside0.mk ((by rw [hg]; exact Nat.ne_of_lt (blk_lt (g := gb1039) (o := .cells #[.int .i64 a0_0, .int .i64 a0_1, .slice A0_2 l0_2.length c0_2] 57 (0, 0)) (bq_ BK1039.out)) : gb1039 ≠ gb1046)); have n8_ := Aside0.mk ((by rw [hg]; exact Nat.ne_of_gt (blk_lt (g := gb1039) (o := .cells #[.int .i64 a0_0, .int .i64 a0_1, .slice A0_2 l0_2.length c0_2] 57 (0, 0)) (bq_ BK1039.out)) : gb1046 ≠ gb1039)); have n9_ := Aside0.mk ((by rw [hg]; exact Nat.ne_of_lt (blk_lt (g := gb1040) (o := .cells #[.int .i64 0, .int .i64 0, .slice none 0 0] 57 (0, 0)) (bq_ BK1040.out)) : gb1040 ≠ gb1046)); have n10_ := Aside0.mk ((by rw [hg]; exact Nat.ne_of_gt (blk_lt (g := gb1040) (o := .cells #[.int .i64 0, .int .i64 0, .slice none 0 0] 57 (0, 0)) (bq_ BK1040.out)) : gb1046 ≠ gb1040)); clear HO1045; clear BK1039; clear BK1040; clear HB; have HO1045 := n0_; have BK1039 := n1_; have BK1040 := n2_; have HB := n3_; have BK1046 := n4_; have GW1046 := n5_; have GE1046 := n6_; have NB1039_1046 := n7_; have NB1046_1039 := n8_; have NB1040_1046 := n9_; have NB1046_1040 := n10_; clear n0_ n1_ n2_ n3_ n4_ n5_ n6_ n7_ n8_ n9_ n10_; clear hb hbox hg; have hnb15 := NB1046_1039.out; have hnc15 := NB1039_1046.out; have hnb16 := NB1046_1040.out; have hnc16 := NB1040_1046.out; have hcz17_0 : w14.cell? ⟨gb1046, 0, none⟩ = some (.int .i64 0) := (blk_cell BK1046.out 0).trans rfl; have hcz17_1 : w14.cell? ⟨gb1046, 1, none⟩ = some (.int .i64 0) := (blk_cell BK1046.out 1).trans rfl; have hcz17_2 : w14.cell? ⟨gb1046, 2, none⟩ = some (.slice none 0 0) := (blk_cell BK1046.out 2).trans rfl; have hfz17_0 := blk_frozen BK1046.out 0; have hfz17_1 := blk_frozen BK1046.out 1; have hfz17_2 := blk_frozen BK1046.out 2; obtain ⟨Ao18, co18, eo18⟩ := Kd.R_slice HO1045.out; subst eo18; have hcz19_0 : w14.cell? ⟨gb1039, 0, none⟩ = some (.int .i64 a0_0) := (blk_cell BK1039.out 0).trans rfl; have hcz19_1 : w14.cell? ⟨gb1039, 1, none⟩ = some (.int .i64 a0_1) := (blk_cell BK1039.out 1).trans rfl; have hcz19_2 : w14.cell? ⟨gb1039, 2, none⟩ = some (.slice A0_2 l0_2.length c0_2) := (blk_cell BK1039.out 2).trans rfl; have hfz19_0 := blk_frozen BK1039.out 0; have hfz19_1 := blk_frozen BK1039.out 1; have hfz19_2 := blk_frozen BK1039.out 2) | ((with_reducible refine gate_builtin (b := .append) (xs := #[.tmp 17, .tmp 25]) rfl ?_); at_builtin; refine Kd.R_append k_Item (w0 := w) w.heap.size rfl (.tmp 17) (.tmp 25) 55 69 (.agg #[(.int .i64 0), (.string ⟨#[]⟩), (.string ⟨#[]⟩), (.int .i64 0), (.int .i64 0)]) 56 rfl Try.underlying55 info69 rfl (by decide) (by omega) (.slice Ao18 t1043.length co18) t1043 (⟨a0_1, a1, a2, a3, a4⟩ : S_Item) [.int .i64 a0_1, .string a1, .string a2, .int .i64 a3, .int .i64 a4] (fun _ => True) (fun _ => False) rfl (by first | (go_simp; done) | (go_simp; rfl)) ?aP (fun _ hk => hk.elim) ?aF ?aO ?aB ?aS ?aL ?_; (case aP => exact k_Item_mkM _ _ _ (⟨a0_1, a1, a2, a3, a4⟩ : S_Item)); (case aB => exact (hb_ HB.out)); (case aF => exact (fun _ _ => trivial)); (case aO => exact (by (with_reducible repeat (first | apply Kd.R_alloc | apply Kd.R_drewN | apply Kd.R_drew)); exact Kd.R_mono (Kd.R_far (p := ⟨gb1046, 2, none⟩) (Kd.R_far (p := ⟨gb1046, 1, none⟩) (Kd.R_far (p := ⟨gb1046, 0, none⟩) (Kd.R_types HO1045.out BK1046.out (by decide)) (fun _ hk => hk.2) (.int .i64 t1041)) (fun _ hk => hk.2) (.int .i64 t1042)) (fun _ hk => hk.2) (.slice Ao18 t1043.length co18)) (fun _ hk => trivial))); (case aS => exact (below_size (hb_ HB.out))); (case aL => have := LMc7.out; omega); intro v1048 w20 ho hb hg hat; rw [← Ny1047.out] at ho; have n0_ := Aside0.mk (blk_grown (g := gb1039) (o := .cells #[.int .i64 a0_0, .int .i64 a0_1, .slice A0_2 l0_2.length c0_2] 57 (0, 0)) (bf_ NB1039_1046.out BK1039.out) hg (Kd.R_ne HO1045.out BK1039.out (by decide))); have n1_ := Aside0.mk (blk_grown (g := gb1040) (o := .cells #[.int .i64 0, .int .i64 0, .slice none 0 0] 57 (0, 0)) (bf_ NB1040_1046.out BK1040.out) hg (Kd.R_ne HO1045.out BK1040.out (by decide))); have n2_ := Aside0.mk (blk_grown (g := gb1046) (o := .cells #[.int .i64 t1041, .int .i64 t1042, .slice Ao18 t1043.length co18] 57 (0, 0)) (bp_ BK1046.out) hg (Kd.R_ne HO1045.out BK1046.out (by decide))); have n3_ := Aside0.mk (hb); have n4_ := Aside0.mk (ho); clear BK1039; clear BK1040; clear BK1046; clear HB; clear HO1045; have BK1039 := n0_; have BK1040 := n1_; have BK1046 := n2_; have HB := n3_; have HO1049 := n4_; clear n0_ n1_ n2_ n3_ n4_; clear ho hb hg hat; obtain ⟨Ao21, co21, eo21⟩ := Kd.R_slice HO1049.out; subst eo21; have hcz22_0 : w20.cell? ⟨gb1046, 0, none⟩ = some (.int .i64 t1041) := (blk_cell BK1046.out 0).trans rfl; have hcz22_1 : w20.cell? ⟨gb1046, 1, none⟩ = some (.int .i64 t1042) := (blk_cell BK1046.out 1).trans rfl; have hcz22_2 : w20.cell? ⟨gb1046, 2, none⟩ = some (.slice Ao18 t1043.length co18) := (blk_cell BK1046.out 2).trans rfl; have hfz22_0 := blk_frozen BK1046.out 0; have hfz22_1 := blk_frozen BK1046.out 1; have hfz22_2 := blk_frozen BK1046.out 2))
  (try simp only [Act.put, List.setIfInBounds_toArray, List.set_cons_zero, List.set_cons_succ])
  go_cut [39] (fun v39 wc => ∃ (kq : Nat) (x39_7 : Bool), v39 = .bool x39_7 ∧ Aside0 (impl_RowPut.j0 kq x39_7 a0_0 a0_1 l0_2 t1041 (wrap64 (t1042 + 1)) y1047 = some (r1, r2, r3, r4, r5)) ∧ Aside0 (kq ≤ k) ∧ Aside0 (Kd.R k_Item 69 wc w.heap.size (fun _ => True) (.slice Ao21 y1047.length co21) y1047) ∧ Aside0 (wc.heap[gb1039]? = some (.cells #[.int .i64 a0_0, .int .i64 a0_1, (.slice A0_2 l0_2.length c0_2)] 57 (0, 0))) ∧ Aside0 (wc.heap[gb1040]? = some (.cells #[.int .i64 0, .int .i64 0, (.slice none 0 0)] 57 (0, 0))) ∧ Aside0 (wc.heap[gb1046]? = some (.cells #[.int .i64 t1041, .int .i64 (wrap64 (t1042 + 1)), (.slice Ao21 y1047.length co21)] 57 (0, 0))) ∧ Aside0 (Below w.heap.size w wc))
  case first =>
   have H := HC8.out
   clear HC8
   replace H := Option.bind_eq_some_iff.mp H
   obtain ⟨t1050, A230, H⟩ := H
   replace H : (if t1050 = true then ((impl_RowOk.f k t1041 (wrap64 (t1042 + 1)) y1047).bind fun t1051 => (impl_RowPut.j0 k (!t1051) a0_0 a0_1 l0_2 t1041 (wrap64 (t1042 + 1)) y1047)) else (impl_RowPut.j0 k true a0_0 a0_1 l0_2 t1041 (wrap64 (t1042 + 1)) y1047)) = some (r1, r2, r3, r4, r5) := H
   have A23 := Aside0.mk A230
   clear A230
   by_cases c24 : t1050 = true
   ·
    subst c24
    have H1 : ((impl_RowOk.f k t1041 (wrap64 (t1042 + 1)) y1047).bind fun t1051 => (impl_RowPut.j0 k (!t1051) a0_0 a0_1 l0_2 t1041 (wrap64 (t1042 + 1)) y1047)) = some (r1, r2, r3, r4, r5) := by rw [if_pos rfl] at H; exact H
    clear H
    have H := H1
    clear H1
    replace H := Option.bind_eq_some_iff.mp H
    obtain ⟨t1051, A250, H⟩ := H
    replace H : (impl_RowPut.j0 k (!t1051) a0_0 a0_1 l0_2 t1041 (wrap64 (t1042 + 1)) y1047) = some (r1, r2, r3, r4, r5) := H
    have A25 := Aside0.mk A250
    clear A250
    have H' := Aside0.mk H
    clear H
    have hnb26 := NB1039_1040.out
    have hnc26 := NB1040_1039.out
    have hnb27 := NB1039_1046.out
    have hnc27 := NB1046_1039.out
    have hcz28_0 : w20.cell? ⟨gb1039, 0, none⟩ = some (.int .i64 a0_0) := (blk_cell BK1039.out 0).trans rfl
    have hcz28_1 : w20.cell? ⟨gb1039, 1, none⟩ = some (.int .i64 a0_1) := (blk_cell BK1039.out 1).trans rfl
    have hcz28_2 : w20.cell? ⟨gb1039, 2, none⟩ = some (.slice A0_2 l0_2.length c0_2) := (blk_cell BK1039.out 2).trans rfl
    have hfz28_0 := blk_frozen BK1039.out 0
    have hfz28_1 := blk_frozen BK1039.out 1
    have hfz28_2 := blk_frozen BK1039.out 2
    go_wp2_with (first | ((with_reducible refine gate_callee (f := 44) rfl ?_); refine goesL_ (some 33) rfl rfl Try.func44 (by kernel_rfl) rfl #[.agg #[.int .i64 a0_0, .int .i64 a0_1, .slice A0_2 l0_2.length c0_2]] rfl sm_ ?_; (with_reducible refine (impl_RowOk.calls k a0_0 a0_1 _ _ l0_2 true _ ?side1 ?side2 A23.out).mono ?_); (case side1 => exact Kd.C_below HR0_2.out (hb_ HB.out)); (case side2 => exact HC0_2.out); rintro e w29 ⟨rfl, hb⟩; refine ⟨_, rfl, ?_⟩; have n0_ := Aside0.mk (Kd.R_below (rk_ HO1049.out BK1046.out) hb); have n1_ := Aside0.mk (blk_below (g := gb1039) (o := .cells #[.int .i64 a0_0, .int .i64 a0_1, .slice A0_2 l0_2.length c0_2] 57 (0, 0)) (bf_ NB1039_1046.out BK1039.out) hb); have n2_ := Aside0.mk (blk_below (g := gb1040) (o := .cells #[.int .i64 0, .int .i64 0, .slice none 0 0] 57 (0, 0)) (bf_ NB1040_1046.out BK1040.out) hb); have n3_ := Aside0.mk (blk_below (g := gb1046) (o := .cells #[.int .i64 t1041, .int .i64 (wrap64 (t1042 + 1)), .slice Ao21 y1047.length co21] 57 (0, 0)) (bp_ BK1046.out) hb); have n4_ := Aside0.mk (below_step (hb_ HB.out) hb); clear HO1049; clear BK1039; clear BK1040; clear BK1046; clear HB; have HO1049 := n0_; have BK1039 := n1_; have BK1040 := n2_; have BK1046 := n3_; have HB := n4_; clear n0_ n1_ n2_ n3_ n4_; (try clear hb); (try clear hb2); (try clear hk); (try clear hi); have hnb30 := NB1046_1040.out; have hnc30 := NB1040_1046.out; have hcz31_0 : w29.cell? ⟨gb1046, 0, none⟩ = some (.int .i64 t1041) := (blk_cell BK1046.out 0).trans rfl; have hcz31_1 : w29.cell? ⟨gb1046, 1, none⟩ = some (.int .i64 (wrap64 (t1042 + 1))) := (blk_cell BK1046.out 1).trans rfl; have hcz31_2 : w29.cell? ⟨gb1046, 2, none⟩ = some (.slice Ao21 y1047.length co21) := (blk_cell BK1046.out 2).trans rfl; have hfz31_0 := blk_frozen BK1046.out 0; have hfz31_1 := blk_frozen BK1046.out 1; have hfz31_2 := blk_frozen BK1046.out 2) | (go_at_call 44; (with_reducible refine (impl_RowOk.calls k t1041 (wrap64 (t1042 + 1)) _ _ y1047 t1051 _ ?side1 ?side2 A25.out).mono ?_); (case side1 => repeat (first | exact (Kd.R_reads' HO1049.out).2.2 | (with_reducible refine Kd.C_alloc ?_ _) | (with_reducible refine Kd.C_drewN ?_ _) | (with_reducible refine Kd.C_drew ?_))); (case side2 => exact (Kd.R_reads' HO1049.out).2.1); rintro e w32 ⟨rfl, hb⟩; have n0_ := Aside0.mk (Kd.R_below (rq_ HO1049.out) hb); have n1_ := Aside0.mk (bb_ BK1039.out hb); have n2_ := Aside0.mk (bb_ BK1040.out hb); have n3_ := Aside0.mk (bb_ BK1046.out hb); have n4_ := Aside0.mk (below_step (hb_ HB.out) hb); clear HO1049; clear BK1039; clear BK1040; clear BK1046; clear HB; have HO1049 := n0_; have BK1039 := n1_; have BK1040 := n2_; have BK1046 := n3_; have HB := n4_; clear n0_ n1_ n2_ n3_ n4_; (try clear hb); (try clear hb2); (try clear hk); (try clear hi)))
    go_meet
    case rel => exact ⟨_, (!t1051), (by first | rfl | (simp; done) | (simp [*]; done)), H', ⟨by first | omega | exact Nat.le_refl _⟩, ⟨rq_ HO1049.out⟩, ⟨bq_ BK1039.out⟩, ⟨bq_ BK1040.out⟩, ⟨bq_ BK1046.out⟩, ⟨hb_ HB.out⟩⟩
   ·
    replace c24 := Bool.eq_false_iff.mpr c24
    subst c24
    have H1 : (impl_RowPut.j0 k true a0_0 a0_1 l0_2 t1041 (wrap64 (t1042 + 1)) y1047) = some (r1, r2, r3, r4, r5) := by rw [if_neg (show ¬ (false = true) by decide)] at H; exact H
    clear H
    have H := H1
    clear H1
    have H' := Aside0.mk H
    clear H
    have hnb33 := NB1039_1040.out
    have hnc33 := NB1040_1039.out
    have hnb34 := NB1039_1046.out
    have hnc34 := NB1046_1039.out
    have hcz35_0 : w20.cell? ⟨gb1039, 0, none⟩ = some (.int .i64 a0_0) := (blk_cell BK1039.out 0).trans rfl
    have hcz35_1 : w20.cell? ⟨gb1039, 1, none⟩ = some (.int .i64 a0_1) := (blk_cell BK1039.out 1).trans rfl
    have hcz35_2 : w20.cell? ⟨gb1039, 2, none⟩ = some (.slice A0_2 l0_2.length c0_2) := (blk_cell BK1039.out 2).trans rfl
    have hfz35_0 := blk_frozen BK1039.out 0
    have hfz35_1 := blk_frozen BK1039.out 1
    have hfz35_2 := blk_frozen BK1039.out 2
    go_wp2_with (first | ((with_reducible refine gate_callee (f := 44) rfl ?_); refine goesL_ (some 33) rfl rfl Try.func44 (by kernel_rfl) rfl #[.agg #[.int .i64 a0_0, .int .i64 a0_1, .slice A0_2 l0_2.length c0_2]] rfl sm_ ?_; (with_reducible refine (impl_RowOk.calls k a0_0 a0_1 _ _ l0_2 false _ ?side1 ?side2 A23.out).mono ?_); (case side1 => exact Kd.C_below HR0_2.out (hb_ HB.out)); (case side2 => exact HC0_2.out); rintro e w36 ⟨rfl, hb⟩; refine ⟨_, rfl, ?_⟩; have n0_ := Aside0.mk (Kd.R_below (rk_ HO1049.out BK1046.out) hb); have n1_ := Aside0.mk (blk_below (g := gb1039) (o := .cells #[.int .i64 a0_0, .int .i64 a0_1, .slice A0_2 l0_2.length c0_2] 57 (0, 0)) (bf_ NB1039_1046.out BK1039.out) hb); have n2_ := Aside0.mk (blk_below (g := gb1040) (o := .cells #[.int .i64 0, .int .i64 0, .slice none 0 0] 57 (0, 0)) (bf_ NB1040_1046.out BK1040.out) hb); have n3_ := Aside0.mk (blk_below (g := gb1046) (o := .cells #[.int .i64 t1041, .int .i64 (wrap64 (t1042 + 1)), .slice Ao21 y1047.length co21] 57 (0, 0)) (bp_ BK1046.out) hb); have n4_ := Aside0.mk (below_step (hb_ HB.out) hb); clear HO1049; clear BK1039; clear BK1040; clear BK1046; clear HB; have HO1049 := n0_; have BK1039 := n1_; have BK1040 := n2_; have BK1046 := n3_; have HB := n4_; clear n0_ n1_ n2_ n3_ n4_; (try clear hb); (try clear hb2); (try clear hk); (try clear hi)))
    go_meet
    case rel => exact ⟨_, (true), (by first | rfl | (simp; done) | (simp [*]; done)), H', ⟨by first | omega | exact Nat.le_refl _⟩, ⟨rq_ HO1049.out⟩, ⟨bq_ BK1039.out⟩, ⟨bq_ BK1040.out⟩, ⟨bq_ BK1046.out⟩, ⟨hb_ HB.out⟩⟩
  case rest =>
   clear HC8
   (try clear c1); (try clear c2); (try clear p2); (try clear c3); (try clear c4); (try clear p6); (try clear c7); (try clear c9); (try clear c11); (try clear c15); (try clear c16); (try clear c24); (try clear c26); (try clear c27); (try clear c30); (try clear c32); (try clear c33); (try clear c34); (try clear hcz12_0); (try clear hcz12_1); (try clear hcz12_2); (try clear hcz17_0); (try clear hcz17_1); (try clear hcz17_2); (try clear hcz19_0); (try clear hcz19_1); (try clear hcz19_2); (try clear hcz22_0); (try clear hcz22_1); (try clear hcz22_2); (try clear hcz28_0); (try clear hcz28_1); (try clear hcz28_2); (try clear hcz31_0); (try clear hcz31_1); (try clear hcz31_2); (try clear hcz35_0); (try clear hcz35_1); (try clear hcz35_2); (try clear hfz12_0); (try clear hfz12_1); (try clear hfz12_2); (try clear hfz17_0); (try clear hfz17_1); (try clear hfz17_2); (try clear hfz19_0); (try clear hfz19_1); (try clear hfz19_2); (try clear hfz22_0); (try clear hfz22_1); (try clear hfz22_2); (try clear hfz28_0); (try clear hfz28_1); (try clear hfz28_2); (try clear hfz31_0); (try clear hfz31_1); (try clear hfz31_2); (try clear hfz35_0); (try clear hfz35_1); (try clear hfz35_2)
   obtain ⟨kq, x39_7, rfl, HA, HJ7, HO_1047002, BK1039, BK1040, BK1046, HB⟩ := hcut
   cases kq with
   | zero => exact absurd HA.out (by simp [impl_RowPut.j0])
   | succ kj7 =>
    have H := HA.out
    clear HA
    simp only [impl_RowPut.j0] at H
    by_cases c37 : x39_7 = true
    ·
     subst c37
     have H1 : ((impl_copyRow.f a0_0 a0_1 l0_2).bind fun bt1052 => (some (bt1052.1, bt1052.2.1, bt1052.2.2, 0, false))) = some (r1, r2, r3, r4, r5) := by rw [if_pos rfl] at H; exact H
     clear H
     have H := H1
     clear H1
     replace H := Option.bind_eq_some_iff.mp H
     obtain ⟨⟨t1052, t1053, t1054⟩, A380, H⟩ := H
     replace H : (some (t1052, t1053, t1054, 0, false)) = some (r1, r2, r3, r4, r5) := H
     have A38 := Aside0.mk A380
     clear A380
     simp only [Option.some.injEq, Prod.mk.injEq] at H
     obtain ⟨rfl, rfl, rfl, rfl, rfl⟩ := H
     have hnb39 := NB1039_1040.out
     have hnc39 := NB1040_1039.out
     have hnb40 := NB1039_1046.out
     have hnc40 := NB1046_1039.out
     have hcz41_0 : wc.cell? ⟨gb1039, 0, none⟩ = some (.int .i64 a0_0) := (blk_cell BK1039.out 0).trans rfl
     have hcz41_1 : wc.cell? ⟨gb1039, 1, none⟩ = some (.int .i64 a0_1) := (blk_cell BK1039.out 1).trans rfl
     have hcz41_2 : wc.cell? ⟨gb1039, 2, none⟩ = some (.slice A0_2 l0_2.length c0_2) := (blk_cell BK1039.out 2).trans rfl
     have hfz41_0 := blk_frozen BK1039.out 0
     have hfz41_1 := blk_frozen BK1039.out 1
     have hfz41_2 := blk_frozen BK1039.out 2
     go_wp2_with (first | ((with_reducible refine gate_callee (f := 97) rfl ?_); refine goesL_ (some 41) rfl rfl Try.func97 (by kernel_rfl) rfl #[.agg #[.int .i64 a0_0, .int .i64 a0_1, .slice A0_2 l0_2.length c0_2]] rfl sm_ ?_; (with_reducible refine (impl_copyRow.calls a0_0 a0_1 _ _ l0_2 t1052 t1053 t1054 _ ?side1 ?side2 A38.out).mono ?_); (case side1 => repeat (first | exact (Kd.C_below HR0_2.out HB.out) | (with_reducible refine Kd.C_alloc ?_ _) | (with_reducible refine Kd.C_drewN ?_ _) | (with_reducible refine Kd.C_drew ?_))); (case side2 => exact HC0_2.out); rintro e w42 ⟨v1055, rfl, ho0, hb⟩; refine ⟨_, rfl, ?_⟩; have n0_ := Aside0.mk (Kd.R_elder' (rq_ HO_1047002.out) (Kd.R_base ho0) hb); have n1_ := Aside0.mk (Kd.R_lower (Kd.R_new' ho0 (Kd.R_lt (rq_ HO_1047002.out))) (below_size (hb_ HB.out))); have n2_ := Aside0.mk (bb_ BK1039.out hb); have n3_ := Aside0.mk (bb_ BK1040.out hb); have n4_ := Aside0.mk (bb_ BK1046.out hb); have n5_ := Aside0.mk (below_step (hb_ HB.out) hb); clear HO_1047002; clear BK1039; clear BK1040; clear BK1046; clear HB; have HO_1047002 := n0_; have HO1056 := n1_; have BK1039 := n2_; have BK1040 := n3_; have BK1046 := n4_; have HB := n5_; clear n0_ n1_ n2_ n3_ n4_ n5_; (try clear hb); (try clear hb2); (try clear hk); (try clear hi); (try clear ho0); have hnb43 := NB1040_1046.out; have hnc43 := NB1046_1040.out; have hcz44_0 : w42.cell? ⟨gb1040, 0, none⟩ = some (.int .i64 0) := (blk_cell BK1040.out 0).trans rfl; have hcz44_1 : w42.cell? ⟨gb1040, 1, none⟩ = some (.int .i64 0) := (blk_cell BK1040.out 1).trans rfl; have hcz44_2 : w42.cell? ⟨gb1040, 2, none⟩ = some (.slice none 0 0) := (blk_cell BK1040.out 2).trans rfl; have hfz44_0 := blk_frozen BK1040.out 0; have hfz44_1 := blk_frozen BK1040.out 1; have hfz44_2 := blk_frozen BK1040.out 2; obtain ⟨Ao45, co45, eo45⟩ := Kd.R_slice HO1056.out; subst eo45))
     refine bodyPost_ret (results_ctt rfl _ _ gb1040 57 #[.int .i64 t1052, .int .i64 t1053, .slice Ao45 t1054.length co45] (0, 0) _ rfl (bp_ BK1040.out) Try.underlying57 rfl (by kernel_rfl)) rfl ?_
     exact ⟨_, by first | rfl | (simp [errW_none, errW_some] <;> rfl) | (simp [*, errW_none, errW_some] <;> rfl), by (with_reducible repeat (first | apply Kd.R_alloc | apply Kd.R_drewN | apply Kd.R_drew)); exact Kd.R_mono (Kd.R_far (p := ⟨gb1040, 2, none⟩) (Kd.R_far (p := ⟨gb1040, 1, none⟩) (Kd.R_far (p := ⟨gb1040, 0, none⟩) (Kd.R_types HO1056.out BK1040.out (by decide)) (fun _ hk => hk.2) (.int .i64 t1052)) (fun _ hk => hk.2) (.int .i64 t1053)) (fun _ hk => hk.2) (.slice Ao45 t1054.length co45)) (fun _ hk => trivial), hb_ HB.out⟩
    ·
     replace c37 := Bool.eq_false_iff.mpr c37
     subst c37
     have H1 : (some (t1041, (wrap64 (t1042 + 1)), y1047, a0_1, true)) = some (r1, r2, r3, r4, r5) := by rw [if_neg (show ¬ (false = true) by decide)] at H; exact H
     clear H
     have H := H1
     clear H1
     simp only [Option.some.injEq, Prod.mk.injEq] at H
     obtain ⟨rfl, rfl, rfl, rfl, rfl⟩ := H
     try go_wp2
     have n0_ := Aside0.mk (Kd.R_drew HO_1047002.out)
     have n1_ := Aside0.mk (blk_drew BK1039.out)
     have n2_ := Aside0.mk (blk_drew BK1040.out)
     have n3_ := Aside0.mk (blk_drew BK1046.out)
     have n4_ := Aside0.mk (below_drew1 HB.out)
     clear HO_1047002; clear BK1039
     clear BK1040; clear BK1046
     clear HB
     have HO_1047002 := n0_
     have BK1039 := n1_
     have BK1040 := n2_
     have BK1046 := n3_
     have HB := n4_
     clear n0_ n1_ n2_ n3_ n4_
     refine start_ (n := 6) (S := fun w' => w'.cell? ⟨gb1046, 0, none⟩ = some (.int .i64 t1041) ∧ w'.cell? ⟨gb1046, 1, none⟩ = some (.int .i64 (wrap64 (t1042 + 1))) ∧ w'.cell? ⟨gb1046, 2, none⟩ = some (.slice Ao21 y1047.length co21) ∧ w'.cell? ⟨gb1039, 0, none⟩ = some (.int .i64 a0_0) ∧ w'.cell? ⟨gb1039, 1, none⟩ = some (.int .i64 a0_1) ∧ w'.cell? ⟨gb1039, 2, none⟩ = some (.slice A0_2 l0_2.length c0_2)) (ds := []) #[false, false, false, false, false, false] (by kernel_rfl) rfl rfl ⟨(blk_cell BK1046.out 0).trans rfl, (blk_cell BK1046.out 1).trans rfl, (blk_cell BK1046.out 2).trans rfl, (blk_cell BK1039.out 0).trans rfl, (blk_cell BK1039.out 1).trans rfl, (blk_cell BK1039.out 2).trans rfl⟩ (fun hHeld => ?_)
     generalize wc.drew = w46 at HO_1047002 BK1039 BK1040 BK1046 HB hHeld ⊢
     refine pure_ (i := 1) (N := some 43) (v := ?_) (a' := ?_) #[false, true, false, false, false, false] rfl rfl (by kernel_rfl) (fun _ _ _ h => h) (Or.inl ⟨by rfl, ?_⟩) ?_ ?_; rotate_left; (focus intro w'; go_simp; with_reducible rfl); rotate_left; (focus simp only [Act.put, List.setIfInBounds_toArray, List.set_cons_zero, List.set_cons_succ, i64_w, i32_w]; rfl)
     refine take_ (i := 0) (N := some 42) (v := ?_) (a' := ?_) #[true, true, false, false, false, false] rfl rfl (by kernel_rfl) (fun _ _ _ h => h) (Or.inl ⟨by rfl, ?_⟩) hHeld ?_ ?_
     rotate_left
     ·
      rintro w' ⟨s0, s1, s2, s3, s4, s5⟩
      go_simp
      with_reducible rfl
     rotate_left; (focus simp only [Act.put, List.setIfInBounds_toArray, List.set_cons_zero, List.set_cons_succ, i64_w, i32_w]; rfl)
     refine take_ (i := 2) (N := some 44) (v := ?_) (a' := ?_) #[true, true, true, false, false, false] rfl rfl (by kernel_rfl) (fun _ _ _ h => h) (Or.inl ⟨by rfl, ?_⟩) hHeld ?_ ?_
     rotate_left
     ·
      rintro w' ⟨s0, s1, s2, s3, s4, s5⟩
      go_simp
      with_reducible rfl
     rotate_left; (focus simp only [Act.put, List.setIfInBounds_toArray, List.set_cons_zero, List.set_cons_succ, i64_w, i32_w]; rfl)
     refine one_ (i := 3) (N := none) #[true, true, true, true, false, false] rfl rfl (by kernel_rfl) (by decide) (fun K hK => ?_)
     have hs47 : w46.cell? ⟨gb1040, 0, none⟩ = some (.int .i64 0) := (blk_cell BK1040.out 0).trans rfl
     have hfs47 := blk_frozen BK1040.out 0
     have hns47_0 := NB1039_1040.out
     have hns47_2 := NB1046_1040.out
     have hms47_0 := NB1040_1039.out
     have hms47_2 := NB1040_1046.out
     have hs48 : w46.cell? ⟨gb1040, 1, none⟩ = some (.int .i64 0) := (blk_cell BK1040.out 1).trans rfl
     have hfs48 := blk_frozen BK1040.out 1
     have hns48_0 := NB1039_1040.out
     have hns48_2 := NB1046_1040.out
     have hms48_0 := NB1040_1039.out
     have hms48_2 := NB1040_1046.out
     have hs49 : w46.cell? ⟨gb1040, 2, none⟩ = some (.slice none 0 0) := (blk_cell BK1040.out 2).trans rfl
     have hfs49 := blk_frozen BK1040.out 2
     have hns49_0 := NB1039_1040.out
     have hns49_2 := NB1046_1040.out
     have hms49_0 := NB1040_1039.out
     have hms49_2 := NB1040_1046.out
     refine skip_ (w1 := ?_) (by rfl) rfl ?_ ?_
     rotate_left; (focus go_simp; rfl)
     refine hK.out _ _ ⟨((cell_far (p := ⟨gb1040, _, none⟩) NB1046_1040.out _).trans (((cell_far (p := ⟨gb1040, _, none⟩) NB1046_1040.out _).trans (((cell_far (p := ⟨gb1040, _, none⟩) NB1046_1040.out _).trans (hHeld.1)))))), ((cell_far (p := ⟨gb1040, _, none⟩) NB1046_1040.out _).trans (((cell_far (p := ⟨gb1040, _, none⟩) NB1046_1040.out _).trans (((cell_far (p := ⟨gb1040, _, none⟩) NB1046_1040.out _).trans (hHeld.2.1)))))), ((cell_far (p := ⟨gb1040, _, none⟩) NB1046_1040.out _).trans (((cell_far (p := ⟨gb1040, _, none⟩) NB1046_1040.out _).trans (((cell_far (p := ⟨gb1040, _, none⟩) NB1046_1040.out _).trans (hHeld.2.2.1)))))), ((cell_far (p := ⟨gb1040, _, none⟩) NB1039_1040.out _).trans (((cell_far (p := ⟨gb1040, _, none⟩) NB1039_1040.out _).trans (((cell_far (p := ⟨gb1040, _, none⟩) NB1039_1040.out _).trans (hHeld.2.2.2.1)))))), ((cell_far (p := ⟨gb1040, _, none⟩) NB1039_1040.out _).trans (((cell_far (p := ⟨gb1040, _, none⟩) NB1039_1040.out _).trans (((cell_far (p := ⟨gb1040, _, none⟩) NB1039_1040.out _).trans (hHeld.2.2.2.2.1)))))), ((cell_far (p := ⟨gb1040, _, none⟩) NB1039_1040.out _).trans (((cell_far (p := ⟨gb1040, _, none⟩) NB1039_1040.out _).trans (((cell_far (p := ⟨gb1040, _, none⟩) NB1039_1040.out _).trans (hHeld.2.2.2.2.2))))))⟩ (fun hHeld => ?_)
     clear hK K
     refine pure_ (i := 4) (N := some 11) (v := ?_) (a' := ?_) #[true, true, true, true, true, false] rfl rfl (by kernel_rfl) (fun _ _ _ h => h) (Or.inl ⟨by rfl, ?_⟩) ?_ ?_; rotate_left; (focus intro w'; go_simp; with_reducible rfl); rotate_left; (focus simp only [Act.put, List.setIfInBounds_toArray, List.set_cons_zero, List.set_cons_succ, i64_w, i32_w]; rfl)
     refine pure_ (i := 5) (N := some 12) (v := ?_) (a' := ?_) #[true, true, true, true, true, true] rfl rfl (by kernel_rfl) (fun _ _ _ h => h) (Or.inl ⟨by rfl, ?_⟩) ?_ ?_; rotate_left; (focus intro w'; go_simp; with_reducible rfl); rotate_left; (focus simp only [Act.put, List.setIfInBounds_toArray, List.set_cons_zero, List.set_cons_succ, i64_w, i32_w]; rfl)
     refine done_ (by kernel_rfl) ?_
     try go_wp2
     refine bodyPost_ret (results_ctt rfl _ _ gb1040 57 #[.int .i64 t1041, .int .i64 (wrap64 (t1042 + 1)), .slice Ao21 y1047.length co21] (0, 0) _ rfl (bp_ BK1040.out) Try.underlying57 rfl (by kernel_rfl)) rfl ?_
     exact ⟨_, by first | rfl | (simp [errW_none, errW_some] <;> rfl) | (simp [*, errW_none, errW_some] <;> rfl), by (with_reducible repeat (first | apply Kd.R_alloc | apply Kd.R_drewN | apply Kd.R_drew)); exact Kd.R_mono (Kd.R_far (p := ⟨gb1040, 2, none⟩) (Kd.R_far (p := ⟨gb1040, 1, none⟩) (Kd.R_far (p := ⟨gb1040, 0, none⟩) (Kd.R_types HO_1047002.out BK1040.out (by decide)) (fun _ hk => hk.2) (.int .i64 t1041)) (fun _ hk => hk.2) (.int .i64 (wrap64 (t1042 + 1)))) (fun _ hk => hk.2) (.slice Ao21 y1047.length co21)) (fun _ hk => trivial), hb_ HB.out⟩
 ·
  rw [if_neg c7] at H
  exact absurd H (by simp)
end Go.Proofs.Ytiknkolclcdajaa.Q
