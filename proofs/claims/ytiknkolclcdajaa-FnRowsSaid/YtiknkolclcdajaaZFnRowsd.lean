/- Made by a program of ours out of the print of the loaded functions: for each of some functions a plain function, and the walk that shows that a call comes to what it says. No condition but those of each theorem. -/
import Derived.Test.YtiknkolclcdajaaZFnRows0
import Derived.Test.YtiknkolclcdajaaZFnRowsa
import Derived.Test.YtiknkolclcdajaaZFnRowsc
namespace Go.Proofs.Ytiknkolclcdajaa.Q
open Go.RowKit Go.Proofs.YtiknkolclcdajaaW.PrintWords Go.Proofs.YtiknkolclcdajaaW.PrintLast Go.Proofs.YtiknkolclcdajaaW.PrintMore
attribute [local go_sem] max2_int min2_int max_two min_two max_three min_three max_four min_four   -- for this text's walks alone
set_option linter.unusedVariables false
set_option linter.unusedSimpArgs false
theorem qd0_ {P : Prop} (h : P := by repeat (first | (with_reducible first | exact HB.out | apply below_alloc | apply pw_below_drewN | apply below_drew1 | refine below_set ?_ GE1206.out | refine below_set ?_ GE1207.out | refine below_set ?_ GE1213.out) | exact HB.out)) : P := h
theorem qd1_ {P : Prop} (h : P := by repeat (first | (with_reducible first | exact HB.out | apply below_alloc | apply pw_below_drewN | apply below_drew1 | refine below_set ?_ GE1224.out | refine below_set ?_ GE1225.out | refine below_set ?_ GE1231.out) | exact HB.out)) : P := h
theorem qd2_ {P : Prop} (h : P := by (try simp only [List.map_toArray, List.map_cons, List.map_nil]); first | done | rfl | (simp only [List.length_drop, List.length_take]; rfl)) : P := h
theorem qd3_ {P : Prop} (h : P := by repeat (first | (with_reducible first | exact HB.out | apply below_alloc | apply pw_below_drewN | apply below_drew1) | exact HB.out)) : P := h
theorem qd4_ {P : Prop} (h : P := by repeat (first | (with_reducible first | exact HB.out | apply below_alloc | apply pw_below_drewN | apply below_drew1 | refine below_set ?_ GE1224.out | refine below_set ?_ GE1225.out) | exact HB.out)) : P := h
theorem qd5_ {P : Prop} (h : P := by repeat (first | (with_reducible first | exact HB.out | apply below_alloc | apply pw_below_drewN | apply below_drew1 | refine below_set ?_ GE1206.out | refine below_set ?_ GE1207.out) | exact HB.out)) : P := h
theorem qd6_ {P : Prop} (h : P := by first | rfl | (simp [errW_none, errW_some] <;> rfl) | (simp [*, errW_none, errW_some] <;> rfl)) : P := h
theorem qd7_ {P : Prop} (h : P := by (with_reducible repeat (first | apply Kd.R_alloc | apply Kd.R_drewN | apply Kd.R_drew)); exact Kd.R_mono (Kd.R_far (p := ⟨gb1306, 2, none⟩) (Kd.R_far (p := ⟨gb1306, 1, none⟩) (Kd.R_far (p := ⟨gb1306, 0, none⟩) (Kd.R_types HO1305.out BK1306.out (by decide)) (fun _ hk => hk.2) (.int .i64 t1301)) (fun _ hk => hk.2) (.int .i64 t1302)) (fun _ hk => hk.2) (.slice Ao15 t1303.length co15)) (fun _ hk => trivial)) : P := h
theorem qd8_ {P : Prop} (h : P := by repeat (first | (with_reducible first | exact HB.out | apply below_alloc | apply pw_below_drewN | apply below_drew1 | refine below_set ?_ GE1125.out | refine below_set ?_ GE1126.out) | exact HB.out)) : P := h
theorem qd9_ {P : Prop} (h : P := by (with_reducible repeat (first | apply Kd.R_alloc | apply Kd.R_drewN | apply Kd.R_drew)); exact (Kd.R_mono (Kd.R_far (p := ⟨gb1231, 1, none⟩) (Kd.R_far (p := ⟨gb1231, 2, none⟩) (Kd.R_types HO1234.out BK1231.out (by decide)) (fun _ hk => hk.2) (.slice Ao21 y1232.length co21)) (fun _ hk => hk.2) (.int .i64 (wrap64 (t1227 + 1)))) (fun _ h_ => h_.1))) : P := h
theorem qd10_ {P : Prop} (h : P := by (with_reducible repeat (first | apply Kd.R_alloc | apply Kd.R_drewN | apply Kd.R_drew)); exact (Kd.R_mono (Kd.R_far (p := ⟨gb1213, 1, none⟩) (Kd.R_far (p := ⟨gb1213, 2, none⟩) (Kd.R_types HO1217.out BK1213.out (by decide)) (fun _ hk => hk.2) (.slice Ao51 y1215.length co51)) (fun _ hk => hk.2) (.int .i64 (wrap64 (a0_1 + 1)))) (fun _ h_ => h_.1))) : P := h
theorem qd11_ {P : Prop} (h : P := by (with_reducible repeat (first | apply Kd.R_alloc | apply Kd.R_drewN | apply Kd.R_drew)); exact (Kd.R_mono (Kd.R_far (p := ⟨gb1213, 1, none⟩) (Kd.R_far (p := ⟨gb1213, 2, none⟩) (Kd.R_types HO1217.out BK1213.out (by decide)) (fun _ hk => hk.2) (.slice Ao36 y1215.length co36)) (fun _ hk => hk.2) (.int .i64 (wrap64 (a0_1 + 1)))) (fun _ h_ => h_.1))) : P := h
theorem qd12_ {P : Prop} (h : P := by repeat (first | (with_reducible first | exact HB.out | apply below_alloc | apply pw_below_drewN | apply below_drew1 | refine below_set ?_ GE1224.out) | exact HB.out)) : P := h
theorem qd13_ {P : Prop} (h : P := by repeat (first | (with_reducible first | exact HB.out | apply below_alloc | apply pw_below_drewN | apply below_drew1 | refine below_set ?_ GE1206.out) | exact HB.out)) : P := h
theorem qd14_ {P : Prop} (h : P := by repeat (first | (with_reducible first | exact HB.out | apply below_alloc | apply pw_below_drewN | apply below_drew1 | refine below_set ?_ GE1125.out) | exact HB.out)) : P := h
theorem qd15_ {P : Prop} (h : P := by first | rfl | (simp; done) | (simp [*]; done)) : P := h
theorem qd16_ {P : Prop} (h : P := by (with_reducible repeat (first | apply Kd.R_alloc | apply Kd.R_drewN | apply Kd.R_drew)); exact HO1234.out) : P := h
theorem qd17_ {P : Prop} (h : P := by first | omega | exact Nat.le_refl _) : P := h
theorem qd18_ {P : Prop} (h : P := by have := HJ4.out; have := HK2.out; have := HK3.out; omega) : P := h
theorem qdh0_ {P : Prop} (h : P := by repeat' first | (with_reducible exact ih0 _ _ _ _ _ _ _ _ _ _) | (with_reducible exact spec_RowOk.mono _ _ _ _) | (with_reducible exact LeO.refl _) | (with_reducible exact LeO.none _) | (with_reducible refine LeO.ite ?_ ?_) | (with_reducible refine LeO.bind ?_ (fun _ => ?_)) | exact ih0 _ _ _ _ _ _ _ _ _ _ | exact spec_RowOk.mono _ _ _ _ | exact LeO.none _ | refine LeO.ite ?_ ?_ | refine LeO.bind ?_ (fun _ => ?_)) : P := h
theorem qdh1_ {P : Prop} (h : P := by repeat' first | (with_reducible exact ih0 _ _ _ _ _ _ _) | (with_reducible exact impl_RowOk.mono _ _ _ _) | (with_reducible exact LeO.refl _) | (with_reducible exact LeO.none _) | (with_reducible refine LeO.ite ?_ ?_) | (with_reducible refine LeO.bind ?_ (fun _ => ?_)) | exact ih0 _ _ _ _ _ _ _ | exact impl_RowOk.mono _ _ _ _ | exact LeO.none _ | refine LeO.ite ?_ ?_ | refine LeO.bind ?_ (fun _ => ?_)) : P := h
theorem qdh2_ {P : Prop} (h : P := by repeat' first | (with_reducible exact ih0 _ _ _ _ _ _ _ _ _) | (with_reducible exact ih1 _ _ _ _ _ _ _ _) | (with_reducible exact ih2 _ _ _ _ _ _ _ _ _ _) | (with_reducible exact spec_RowOk.mono _ _ _ _) | (with_reducible exact LeO.refl _) | (with_reducible exact LeO.none _) | (with_reducible refine LeO.ite ?_ ?_) | (with_reducible refine LeO.bind ?_ (fun _ => ?_)) | exact ih0 _ _ _ _ _ _ _ _ _ | exact ih1 _ _ _ _ _ _ _ _ | exact ih2 _ _ _ _ _ _ _ _ _ _ | exact spec_RowOk.mono _ _ _ _ | exact LeO.none _ | refine LeO.ite ?_ ?_ | refine LeO.bind ?_ (fun _ => ?_)) : P := h

/-! ### impl_copyRow: function 97 -/
def impl_copyRow.f (a0_0 : Int) (a0_1 : Int) (l0_2 : List (S_Item)) : Option (Int × Int × (List (S_Item))) := if ([] : List (S_Item)).length + l0_2.length < 2513169434916 then (some (a0_0, a0_1, (([] : List (S_Item)) ++ l0_2))) else (none)
set_option maxHeartbeats 8000000 in
set_option maxRecDepth 100000 in
theorem impl_copyRow.calls (a0_0 : Int) (a0_1 : Int) (A0_2 : Option Addr) (c0_2 : Nat) (l0_2 : List (S_Item)) (r1 : Int) (r2 : Int) (r3 : List (S_Item)) (w : World) (hr0_2 : Kd.C k_Item w A0_2 l0_2.length l0_2) (hc0_2 : l0_2.length ≤ c0_2) (h : impl_copyRow.f a0_0 a0_1 l0_2 = some (r1, r2, r3)) :
    Calls Try.prog 97 #[.agg #[.int .i64 a0_0, .int .i64 a0_1, .slice A0_2 l0_2.length c0_2]] w fun e w' => ∃ v2_ : Value, e = .returned (.agg #[.int .i64 r1, .int .i64 r2, v2_]) ∧ Kd.R k_Item 69 w' w.heap.size (fun _ => True) v2_ r3 ∧ Below w.heap.size w w' := by
  have hu57 := Try.underlying57
  have HR0_2 := Aside0.mk hr0_2
  have HC0_2 := Aside0.mk hc0_2
  clear hr0_2 hc0_2
  have HB := Aside0.mk (Below.refl w.heap.size w)
  have H : (if ([] : List (S_Item)).length + l0_2.length < 2513169434916 then (some (a0_0, a0_1, (([] : List (S_Item)) ++ l0_2))) else (none)) = some (r1, r2, r3) := h
  clear h
  by_cases c2 : ([] : List (S_Item)).length + l0_2.length < 2513169434916
  · rw [if_pos c2] at H
    have LMc2 := Aside0.mk c2
    clear c2
    obtain ⟨y1127, hy1127⟩ : ∃ y_ : List (S_Item), y_ = (([] : List (S_Item)) ++ l0_2) := ⟨_, rfl⟩
    replace H : (some (a0_0, a0_1, y1127)) = some (r1, r2, r3) := by first | (rw [hy1127]; with_reducible exact H) | (have H2_ := (Option.bind_some _ _).symm.trans H; rw [hy1127]; with_reducible exact H2_) | (have H2_ := (Option.bind_some _ _).symm.trans H; with_reducible exact H2_) | with_reducible exact H | (rw [hy1127]; exact H) | exact H
    have Ny1127 := Aside0.mk hy1127
    clear hy1127
    simp only [Option.some.injEq, Prod.mk.injEq] at H
    obtain ⟨rfl, rfl, rfl⟩ := H
    go_enter Try.func97, Try.ntmps97
    go_wp2_with (first | ((with_reducible refine gate_dst (N := 1) rfl ?_); refine box_event ?hg (N := 1) ?hd (cs := #[.int .i64 a0_0, .int .i64 a0_1, .slice A0_2 l0_2.length c0_2]) (t := 57) ?hr ?_; (case hd => rfl); (case hg => rfl); (case hr => first | (go_simp; done) | (go_simp; rfl)); intro gb1125 hg w3 hbox hb; have BK1125 := Aside0.mk (hbox); have GW1125 := Aside0.mk ((by rw [hg]; exact (below_size (qd3_)) : w.heap.size ≤ gb1125)); have GE1125 := Aside0.mk ((by rw [hg]; exact (below_size (qd3_)) : w.heap.size ≤ gb1125)); replace HB := Aside0.mk (below_step (qd3_) hb); clear hb hbox hg) | ((with_reducible refine gate_dst (N := 2) rfl ?_); refine box_event ?hg (N := 2) ?hd (cs := #[.int .i64 0, .int .i64 0, .slice none 0 0]) (t := 57) ?hr ?_; (case hd => rfl); (case hg => rfl); (case hr => first | (go_simp; done) | (go_simp; rfl)); intro gb1126 hg w4 hbox hb; have BK1126 := Aside0.mk (hbox); have GW1126 := Aside0.mk ((by rw [hg]; exact (below_size (qd14_)) : w.heap.size ≤ gb1126)); have GE1126 := Aside0.mk ((by rw [hg]; exact (below_size (qd14_)) : w.heap.size ≤ gb1126)); have NB1125_1126 := Aside0.mk ((by rw [hg]; exact Nat.ne_of_lt (blk_lt (g := gb1125) (o := .cells #[.int .i64 a0_0, .int .i64 a0_1, .slice A0_2 l0_2.length c0_2] 57 (0, 0)) (bq_ BK1125.out)) : gb1125 ≠ gb1126)); have NB1126_1125 := Aside0.mk ((by rw [hg]; exact Nat.ne_of_gt (blk_lt (g := gb1125) (o := .cells #[.int .i64 a0_0, .int .i64 a0_1, .slice A0_2 l0_2.length c0_2] 57 (0, 0)) (bq_ BK1125.out)) : gb1126 ≠ gb1125)); replace BK1125 := Aside0.mk (blk_below (g := gb1125) (o := .cells #[.int .i64 a0_0, .int .i64 a0_1, .slice A0_2 l0_2.length c0_2] 57 (0, 0)) (bq_ BK1125.out) hb); replace HB := Aside0.mk (below_step (qd14_) hb); clear hb hbox hg; have hnb5 := NB1125_1126.out; have hnc5 := NB1126_1125.out; have hcz6_0 : w4.cell? ⟨gb1125, 0, none⟩ = some (.int .i64 a0_0) := bc_ BK1125 0; have hcz6_1 : w4.cell? ⟨gb1125, 1, none⟩ = some (.int .i64 a0_1) := bc_ BK1125 1; have hcz6_2 : w4.cell? ⟨gb1125, 2, none⟩ = some (.slice A0_2 l0_2.length c0_2) := bc_ BK1125 2; have hfz6_0 := blk_frozen BK1125.out 0; have hfz6_1 := blk_frozen BK1125.out 1; have hfz6_2 := blk_frozen BK1125.out 2) | ((with_reducible refine gate_builtin (b := .append) (xs := #[.const (.slice none 0 0), .tmp 4]) rfl ?_); at_builtin; refine Kd.R_append_rows k_Item (w0 := w) w.heap.size rfl (.const (.slice none 0 0)) (.tmp 4) 55 69 (.agg #[(.int .i64 0), (.string ⟨#[]⟩), (.string ⟨#[]⟩), (.int .i64 0), (.int .i64 0)]) 56 rfl Try.underlying55 info69 rfl (by decide) (by omega) (.slice none 0 0) ([] : List (S_Item)) l0_2 _ _ _ (fun _ => True) (fun _ => False) rfl rfl ?aO ?aR (fun _ _ h => h) (fun _ h => h.elim) ?aF ?aB ?aS ?aL ?_; (case aR => repeat (first | exact (Kd.C_below HR0_2.out HB.out) | (with_reducible refine Kd.C_alloc ?_ _) | (with_reducible refine Kd.C_drewN ?_ _) | (with_reducible refine Kd.C_drew ?_))); (case aB => exact (qd8_)); (case aF => exact (fun _ _ => trivial)); (case aO => exact ((Kd.R_nil _ _ _ _ (fun _ => True)))); (case aS => exact (below_size (qd8_))); (case aL => have := LMc2.out; omega); intro v1128 w7 ho hb hg hat; rw [← Ny1127.out] at ho; have HO1129 := Aside0.mk (ho); replace BK1125 := Aside0.mk (blk_grown (g := gb1125) (o := .cells #[.int .i64 a0_0, .int .i64 a0_1, .slice A0_2 l0_2.length c0_2] 57 (0, 0)) (bq_ BK1125.out) hg (by simp [Value.ownBlock])); replace BK1126 := Aside0.mk (blk_grown (g := gb1126) (o := .cells #[.int .i64 0, .int .i64 0, .slice none 0 0] 57 (0, 0)) (bq_ BK1126.out) hg (by simp [Value.ownBlock])); replace HB := Aside0.mk (hb); clear ho hb hg hat; obtain ⟨Ao8, co8, eo8⟩ := Kd.R_slice HO1129.out; subst eo8; have hcz9_0 : w7.cell? ⟨gb1125, 0, none⟩ = some (.int .i64 a0_0) := bc_ BK1125 0; have hcz9_1 : w7.cell? ⟨gb1125, 1, none⟩ = some (.int .i64 a0_1) := bc_ BK1125 1; have hcz9_2 : w7.cell? ⟨gb1125, 2, none⟩ = some (.slice A0_2 l0_2.length c0_2) := bc_ BK1125 2; have hfz9_0 := blk_frozen BK1125.out 0; have hfz9_1 := blk_frozen BK1125.out 1; have hfz9_2 := blk_frozen BK1125.out 2; have hcz10_0 : w7.cell? ⟨gb1126, 0, none⟩ = some (.int .i64 0) := bc_ BK1126 0; have hcz10_1 : w7.cell? ⟨gb1126, 1, none⟩ = some (.int .i64 0) := bc_ BK1126 1; have hcz10_2 : w7.cell? ⟨gb1126, 2, none⟩ = some (.slice none 0 0) := bc_ BK1126 2; have hfz10_0 := blk_frozen BK1126.out 0; have hfz10_1 := blk_frozen BK1126.out 1; have hfz10_2 := blk_frozen BK1126.out 2))
    refine bodyPost_ret (results_cell_row rfl _ _ gb1126 57 #[.int .i64 a0_0, .int .i64 a0_1, .slice Ao8 y1127.length co8] (0, 0) _ rfl (by_ BK1126.out) Try.underlying57 rfl (by kernel_rfl)) rfl ?_
    exact ⟨_, qd6_, by (with_reducible repeat (first | apply Kd.R_alloc | apply Kd.R_drewN | apply Kd.R_drew)); exact Kd.R_mono (Kd.R_far (p := ⟨gb1126, 2, none⟩) (Kd.R_far (p := ⟨gb1126, 1, none⟩) (Kd.R_far (p := ⟨gb1126, 0, none⟩) (Kd.R_far (p := ⟨gb1125, 2, none⟩) (Kd.R_types (Kd.R_types HO1129.out BK1125.out (by decide)) BK1126.out (by decide)) (fun _ hk => hk.1.2) (.slice Ao8 y1127.length co8)) (fun _ hk => hk.2) (.int .i64 a0_0)) (fun _ hk => hk.2) (.int .i64 a0_1)) (fun _ hk => hk.2) (.slice Ao8 y1127.length co8)) (fun _ hk => trivial), qd8_⟩
  · rw [if_neg c2] at H
    exact absurd H (by simp)

/-! ### spec_RowPut: function 30 -/
def spec_RowPut.j0 : Nat → ByteArray → ByteArray → Int → Int → Int → Int → List (S_Item) → Int → Int → List (S_Item) → Option (Int × Int × (List (S_Item)) × Int × Bool)
  | 0, _, _, _, _, _, _, _, _, _, _ => none
  | k + 1, x1, x2, x3, x4, x1207000, x1207001, x1207002, x1214000, x1214001, x1214002 => if x1214002.length < 2513169434916 then ((some (x1214002 ++ [(⟨x1207001, x1, x2, x3, x4⟩ : S_Item)] : List (S_Item))).bind fun y1215 => ((spec_RowOk.f k x1214000 (wrap64 (x1207001 + 1)) y1215).bind fun t1218 => (if t1218 = true then (some (x1214000, wrap64 (x1207001 + 1), y1215, x1207001, true)) else ((spec_l3Copy.f x1207000 x1207001 x1207002).bind fun bt1219 => (some (bt1219.1, bt1219.2.1, bt1219.2.2, 0, false)))))) else (none)
def spec_RowPut.f (k : Nat) (a0_0 : Int) (a0_1 : Int) (l0_2 : List (S_Item)) (a1 : ByteArray) (a2 : ByteArray) (a3 : Int) (a4 : Int) : Option (Int × Int × (List (S_Item)) × Int × Bool) := (spec_l3Copy.f a0_0 a0_1 l0_2).bind fun bt1208 => ((spec_RowOk.f k a0_0 a0_1 l0_2).bind fun t1214 => (if t1214 = true then (spec_RowPut.j0 k a1 a2 a3 a4 a0_0 a0_1 l0_2 bt1208.1 bt1208.2.1 bt1208.2.2) else (some (bt1208.1, bt1208.2.1, bt1208.2.2, 0, false))))
theorem spec_RowPut.mono_l : ∀ k, (∀ y0 y1 y2 y3 y4 y5 y6 y7 y8 y9, LeO (spec_RowPut.j0 k y0 y1 y2 y3 y4 y5 y6 y7 y8 y9) (spec_RowPut.j0 (k + 1) y0 y1 y2 y3 y4 y5 y6 y7 y8 y9))
  | 0 => fun _ _ _ _ _ _ _ _ _ _ r h => by simp [spec_RowPut.j0] at h
  | k + 1 => by
    have ih0 := spec_RowPut.mono_l k
    · intro y0 y1 y2 y3 y4 y5 y6 y7 y8 y9
      unfold spec_RowPut.j0
      exact qdh0_
theorem spec_RowPut.mono : ∀ a0 a1 a2 a3 a4 a5 a6 k, LeO (spec_RowPut.f k a0 a1 a2 a3 a4 a5 a6) (spec_RowPut.f (k + 1) a0 a1 a2 a3 a4 a5 a6) := by
  intro a0 a1 a2 a3 a4 a5 a6 k
  have ih0 := spec_RowPut.mono_l k
  unfold spec_RowPut.f
  exact qdh0_
set_option maxHeartbeats 8000000 in
set_option maxRecDepth 100000 in
theorem spec_RowPut.calls (k : Nat) (a0_0 : Int) (a0_1 : Int) (A0_2 : Option Addr) (c0_2 : Nat) (l0_2 : List (S_Item)) (a1 : ByteArray) (a2 : ByteArray) (a3 : Int) (a4 : Int) (r1 : Int) (r2 : Int) (r3 : List (S_Item)) (r4 : Int) (r5 : Bool) (w : World) (hr0_2 : Kd.C k_Item w A0_2 l0_2.length l0_2) (hc0_2 : l0_2.length ≤ c0_2) (h : spec_RowPut.f k a0_0 a0_1 l0_2 a1 a2 a3 a4 = some (r1, r2, r3, r4, r5)) :
    Calls Try.prog 30 #[.agg #[.int .i64 a0_0, .int .i64 a0_1, .slice A0_2 l0_2.length c0_2], .string a1, .string a2, .int .i64 a3, .int .i64 a4] w fun e w' => ∃ v2_ : Value, e = .returned (.tuple #[.agg #[.int .i64 r1, .int .i64 r2, v2_], .int .i64 r4, .bool r5]) ∧ Kd.R k_Item 69 w' w.heap.size (fun _ => True) v2_ r3 ∧ Below w.heap.size w w' := by
  have hu57 := Try.underlying57
  have hu69 := Try.underlying69
  have HR0_2 := Aside0.mk hr0_2
  have HC0_2 := Aside0.mk hc0_2
  clear hr0_2 hc0_2
  have HB := Aside0.mk (Below.refl w.heap.size w)
  have H : ((spec_l3Copy.f a0_0 a0_1 l0_2).bind fun bt1208 => ((spec_RowOk.f k a0_0 a0_1 l0_2).bind fun t1214 => (if t1214 = true then (spec_RowPut.j0 k a1 a2 a3 a4 a0_0 a0_1 l0_2 bt1208.1 bt1208.2.1 bt1208.2.2) else (some (bt1208.1, bt1208.2.1, bt1208.2.2, 0, false))))) = some (r1, r2, r3, r4, r5) := h
  clear h
  replace H := Option.bind_eq_some_iff.mp H
  obtain ⟨⟨t1208, t1209, t1210⟩, A60, H⟩ := H
  replace H : ((spec_RowOk.f k a0_0 a0_1 l0_2).bind fun t1214 => (if t1214 = true then (spec_RowPut.j0 k a1 a2 a3 a4 a0_0 a0_1 l0_2 t1208 t1209 t1210) else (some (t1208, t1209, t1210, 0, false)))) = some (r1, r2, r3, r4, r5) := H
  have A6 := Aside0.mk A60
  clear A60
  replace H := Option.bind_eq_some_iff.mp H
  obtain ⟨t1214, A70, H⟩ := H
  replace H : (if t1214 = true then (spec_RowPut.j0 k a1 a2 a3 a4 a0_0 a0_1 l0_2 t1208 t1209 t1210) else (some (t1208, t1209, t1210, 0, false))) = some (r1, r2, r3, r4, r5) := H
  have A7 := Aside0.mk A70
  clear A70
  have HC8 := Aside0.mk H
  clear H
  go_enter Try.func30, Try.ntmps30
  go_upto_if 18 with (first | ((with_reducible refine gate_dst (N := 5) rfl ?_); refine box_event ?hg (N := 5) ?hd (cs := #[.int .i64 a0_0, .int .i64 a0_1, .slice A0_2 l0_2.length c0_2]) (t := 57) ?hr ?_; (case hd => rfl); (case hg => rfl); (case hr => first | (go_simp; done) | (go_simp; rfl)); intro gb1206 hg w9 hbox hb; have BK1206 := Aside0.mk (hbox); have GW1206 := Aside0.mk ((by rw [hg]; exact (below_size (qd3_)) : w.heap.size ≤ gb1206)); have GE1206 := Aside0.mk ((by rw [hg]; exact (below_size (qd3_)) : w.heap.size ≤ gb1206)); replace HB := Aside0.mk (below_step (qd3_) hb); clear hb hbox hg) | ((with_reducible refine gate_dst (N := 10) rfl ?_); refine box_event ?hg (N := 10) ?hd (cs := #[.int .i64 0, .int .i64 0, .slice none 0 0]) (t := 57) ?hr ?_; (case hd => rfl); (case hg => rfl); (case hr => first | (go_simp; done) | (go_simp; rfl)); intro gb1207 hg w10 hbox hb; have BK1207 := Aside0.mk (hbox); have GW1207 := Aside0.mk ((by rw [hg]; exact (below_size (qd13_)) : w.heap.size ≤ gb1207)); have GE1207 := Aside0.mk ((by rw [hg]; exact (below_size (qd13_)) : w.heap.size ≤ gb1207)); have NB1206_1207 := Aside0.mk ((by rw [hg]; exact Nat.ne_of_lt (blk_lt (g := gb1206) (o := .cells #[.int .i64 a0_0, .int .i64 a0_1, .slice A0_2 l0_2.length c0_2] 57 (0, 0)) (bq_ BK1206.out)) : gb1206 ≠ gb1207)); have NB1207_1206 := Aside0.mk ((by rw [hg]; exact Nat.ne_of_gt (blk_lt (g := gb1206) (o := .cells #[.int .i64 a0_0, .int .i64 a0_1, .slice A0_2 l0_2.length c0_2] 57 (0, 0)) (bq_ BK1206.out)) : gb1207 ≠ gb1206)); replace BK1206 := Aside0.mk (blk_below (g := gb1206) (o := .cells #[.int .i64 a0_0, .int .i64 a0_1, .slice A0_2 l0_2.length c0_2] 57 (0, 0)) (bq_ BK1206.out) hb); replace HB := Aside0.mk (below_step (qd13_) hb); clear hb hbox hg; have hnb11 := NB1206_1207.out; have hnc11 := NB1207_1206.out; have hcz12_0 : w10.cell? ⟨gb1206, 0, none⟩ = some (.int .i64 a0_0) := bc_ BK1206 0; have hcz12_1 : w10.cell? ⟨gb1206, 1, none⟩ = some (.int .i64 a0_1) := bc_ BK1206 1; have hcz12_2 : w10.cell? ⟨gb1206, 2, none⟩ = some (.slice A0_2 l0_2.length c0_2) := bc_ BK1206 2; have hfz12_0 := blk_frozen BK1206.out 0; have hfz12_1 := blk_frozen BK1206.out 1; have hfz12_2 := blk_frozen BK1206.out 2) | ((with_reducible refine gate_callee (f := 95) rfl ?_); refine goesL_ (some 15) rfl rfl Try.func95 (by kernel_rfl) rfl #[.agg #[.int .i64 a0_0, .int .i64 a0_1, .slice A0_2 l0_2.length c0_2]] rfl (qd2_) ?_; (with_reducible refine (spec_l3Copy.calls a0_0 a0_1 _ _ l0_2 t1208 t1209 t1210 _ ?side1 ?side2 A6.out).mono ?_); (case side1 => repeat (first | exact (Kd.C_below HR0_2.out HB.out) | (with_reducible refine Kd.C_alloc ?_ _) | (with_reducible refine Kd.C_drewN ?_ _) | (with_reducible refine Kd.C_drew ?_))); (case side2 => exact HC0_2.out); rintro e w13 ⟨v1211, rfl, ho0, hb⟩; refine ⟨_, rfl, ?_⟩; have HO1212 := Aside0.mk (Kd.R_lower ho0 (below_size (qd5_))); replace BK1206 := Aside0.mk (blk_below (g := gb1206) (o := .cells #[.int .i64 a0_0, .int .i64 a0_1, .slice A0_2 l0_2.length c0_2] 57 (0, 0)) (bq_ BK1206.out) hb); replace BK1207 := Aside0.mk (blk_below (g := gb1207) (o := .cells #[.int .i64 0, .int .i64 0, .slice none 0 0] 57 (0, 0)) (bq_ BK1207.out) hb); replace HB := Aside0.mk (below_step (qd5_) hb); (try clear hb); (try clear hb2); (try clear hk); (try clear hi); (try clear ho0)) | ((with_reducible refine gate_dst (N := 13) rfl ?_); refine box_event ?hg (N := 13) ?hd (cs := #[.int .i64 0, .int .i64 0, .slice none 0 0]) (t := 57) ?hr ?_; (case hd => rfl); (case hg => rfl); (case hr => first | (go_simp; done) | (go_simp; rfl)); intro gb1213 hg w14 hbox hb; have BK1213 := Aside0.mk (hbox); have GW1213 := Aside0.mk ((by rw [hg]; exact (below_size (qd5_)) : w.heap.size ≤ gb1213)); have GE1213 := Aside0.mk ((by rw [hg]; exact (below_size (qd5_)) : w.heap.size ≤ gb1213)); have NB1206_1213 := Aside0.mk ((by rw [hg]; exact Nat.ne_of_lt (blk_lt (g := gb1206) (o := .cells #[.int .i64 a0_0, .int .i64 a0_1, .slice A0_2 l0_2.length c0_2] 57 (0, 0)) (bq_ BK1206.out)) : gb1206 ≠ gb1213)); have NB1213_1206 := Aside0.mk ((by rw [hg]; exact Nat.ne_of_gt (blk_lt (g := gb1206) (o := .cells #[.int .i64 a0_0, .int .i64 a0_1, .slice A0_2 l0_2.length c0_2] 57 (0, 0)) (bq_ BK1206.out)) : gb1213 ≠ gb1206)); have NB1207_1213 := Aside0.mk ((by rw [hg]; exact Nat.ne_of_lt (blk_lt (g := gb1207) (o := .cells #[.int .i64 0, .int .i64 0, .slice none 0 0] 57 (0, 0)) (bq_ BK1207.out)) : gb1207 ≠ gb1213)); have NB1213_1207 := Aside0.mk ((by rw [hg]; exact Nat.ne_of_gt (blk_lt (g := gb1207) (o := .cells #[.int .i64 0, .int .i64 0, .slice none 0 0] 57 (0, 0)) (bq_ BK1207.out)) : gb1213 ≠ gb1207)); replace HO1212 := Aside0.mk (Kd.R_below (by (with_reducible repeat (first | apply Kd.R_alloc | apply Kd.R_drewN | apply Kd.R_drew)); exact HO1212.out) hb); replace BK1206 := Aside0.mk (blk_below (g := gb1206) (o := .cells #[.int .i64 a0_0, .int .i64 a0_1, .slice A0_2 l0_2.length c0_2] 57 (0, 0)) (bq_ BK1206.out) hb); replace BK1207 := Aside0.mk (blk_below (g := gb1207) (o := .cells #[.int .i64 0, .int .i64 0, .slice none 0 0] 57 (0, 0)) (bq_ BK1207.out) hb); replace HB := Aside0.mk (below_step (qd5_) hb); clear hb hbox hg; have hnb15 := NB1213_1206.out; have hnc15 := NB1206_1213.out; have hnb16 := NB1213_1207.out; have hnc16 := NB1207_1213.out; have hcz17_0 : w14.cell? ⟨gb1213, 0, none⟩ = some (.int .i64 0) := bc_ BK1213 0; have hcz17_1 : w14.cell? ⟨gb1213, 1, none⟩ = some (.int .i64 0) := bc_ BK1213 1; have hcz17_2 : w14.cell? ⟨gb1213, 2, none⟩ = some (.slice none 0 0) := bc_ BK1213 2; have hfz17_0 := blk_frozen BK1213.out 0; have hfz17_1 := blk_frozen BK1213.out 1; have hfz17_2 := blk_frozen BK1213.out 2; obtain ⟨Ao18, co18, eo18⟩ := Kd.R_slice HO1212.out; subst eo18; have hcz19_0 : w14.cell? ⟨gb1206, 0, none⟩ = some (.int .i64 a0_0) := bc_ BK1206 0; have hcz19_1 : w14.cell? ⟨gb1206, 1, none⟩ = some (.int .i64 a0_1) := bc_ BK1206 1; have hcz19_2 : w14.cell? ⟨gb1206, 2, none⟩ = some (.slice A0_2 l0_2.length c0_2) := bc_ BK1206 2; have hfz19_0 := blk_frozen BK1206.out 0; have hfz19_1 := blk_frozen BK1206.out 1; have hfz19_2 := blk_frozen BK1206.out 2) | ((with_reducible refine gate_callee (f := 45) rfl ?_); refine goesL_ (some 17) rfl rfl Try.func45 (by kernel_rfl) rfl #[.agg #[.int .i64 a0_0, .int .i64 a0_1, .slice A0_2 l0_2.length c0_2]] rfl (qd2_) ?_; (with_reducible refine (spec_RowOk.calls k a0_0 a0_1 _ _ l0_2 t1214 _ ?side1 ?side2 A7.out).mono ?_); (case side1 => exact Kd.C_below HR0_2.out (qd0_)); (case side2 => exact HC0_2.out); rintro e w20 ⟨rfl, hb⟩; refine ⟨_, rfl, ?_⟩; replace HO1212 := Aside0.mk (Kd.R_below (by (with_reducible repeat (first | apply Kd.R_alloc | apply Kd.R_drewN | apply Kd.R_drew)); exact (Kd.R_mono (Kd.R_far (p := ⟨gb1213, 2, none⟩) (Kd.R_far (p := ⟨gb1213, 1, none⟩) (Kd.R_far (p := ⟨gb1213, 0, none⟩) (Kd.R_types HO1212.out BK1213.out (by decide)) (fun _ hk => hk.2) (.int .i64 t1208)) (fun _ hk => hk.2) (.int .i64 t1209)) (fun _ hk => hk.2) (.slice Ao18 t1210.length co18)) (fun _ h_ => h_.1))) hb); replace BK1206 := Aside0.mk (blk_below (g := gb1206) (o := .cells #[.int .i64 a0_0, .int .i64 a0_1, .slice A0_2 l0_2.length c0_2] 57 (0, 0)) (bf_ NB1206_1213.out BK1206.out) hb); replace BK1207 := Aside0.mk (blk_below (g := gb1207) (o := .cells #[.int .i64 0, .int .i64 0, .slice none 0 0] 57 (0, 0)) (bf_ NB1207_1213.out BK1207.out) hb); replace BK1213 := Aside0.mk (blk_below (g := gb1213) (o := .cells #[.int .i64 t1208, .int .i64 t1209, .slice Ao18 t1210.length co18] 57 (0, 0)) (bp_ BK1213.out) hb); replace HB := Aside0.mk (below_step (qd0_) hb); (try clear hb); (try clear hb2); (try clear hk); (try clear hi)))
  (try simp only [Act.put, List.setIfInBounds_toArray, List.set_cons_zero, List.set_cons_succ])
  go_cut [] (fun wc => ∃ (kq : Nat) (x1208000_7 : Int) (x1208001_7 : Int), Aside0 (spec_RowPut.j0 kq a1 a2 a3 a4 a0_0 a0_1 l0_2 t1208 t1209 t1210 = some (r1, r2, r3, r4, r5)) ∧ Aside0 (kq ≤ k) ∧ Aside0 (Kd.R k_Item 69 wc w.heap.size (fun _ => True) (.slice Ao18 t1210.length co18) t1210) ∧ Aside0 (wc.heap[gb1206]? = some (.cells #[.int .i64 a0_0, .int .i64 a0_1, (.slice A0_2 l0_2.length c0_2)] 57 (0, 0))) ∧ Aside0 (wc.heap[gb1207]? = some (.cells #[.int .i64 x1208000_7, .int .i64 x1208001_7, (.slice none 0 0)] 57 (0, 0))) ∧ Aside0 (wc.heap[gb1213]? = some (.cells #[.int .i64 t1208, .int .i64 t1209, (.slice Ao18 t1210.length co18)] 57 (0, 0))) ∧ Aside0 (Below w.heap.size w wc))
  case first =>
    have H := HC8.out
    clear HC8
    by_cases c21 : t1214 = true
    · subst c21
      have H1 : (spec_RowPut.j0 k a1 a2 a3 a4 a0_0 a0_1 l0_2 t1208 t1209 t1210) = some (r1, r2, r3, r4, r5) := by rw [if_pos rfl] at H; exact H
      clear H
      have H := H1
      clear H1
      have H' := Aside0.mk H
      clear H
      go_wp2
      go_meet
      case rel => exact ⟨_, (0), (0), H', ⟨qd17_⟩, ⟨by (with_reducible repeat (first | apply Kd.R_alloc | apply Kd.R_drewN | apply Kd.R_drew)); exact HO1212.out⟩, ⟨bq_ BK1206.out⟩, ⟨bq_ BK1207.out⟩, ⟨bq_ BK1213.out⟩, ⟨qd0_⟩⟩
    · replace c21 := Bool.eq_false_iff.mpr c21
      subst c21
      have H1 : (some (t1208, t1209, t1210, 0, false)) = some (r1, r2, r3, r4, r5) := by rw [if_neg (show ¬ (false = true) by decide)] at H; exact H
      clear H
      have H := H1
      clear H1
      simp only [Option.some.injEq, Prod.mk.injEq] at H
      obtain ⟨rfl, rfl, rfl, rfl, rfl⟩ := H
      have hnb22 := NB1213_1206.out
      have hnc22 := NB1206_1213.out
      have hnb23 := NB1213_1207.out
      have hnc23 := NB1207_1213.out
      have hcz24_0 : w20.cell? ⟨gb1213, 0, none⟩ = some (.int .i64 t1208) := bc_ BK1213 0
      have hcz24_1 : w20.cell? ⟨gb1213, 1, none⟩ = some (.int .i64 t1209) := bc_ BK1213 1
      have hcz24_2 : w20.cell? ⟨gb1213, 2, none⟩ = some (.slice Ao18 t1210.length co18) := bc_ BK1213 2
      have hfz24_0 := blk_frozen BK1213.out 0
      have hfz24_1 := blk_frozen BK1213.out 1
      have hfz24_2 := blk_frozen BK1213.out 2
      have hnb25 := NB1207_1206.out
      have hnc25 := NB1206_1207.out
      have hcz26_0 : w20.cell? ⟨gb1207, 0, none⟩ = some (.int .i64 0) := bc_ BK1207 0
      have hcz26_1 : w20.cell? ⟨gb1207, 1, none⟩ = some (.int .i64 0) := bc_ BK1207 1
      have hcz26_2 : w20.cell? ⟨gb1207, 2, none⟩ = some (.slice none 0 0) := bc_ BK1207 2
      have hfz26_0 := blk_frozen BK1207.out 0
      have hfz26_1 := blk_frozen BK1207.out 1
      have hfz26_2 := blk_frozen BK1207.out 2
      go_wp2
      refine bodyPost_ret (results_ctt rfl _ _ gb1207 57 #[.int .i64 t1208, .int .i64 t1209, .slice Ao18 t1210.length co18] (0, 0) _ rfl (bp_ BK1207.out) Try.underlying57 rfl (by kernel_rfl)) rfl ?_
      exact ⟨_, qd6_, by (with_reducible repeat (first | apply Kd.R_alloc | apply Kd.R_drewN | apply Kd.R_drew)); exact Kd.R_mono (Kd.R_far (p := ⟨gb1207, 2, none⟩) (Kd.R_far (p := ⟨gb1207, 1, none⟩) (Kd.R_far (p := ⟨gb1207, 0, none⟩) (Kd.R_types HO1212.out BK1207.out (by decide)) (fun _ hk => hk.2) (.int .i64 t1208)) (fun _ hk => hk.2) (.int .i64 t1209)) (fun _ hk => hk.2) (.slice Ao18 t1210.length co18)) (fun _ hk => trivial), qd0_⟩
  case rest =>
    clear HC8
    try clear c1
    try clear c2
    try clear p2
    try clear c3
    try clear c4
    try clear c9
    try clear c11
    try clear c15
    try clear c16
    try clear c21
    try clear c22
    try clear c23
    try clear c25
    try clear hcz12_0
    try clear hcz12_1
    try clear hcz12_2
    try clear hcz17_0
    try clear hcz17_1
    try clear hcz17_2
    try clear hcz19_0
    try clear hcz19_1
    try clear hcz19_2
    try clear hcz24_0
    try clear hcz24_1
    try clear hcz24_2
    try clear hcz26_0
    try clear hcz26_1
    try clear hcz26_2
    try clear hfz12_0
    try clear hfz12_1
    try clear hfz12_2
    try clear hfz17_0
    try clear hfz17_1
    try clear hfz17_2
    try clear hfz19_0
    try clear hfz19_1
    try clear hfz19_2
    try clear hfz24_0
    try clear hfz24_1
    try clear hfz24_2
    try clear hfz26_0
    try clear hfz26_1
    try clear hfz26_2
    obtain ⟨kq, x1208000_7, x1208001_7, HA, HJ7, HO_1214002, BK1206, BK1207, BK1213, HB⟩ := hcut
    cases kq with
    | zero => exact absurd HA.out (by simp [spec_RowPut.j0])
    | succ kj7 =>
      have H := HA.out
      clear HA
      simp only [spec_RowPut.j0] at H
      by_cases c27 : t1210.length < 2513169434916
      · rw [if_pos c27] at H
        have LMc27 := Aside0.mk c27
        clear c27
        obtain ⟨y1215, hy1215⟩ : ∃ y_ : List (S_Item), y_ = (t1210 ++ [(⟨a0_1, a1, a2, a3, a4⟩ : S_Item)]) := ⟨_, rfl⟩
        replace H : ((spec_RowOk.f kj7 t1208 (wrap64 (a0_1 + 1)) y1215).bind fun t1218 => (if t1218 = true then (some (t1208, wrap64 (a0_1 + 1), y1215, a0_1, true)) else ((spec_l3Copy.f a0_0 a0_1 l0_2).bind fun bt1219 => (some (bt1219.1, bt1219.2.1, bt1219.2.2, 0, false))))) = some (r1, r2, r3, r4, r5) := by first | (rw [hy1215]; with_reducible exact H) | (have H2_ := (Option.bind_some _ _).symm.trans H; rw [hy1215]; with_reducible exact H2_) | (have H2_ := (Option.bind_some _ _).symm.trans H; with_reducible exact H2_) | with_reducible exact H | (rw [hy1215]; exact H) | exact H
        have Ny1215 := Aside0.mk hy1215
        clear hy1215
        replace H := Option.bind_eq_some_iff.mp H
        obtain ⟨t1218, A280, H⟩ := H
        replace H : (if t1218 = true then (some (t1208, wrap64 (a0_1 + 1), y1215, a0_1, true)) else ((spec_l3Copy.f a0_0 a0_1 l0_2).bind fun bt1219 => (some (bt1219.1, bt1219.2.1, bt1219.2.2, 0, false)))) = some (r1, r2, r3, r4, r5) := H
        have A28 := Aside0.mk A280
        clear A280
        by_cases c29 : t1218 = true
        · subst c29
          have H1 : (some (t1208, wrap64 (a0_1 + 1), y1215, a0_1, true)) = some (r1, r2, r3, r4, r5) := by rw [if_pos rfl] at H; exact H
          clear H
          have H := H1
          clear H1
          simp only [Option.some.injEq, Prod.mk.injEq] at H
          obtain ⟨rfl, rfl, rfl, rfl, rfl⟩ := H
          have hnb30 := NB1213_1206.out
          have hnc30 := NB1206_1213.out
          have hnb31 := NB1213_1207.out
          have hnc31 := NB1207_1213.out
          have hcz32_0 : wc.cell? ⟨gb1213, 0, none⟩ = some (.int .i64 t1208) := bc_ BK1213 0
          have hcz32_1 : wc.cell? ⟨gb1213, 1, none⟩ = some (.int .i64 t1209) := bc_ BK1213 1
          have hcz32_2 : wc.cell? ⟨gb1213, 2, none⟩ = some (.slice Ao18 t1210.length co18) := bc_ BK1213 2
          have hfz32_0 := blk_frozen BK1213.out 0
          have hfz32_1 := blk_frozen BK1213.out 1
          have hfz32_2 := blk_frozen BK1213.out 2
          have hnb33 := NB1206_1207.out
          have hnc33 := NB1207_1206.out
          have hcz34_0 : wc.cell? ⟨gb1206, 0, none⟩ = some (.int .i64 a0_0) := bc_ BK1206 0
          have hcz34_1 : wc.cell? ⟨gb1206, 1, none⟩ = some (.int .i64 a0_1) := bc_ BK1206 1
          have hcz34_2 : wc.cell? ⟨gb1206, 2, none⟩ = some (.slice A0_2 l0_2.length c0_2) := bc_ BK1206 2
          have hfz34_0 := blk_frozen BK1206.out 0
          have hfz34_1 := blk_frozen BK1206.out 1
          have hfz34_2 := blk_frozen BK1206.out 2
          try go_wp2_with (first | ((with_reducible refine gate_builtin (b := .append) (xs := #[.tmp 21, .tmp 29]) rfl ?_); at_builtin; refine Kd.R_append k_Item (w0 := w) w.heap.size rfl (.tmp 21) (.tmp 29) 55 69 (.agg #[(.int .i64 0), (.string ⟨#[]⟩), (.string ⟨#[]⟩), (.int .i64 0), (.int .i64 0)]) 56 rfl Try.underlying55 info69 rfl (by decide) (by omega) (.slice Ao18 t1210.length co18) t1210 (⟨a0_1, a1, a2, a3, a4⟩ : S_Item) [.int .i64 a0_1, .string a1, .string a2, .int .i64 a3, .int .i64 a4] (fun _ => True) (fun _ => False) rfl rfl ?aP (fun _ hk => hk.elim) ?aF ?aO ?aB ?aS ?aL ?_; (case aP => exact k_Item_mkM _ _ _ (⟨a0_1, a1, a2, a3, a4⟩ : S_Item)); (case aB => exact (qd0_)); (case aF => exact (fun _ _ => trivial)); (case aO => exact (by (with_reducible repeat (first | apply Kd.R_alloc | apply Kd.R_drewN | apply Kd.R_drew)); exact HO_1214002.out)); (case aS => exact (below_size (qd0_))); (case aL => have := LMc27.out; omega); intro v1216 w35 ho hb hg hat; rw [← Ny1215.out] at ho; have HO1217 := Aside0.mk (ho); replace BK1206 := Aside0.mk (blk_grown (g := gb1206) (o := .cells #[.int .i64 a0_0, .int .i64 a0_1, .slice A0_2 l0_2.length c0_2] 57 (0, 0)) (bq_ BK1206.out) hg (Kd.R_ne HO_1214002.out BK1206.out (by decide))); replace BK1207 := Aside0.mk (blk_grown (g := gb1207) (o := .cells #[.int .i64 x1208000_7, .int .i64 x1208001_7, .slice none 0 0] 57 (0, 0)) (bq_ BK1207.out) hg (Kd.R_ne HO_1214002.out BK1207.out (by decide))); replace BK1213 := Aside0.mk (blk_grown (g := gb1213) (o := .cells #[.int .i64 t1208, .int .i64 t1209, .slice Ao18 t1210.length co18] 57 (0, 0)) (bq_ BK1213.out) hg (Kd.R_ne HO_1214002.out BK1213.out (by decide))); replace HB := Aside0.mk (hb); clear HO_1214002; clear ho hb hg hat; obtain ⟨Ao36, co36, eo36⟩ := Kd.R_slice HO1217.out; subst eo36; have hcz37_0 : w35.cell? ⟨gb1213, 0, none⟩ = some (.int .i64 t1208) := bc_ BK1213 0; have hcz37_1 : w35.cell? ⟨gb1213, 1, none⟩ = some (.int .i64 t1209) := bc_ BK1213 1; have hcz37_2 : w35.cell? ⟨gb1213, 2, none⟩ = some (.slice Ao18 t1210.length co18) := bc_ BK1213 2; have hfz37_0 := blk_frozen BK1213.out 0; have hfz37_1 := blk_frozen BK1213.out 1; have hfz37_2 := blk_frozen BK1213.out 2; have hcz38_0 : w35.cell? ⟨gb1206, 0, none⟩ = some (.int .i64 a0_0) := bc_ BK1206 0; have hcz38_1 : w35.cell? ⟨gb1206, 1, none⟩ = some (.int .i64 a0_1) := bc_ BK1206 1; have hcz38_2 : w35.cell? ⟨gb1206, 2, none⟩ = some (.slice A0_2 l0_2.length c0_2) := bc_ BK1206 2; have hfz38_0 := blk_frozen BK1206.out 0; have hfz38_1 := blk_frozen BK1206.out 1; have hfz38_2 := blk_frozen BK1206.out 2) | ((with_reducible refine gate_callee (f := 45) rfl ?_); refine goesL_ (some 37) rfl rfl Try.func45 (by kernel_rfl) rfl #[.agg #[.int .i64 t1208, .int .i64 (wrap64 (a0_1 + 1)), .slice Ao36 y1215.length co36]] rfl (qd2_) ?_; (with_reducible refine (spec_RowOk.calls kj7 t1208 (wrap64 (a0_1 + 1)) _ _ y1215 true _ ?side1 ?side2 A28.out).mono ?_); (case side1 => refine (Kd.R_reads' (e := 69) (base := w.heap.size) (ok := fun k_ => True) (n := y1215.length) (c := co36) ?_).2.2; exact (qd11_)); (case side2 => exact (Kd.R_reads' HO1217.out).2.1); rintro e w39 ⟨rfl, hb⟩; refine ⟨_, rfl, ?_⟩; replace HO1217 := Aside0.mk (Kd.R_below (qd11_) hb); replace BK1206 := Aside0.mk (blk_below (g := gb1206) (o := .cells #[.int .i64 a0_0, .int .i64 a0_1, .slice A0_2 l0_2.length c0_2] 57 (0, 0)) (bf_ NB1206_1213.out BK1206.out) hb); replace BK1207 := Aside0.mk (blk_below (g := gb1207) (o := .cells #[.int .i64 x1208000_7, .int .i64 x1208001_7, .slice none 0 0] 57 (0, 0)) (bf_ NB1207_1213.out BK1207.out) hb); replace BK1213 := Aside0.mk (blk_below (g := gb1213) (o := .cells #[.int .i64 t1208, .int .i64 (wrap64 (a0_1 + 1)), .slice Ao36 y1215.length co36] 57 (0, 0)) (bp_ BK1213.out) hb); replace HB := Aside0.mk (below_step (qd0_) hb); (try clear hb); (try clear hb2); (try clear hk); (try clear hi)))
          replace HO1217 := Aside0.mk (Kd.R_drew HO1217.out)
          replace BK1206 := Aside0.mk (blk_drew BK1206.out)
          replace BK1207 := Aside0.mk (blk_drew BK1207.out)
          replace BK1213 := Aside0.mk (blk_drew BK1213.out)
          replace HB := Aside0.mk (below_drew1 HB.out)
          refine start_ (n := 6) (S := fun w' => w'.cell? ⟨gb1213, 0, none⟩ = some (.int .i64 t1208) ∧ w'.cell? ⟨gb1213, 1, none⟩ = some (.int .i64 (wrap64 (a0_1 + 1))) ∧ w'.cell? ⟨gb1213, 2, none⟩ = some (.slice Ao36 y1215.length co36) ∧ w'.cell? ⟨gb1206, 0, none⟩ = some (.int .i64 a0_0) ∧ w'.cell? ⟨gb1206, 1, none⟩ = some (.int .i64 a0_1) ∧ w'.cell? ⟨gb1206, 2, none⟩ = some (.slice A0_2 l0_2.length c0_2)) (ds := []) #[false, false, false, false, false, false] (by kernel_rfl) rfl rfl ⟨bc_ BK1213 0, bc_ BK1213 1, bc_ BK1213 2, bc_ BK1206 0, bc_ BK1206 1, bc_ BK1206 2⟩ (fun hHeld => ?_)
          generalize w39.drew = w40 at HO1217 BK1206 BK1207 BK1213 HB hHeld ⊢
          refine pure_ (i := 1) (N := some 42) (v := ?_) (a' := ?_) #[false, true, false, false, false, false] rfl rfl (by kernel_rfl) (fun _ _ _ h => h) (Or.inl ⟨by rfl, ?_⟩) ?_ ?_
          rotate_left
          · intro w'
            go_simp
            with_reducible rfl
          rotate_left
          · simp only [Act.put, List.setIfInBounds_toArray, List.set_cons_zero, List.set_cons_succ, i64_w, i32_w]
            rfl
          refine take_ (i := 0) (N := some 41) (v := ?_) (a' := ?_) #[true, true, false, false, false, false] rfl rfl (by kernel_rfl) (fun _ _ _ h => h) (Or.inl ⟨by rfl, ?_⟩) hHeld ?_ ?_
          rotate_left
          · rintro w' ⟨s0, s1, s2, s3, s4, s5⟩
            go_simp
            with_reducible rfl
          rotate_left
          · simp only [Act.put, List.setIfInBounds_toArray, List.set_cons_zero, List.set_cons_succ, i64_w, i32_w]
            rfl
          refine take_ (i := 2) (N := some 43) (v := ?_) (a' := ?_) #[true, true, true, false, false, false] rfl rfl (by kernel_rfl) (fun _ _ _ h => h) (Or.inl ⟨by rfl, ?_⟩) hHeld ?_ ?_
          rotate_left
          · rintro w' ⟨s0, s1, s2, s3, s4, s5⟩
            go_simp
            with_reducible rfl
          rotate_left
          · simp only [Act.put, List.setIfInBounds_toArray, List.set_cons_zero, List.set_cons_succ, i64_w, i32_w]
            rfl
          refine one_ (i := 3) (N := none) #[true, true, true, true, false, false] rfl rfl (by kernel_rfl) (by decide) (fun K hK => ?_)
          have hs41 : w40.cell? ⟨gb1207, 0, none⟩ = some (.int .i64 x1208000_7) := bc_ BK1207 0
          have hfs41 := blk_frozen BK1207.out 0
          have hns41_0 := NB1206_1207.out
          have hns41_2 := NB1213_1207.out
          have hms41_0 := NB1207_1206.out
          have hms41_2 := NB1207_1213.out
          have hs42 : w40.cell? ⟨gb1207, 1, none⟩ = some (.int .i64 x1208001_7) := bc_ BK1207 1
          have hfs42 := blk_frozen BK1207.out 1
          have hns42_0 := NB1206_1207.out
          have hns42_2 := NB1213_1207.out
          have hms42_0 := NB1207_1206.out
          have hms42_2 := NB1207_1213.out
          have hs43 : w40.cell? ⟨gb1207, 2, none⟩ = some (.slice none 0 0) := bc_ BK1207 2
          have hfs43 := blk_frozen BK1207.out 2
          have hns43_0 := NB1206_1207.out
          have hns43_2 := NB1213_1207.out
          have hms43_0 := NB1207_1206.out
          have hms43_2 := NB1207_1213.out
          refine skip_ (w1 := ?_) (by rfl) rfl ?_ ?_
          rotate_left
          · go_simp
            rfl
          refine hK.out _ _ ⟨(cfs_ NB1213_1207.out (hHeld.1)), (cfs_ NB1213_1207.out (hHeld.2.1)), (cfs_ NB1213_1207.out (hHeld.2.2.1)), (cfs_ NB1206_1207.out (hHeld.2.2.2.1)), (cfs_ NB1206_1207.out (hHeld.2.2.2.2.1)), (cfs_ NB1206_1207.out (hHeld.2.2.2.2.2))⟩ (fun hHeld => ?_)
          clear hK K
          refine pure_ (i := 4) (N := some 11) (v := ?_) (a' := ?_) #[true, true, true, true, true, false] rfl rfl (by kernel_rfl) (fun _ _ _ h => h) (Or.inl ⟨by rfl, ?_⟩) ?_ ?_
          rotate_left
          · intro w'
            go_simp
            with_reducible rfl
          rotate_left
          · simp only [Act.put, List.setIfInBounds_toArray, List.set_cons_zero, List.set_cons_succ, i64_w, i32_w]
            rfl
          refine pure_ (i := 5) (N := some 12) (v := ?_) (a' := ?_) #[true, true, true, true, true, true] rfl rfl (by kernel_rfl) (fun _ _ _ h => h) (Or.inl ⟨by rfl, ?_⟩) ?_ ?_
          rotate_left
          · intro w'
            go_simp
            with_reducible rfl
          rotate_left
          · simp only [Act.put, List.setIfInBounds_toArray, List.set_cons_zero, List.set_cons_succ, i64_w, i32_w]
            rfl
          refine done_ (by kernel_rfl) ?_
          try go_wp2
          refine bodyPost_ret (results_ctt rfl _ _ gb1207 57 #[.int .i64 t1208, .int .i64 (wrap64 (a0_1 + 1)), .slice Ao36 y1215.length co36] (0, 0) _ rfl (bp_ BK1207.out) Try.underlying57 rfl (by kernel_rfl)) rfl ?_
          exact ⟨_, qd6_, by (with_reducible repeat (first | apply Kd.R_alloc | apply Kd.R_drewN | apply Kd.R_drew)); exact Kd.R_mono (Kd.R_far (p := ⟨gb1207, 2, none⟩) (Kd.R_far (p := ⟨gb1207, 1, none⟩) (Kd.R_far (p := ⟨gb1207, 0, none⟩) (Kd.R_types HO1217.out BK1207.out (by decide)) (fun _ hk => hk.2) (.int .i64 t1208)) (fun _ hk => hk.2) (.int .i64 (wrap64 (a0_1 + 1)))) (fun _ hk => hk.2) (.slice Ao36 y1215.length co36)) (fun _ hk => trivial), qd0_⟩
        · replace c29 := Bool.eq_false_iff.mpr c29
          subst c29
          have H1 : ((spec_l3Copy.f a0_0 a0_1 l0_2).bind fun bt1219 => (some (bt1219.1, bt1219.2.1, bt1219.2.2, 0, false))) = some (r1, r2, r3, r4, r5) := by rw [if_neg (show ¬ (false = true) by decide)] at H; exact H
          clear H
          have H := H1
          clear H1
          replace H := Option.bind_eq_some_iff.mp H
          obtain ⟨⟨t1219, t1220, t1221⟩, A440, H⟩ := H
          replace H : (some (t1219, t1220, t1221, 0, false)) = some (r1, r2, r3, r4, r5) := H
          have A44 := Aside0.mk A440
          clear A440
          simp only [Option.some.injEq, Prod.mk.injEq] at H
          obtain ⟨rfl, rfl, rfl, rfl, rfl⟩ := H
          have hnb45 := NB1213_1206.out
          have hnc45 := NB1206_1213.out
          have hnb46 := NB1213_1207.out
          have hnc46 := NB1207_1213.out
          have hcz47_0 : wc.cell? ⟨gb1213, 0, none⟩ = some (.int .i64 t1208) := bc_ BK1213 0
          have hcz47_1 : wc.cell? ⟨gb1213, 1, none⟩ = some (.int .i64 t1209) := bc_ BK1213 1
          have hcz47_2 : wc.cell? ⟨gb1213, 2, none⟩ = some (.slice Ao18 t1210.length co18) := bc_ BK1213 2
          have hfz47_0 := blk_frozen BK1213.out 0
          have hfz47_1 := blk_frozen BK1213.out 1
          have hfz47_2 := blk_frozen BK1213.out 2
          have hnb48 := NB1206_1207.out
          have hnc48 := NB1207_1206.out
          have hcz49_0 : wc.cell? ⟨gb1206, 0, none⟩ = some (.int .i64 a0_0) := bc_ BK1206 0
          have hcz49_1 : wc.cell? ⟨gb1206, 1, none⟩ = some (.int .i64 a0_1) := bc_ BK1206 1
          have hcz49_2 : wc.cell? ⟨gb1206, 2, none⟩ = some (.slice A0_2 l0_2.length c0_2) := bc_ BK1206 2
          have hfz49_0 := blk_frozen BK1206.out 0
          have hfz49_1 := blk_frozen BK1206.out 1
          have hfz49_2 := blk_frozen BK1206.out 2
          go_wp2_with (first | ((with_reducible refine gate_builtin (b := .append) (xs := #[.tmp 21, .tmp 29]) rfl ?_); at_builtin; refine Kd.R_append k_Item (w0 := w) w.heap.size rfl (.tmp 21) (.tmp 29) 55 69 (.agg #[(.int .i64 0), (.string ⟨#[]⟩), (.string ⟨#[]⟩), (.int .i64 0), (.int .i64 0)]) 56 rfl Try.underlying55 info69 rfl (by decide) (by omega) (.slice Ao18 t1210.length co18) t1210 (⟨a0_1, a1, a2, a3, a4⟩ : S_Item) [.int .i64 a0_1, .string a1, .string a2, .int .i64 a3, .int .i64 a4] (fun _ => True) (fun _ => False) rfl rfl ?aP (fun _ hk => hk.elim) ?aF ?aO ?aB ?aS ?aL ?_; (case aP => exact k_Item_mkM _ _ _ (⟨a0_1, a1, a2, a3, a4⟩ : S_Item)); (case aB => exact (qd0_)); (case aF => exact (fun _ _ => trivial)); (case aO => exact (by (with_reducible repeat (first | apply Kd.R_alloc | apply Kd.R_drewN | apply Kd.R_drew)); exact HO_1214002.out)); (case aS => exact (below_size (qd0_))); (case aL => have := LMc27.out; omega); intro v1216 w50 ho hb hg hat; rw [← Ny1215.out] at ho; have HO1217 := Aside0.mk (ho); replace BK1206 := Aside0.mk (blk_grown (g := gb1206) (o := .cells #[.int .i64 a0_0, .int .i64 a0_1, .slice A0_2 l0_2.length c0_2] 57 (0, 0)) (bq_ BK1206.out) hg (Kd.R_ne HO_1214002.out BK1206.out (by decide))); replace BK1207 := Aside0.mk (blk_grown (g := gb1207) (o := .cells #[.int .i64 x1208000_7, .int .i64 x1208001_7, .slice none 0 0] 57 (0, 0)) (bq_ BK1207.out) hg (Kd.R_ne HO_1214002.out BK1207.out (by decide))); replace BK1213 := Aside0.mk (blk_grown (g := gb1213) (o := .cells #[.int .i64 t1208, .int .i64 t1209, .slice Ao18 t1210.length co18] 57 (0, 0)) (bq_ BK1213.out) hg (Kd.R_ne HO_1214002.out BK1213.out (by decide))); replace HB := Aside0.mk (hb); clear HO_1214002; clear ho hb hg hat; obtain ⟨Ao51, co51, eo51⟩ := Kd.R_slice HO1217.out; subst eo51; have hcz52_0 : w50.cell? ⟨gb1213, 0, none⟩ = some (.int .i64 t1208) := bc_ BK1213 0; have hcz52_1 : w50.cell? ⟨gb1213, 1, none⟩ = some (.int .i64 t1209) := bc_ BK1213 1; have hcz52_2 : w50.cell? ⟨gb1213, 2, none⟩ = some (.slice Ao18 t1210.length co18) := bc_ BK1213 2; have hfz52_0 := blk_frozen BK1213.out 0; have hfz52_1 := blk_frozen BK1213.out 1; have hfz52_2 := blk_frozen BK1213.out 2; have hcz53_0 : w50.cell? ⟨gb1206, 0, none⟩ = some (.int .i64 a0_0) := bc_ BK1206 0; have hcz53_1 : w50.cell? ⟨gb1206, 1, none⟩ = some (.int .i64 a0_1) := bc_ BK1206 1; have hcz53_2 : w50.cell? ⟨gb1206, 2, none⟩ = some (.slice A0_2 l0_2.length c0_2) := bc_ BK1206 2; have hfz53_0 := blk_frozen BK1206.out 0; have hfz53_1 := blk_frozen BK1206.out 1; have hfz53_2 := blk_frozen BK1206.out 2) | ((with_reducible refine gate_callee (f := 45) rfl ?_); refine goesL_ (some 37) rfl rfl Try.func45 (by kernel_rfl) rfl #[.agg #[.int .i64 t1208, .int .i64 (wrap64 (a0_1 + 1)), .slice Ao51 y1215.length co51]] rfl (qd2_) ?_; (with_reducible refine (spec_RowOk.calls kj7 t1208 (wrap64 (a0_1 + 1)) _ _ y1215 false _ ?side1 ?side2 A28.out).mono ?_); (case side1 => refine (Kd.R_reads' (e := 69) (base := w.heap.size) (ok := fun k_ => True) (n := y1215.length) (c := co51) ?_).2.2; exact (qd10_)); (case side2 => exact (Kd.R_reads' HO1217.out).2.1); rintro e w54 ⟨rfl, hb⟩; refine ⟨_, rfl, ?_⟩; replace HO1217 := Aside0.mk (Kd.R_below (qd10_) hb); replace BK1206 := Aside0.mk (blk_below (g := gb1206) (o := .cells #[.int .i64 a0_0, .int .i64 a0_1, .slice A0_2 l0_2.length c0_2] 57 (0, 0)) (bf_ NB1206_1213.out BK1206.out) hb); replace BK1207 := Aside0.mk (blk_below (g := gb1207) (o := .cells #[.int .i64 x1208000_7, .int .i64 x1208001_7, .slice none 0 0] 57 (0, 0)) (bf_ NB1207_1213.out BK1207.out) hb); replace BK1213 := Aside0.mk (blk_below (g := gb1213) (o := .cells #[.int .i64 t1208, .int .i64 (wrap64 (a0_1 + 1)), .slice Ao51 y1215.length co51] 57 (0, 0)) (bp_ BK1213.out) hb); replace HB := Aside0.mk (below_step (qd0_) hb); (try clear hb); (try clear hb2); (try clear hk); (try clear hi); have hcz55_0 : w54.cell? ⟨gb1206, 0, none⟩ = some (.int .i64 a0_0) := bc_ BK1206 0; have hcz55_1 : w54.cell? ⟨gb1206, 1, none⟩ = some (.int .i64 a0_1) := bc_ BK1206 1; have hcz55_2 : w54.cell? ⟨gb1206, 2, none⟩ = some (.slice A0_2 l0_2.length c0_2) := bc_ BK1206 2; have hfz55_0 := blk_frozen BK1206.out 0; have hfz55_1 := blk_frozen BK1206.out 1; have hfz55_2 := blk_frozen BK1206.out 2) | ((with_reducible refine gate_callee (f := 95) rfl ?_); refine goesL_ (some 40) rfl rfl Try.func95 (by kernel_rfl) rfl #[.agg #[.int .i64 a0_0, .int .i64 a0_1, .slice A0_2 l0_2.length c0_2]] rfl (qd2_) ?_; (with_reducible refine (spec_l3Copy.calls a0_0 a0_1 _ _ l0_2 t1219 t1220 t1221 _ ?side1 ?side2 A44.out).mono ?_); (case side1 => repeat (first | exact (Kd.C_below HR0_2.out HB.out) | (with_reducible refine Kd.C_alloc ?_ _) | (with_reducible refine Kd.C_drewN ?_ _) | (with_reducible refine Kd.C_drew ?_))); (case side2 => exact HC0_2.out); rintro e w56 ⟨v1222, rfl, ho0, hb⟩; refine ⟨_, rfl, ?_⟩; have HO1223 := Aside0.mk (Kd.R_lower (Kd.R_new' ho0 (Kd.R_lt (by (with_reducible repeat (first | apply Kd.R_alloc | apply Kd.R_drewN | apply Kd.R_drew)); exact HO1217.out))) (below_size (qd0_))); replace HO1217 := Aside0.mk (Kd.R_elder' (by (with_reducible repeat (first | apply Kd.R_alloc | apply Kd.R_drewN | apply Kd.R_drew)); exact HO1217.out) (Kd.R_base ho0) hb); replace BK1206 := Aside0.mk (blk_below (g := gb1206) (o := .cells #[.int .i64 a0_0, .int .i64 a0_1, .slice A0_2 l0_2.length c0_2] 57 (0, 0)) (bq_ BK1206.out) hb); replace BK1207 := Aside0.mk (blk_below (g := gb1207) (o := .cells #[.int .i64 x1208000_7, .int .i64 x1208001_7, .slice none 0 0] 57 (0, 0)) (bq_ BK1207.out) hb); replace BK1213 := Aside0.mk (blk_below (g := gb1213) (o := .cells #[.int .i64 t1208, .int .i64 (wrap64 (a0_1 + 1)), .slice Ao51 y1215.length co51] 57 (0, 0)) (bq_ BK1213.out) hb); replace HB := Aside0.mk (below_step (qd0_) hb); (try clear hb); (try clear hb2); (try clear hk); (try clear hi); (try clear ho0); have hcz57_0 : w56.cell? ⟨gb1207, 0, none⟩ = some (.int .i64 x1208000_7) := bc_ BK1207 0; have hcz57_1 : w56.cell? ⟨gb1207, 1, none⟩ = some (.int .i64 x1208001_7) := bc_ BK1207 1; have hcz57_2 : w56.cell? ⟨gb1207, 2, none⟩ = some (.slice none 0 0) := bc_ BK1207 2; have hfz57_0 := blk_frozen BK1207.out 0; have hfz57_1 := blk_frozen BK1207.out 1; have hfz57_2 := blk_frozen BK1207.out 2; obtain ⟨Ao58, co58, eo58⟩ := Kd.R_slice HO1223.out; subst eo58))
          refine bodyPost_ret (results_ctt rfl _ _ gb1207 57 #[.int .i64 t1219, .int .i64 t1220, .slice Ao58 t1221.length co58] (0, 0) _ rfl (bp_ BK1207.out) Try.underlying57 rfl (by kernel_rfl)) rfl ?_
          exact ⟨_, qd6_, by (with_reducible repeat (first | apply Kd.R_alloc | apply Kd.R_drewN | apply Kd.R_drew)); exact Kd.R_mono (Kd.R_far (p := ⟨gb1207, 2, none⟩) (Kd.R_far (p := ⟨gb1207, 1, none⟩) (Kd.R_far (p := ⟨gb1207, 0, none⟩) (Kd.R_types HO1223.out BK1207.out (by decide)) (fun _ hk => hk.2) (.int .i64 t1219)) (fun _ hk => hk.2) (.int .i64 t1220)) (fun _ hk => hk.2) (.slice Ao58 t1221.length co58)) (fun _ hk => trivial), qd0_⟩
      · rw [if_neg c27] at H
        exact absurd H (by simp)
/-! ### impl_RowPut: function 32 -/
def impl_RowPut.j0 : Nat → Bool → Int → Int → List (S_Item) → Int → Int → List (S_Item) → Option (Int × Int × (List (S_Item)) × Int × Bool)
  | 0, _, _, _, _, _, _, _ => none
  | k + 1, x39, x1225000, x1225001, x1225002, x1232000, x1232001, x1232002 => if x39 = true then ((impl_copyRow.f x1225000 x1225001 x1225002).bind fun bt1237 => (some (bt1237.1, bt1237.2.1, bt1237.2.2, 0, false))) else (some (x1232000, x1232001, x1232002, x1225001, true))
def impl_RowPut.f (k : Nat) (a0_0 : Int) (a0_1 : Int) (l0_2 : List (S_Item)) (a1 : ByteArray) (a2 : ByteArray) (a3 : Int) (a4 : Int) : Option (Int × Int × (List (S_Item)) × Int × Bool) := (impl_copyRow.f a0_0 a0_1 l0_2).bind fun bt1226 => (if bt1226.2.2.length < 2513169434916 then ((some (bt1226.2.2 ++ [(⟨a0_1, a1, a2, a3, a4⟩ : S_Item)] : List (S_Item))).bind fun y1232 => ((impl_RowOk.f k a0_0 a0_1 l0_2).bind fun t1235 => (if t1235 = true then ((impl_RowOk.f k bt1226.1 (wrap64 (bt1226.2.1 + 1)) y1232).bind fun t1236 => (impl_RowPut.j0 k (!t1236) a0_0 a0_1 l0_2 bt1226.1 (wrap64 (bt1226.2.1 + 1)) y1232)) else (impl_RowPut.j0 k true a0_0 a0_1 l0_2 bt1226.1 (wrap64 (bt1226.2.1 + 1)) y1232)))) else (none))
theorem impl_RowPut.mono_l : ∀ k, (∀ y0 y1 y2 y3 y4 y5 y6, LeO (impl_RowPut.j0 k y0 y1 y2 y3 y4 y5 y6) (impl_RowPut.j0 (k + 1) y0 y1 y2 y3 y4 y5 y6))
  | 0 => fun _ _ _ _ _ _ _ r h => by simp [impl_RowPut.j0] at h
  | k + 1 => by
    have ih0 := impl_RowPut.mono_l k
    · intro y0 y1 y2 y3 y4 y5 y6
      unfold impl_RowPut.j0
      exact qdh1_
theorem impl_RowPut.mono : ∀ a0 a1 a2 a3 a4 a5 a6 k, LeO (impl_RowPut.f k a0 a1 a2 a3 a4 a5 a6) (impl_RowPut.f (k + 1) a0 a1 a2 a3 a4 a5 a6) := by
  intro a0 a1 a2 a3 a4 a5 a6 k
  have ih0 := impl_RowPut.mono_l k
  unfold impl_RowPut.f
  exact qdh1_
set_option maxHeartbeats 8000000 in
set_option maxRecDepth 100000 in
theorem impl_RowPut.calls (k : Nat) (a0_0 : Int) (a0_1 : Int) (A0_2 : Option Addr) (c0_2 : Nat) (l0_2 : List (S_Item)) (a1 : ByteArray) (a2 : ByteArray) (a3 : Int) (a4 : Int) (r1 : Int) (r2 : Int) (r3 : List (S_Item)) (r4 : Int) (r5 : Bool) (w : World) (hr0_2 : Kd.C k_Item w A0_2 l0_2.length l0_2) (hc0_2 : l0_2.length ≤ c0_2) (h : impl_RowPut.f k a0_0 a0_1 l0_2 a1 a2 a3 a4 = some (r1, r2, r3, r4, r5)) :
    Calls Try.prog 32 #[.agg #[.int .i64 a0_0, .int .i64 a0_1, .slice A0_2 l0_2.length c0_2], .string a1, .string a2, .int .i64 a3, .int .i64 a4] w fun e w' => ∃ v2_ : Value, e = .returned (.tuple #[.agg #[.int .i64 r1, .int .i64 r2, v2_], .int .i64 r4, .bool r5]) ∧ Kd.R k_Item 69 w' w.heap.size (fun _ => True) v2_ r3 ∧ Below w.heap.size w w' := by
  have hu57 := Try.underlying57
  have hu69 := Try.underlying69
  have HR0_2 := Aside0.mk hr0_2
  have HC0_2 := Aside0.mk hc0_2
  clear hr0_2 hc0_2
  have HB := Aside0.mk (Below.refl w.heap.size w)
  have H : ((impl_copyRow.f a0_0 a0_1 l0_2).bind fun bt1226 => (if bt1226.2.2.length < 2513169434916 then ((some (bt1226.2.2 ++ [(⟨a0_1, a1, a2, a3, a4⟩ : S_Item)] : List (S_Item))).bind fun y1232 => ((impl_RowOk.f k a0_0 a0_1 l0_2).bind fun t1235 => (if t1235 = true then ((impl_RowOk.f k bt1226.1 (wrap64 (bt1226.2.1 + 1)) y1232).bind fun t1236 => (impl_RowPut.j0 k (!t1236) a0_0 a0_1 l0_2 bt1226.1 (wrap64 (bt1226.2.1 + 1)) y1232)) else (impl_RowPut.j0 k true a0_0 a0_1 l0_2 bt1226.1 (wrap64 (bt1226.2.1 + 1)) y1232)))) else (none))) = some (r1, r2, r3, r4, r5) := h
  clear h
  replace H := Option.bind_eq_some_iff.mp H
  obtain ⟨⟨t1226, t1227, t1228⟩, A60, H⟩ := H
  replace H : (if t1228.length < 2513169434916 then ((some (t1228 ++ [(⟨a0_1, a1, a2, a3, a4⟩ : S_Item)] : List (S_Item))).bind fun y1232 => ((impl_RowOk.f k a0_0 a0_1 l0_2).bind fun t1235 => (if t1235 = true then ((impl_RowOk.f k t1226 (wrap64 (t1227 + 1)) y1232).bind fun t1236 => (impl_RowPut.j0 k (!t1236) a0_0 a0_1 l0_2 t1226 (wrap64 (t1227 + 1)) y1232)) else (impl_RowPut.j0 k true a0_0 a0_1 l0_2 t1226 (wrap64 (t1227 + 1)) y1232)))) else (none)) = some (r1, r2, r3, r4, r5) := H
  have A6 := Aside0.mk A60
  clear A60
  by_cases c7 : t1228.length < 2513169434916
  · rw [if_pos c7] at H
    have LMc7 := Aside0.mk c7
    clear c7
    obtain ⟨y1232, hy1232⟩ : ∃ y_ : List (S_Item), y_ = (t1228 ++ [(⟨a0_1, a1, a2, a3, a4⟩ : S_Item)]) := ⟨_, rfl⟩
    replace H : ((impl_RowOk.f k a0_0 a0_1 l0_2).bind fun t1235 => (if t1235 = true then ((impl_RowOk.f k t1226 (wrap64 (t1227 + 1)) y1232).bind fun t1236 => (impl_RowPut.j0 k (!t1236) a0_0 a0_1 l0_2 t1226 (wrap64 (t1227 + 1)) y1232)) else (impl_RowPut.j0 k true a0_0 a0_1 l0_2 t1226 (wrap64 (t1227 + 1)) y1232))) = some (r1, r2, r3, r4, r5) := by first | (rw [hy1232]; with_reducible exact H) | (have H2_ := (Option.bind_some _ _).symm.trans H; rw [hy1232]; with_reducible exact H2_) | (have H2_ := (Option.bind_some _ _).symm.trans H; with_reducible exact H2_) | with_reducible exact H | (rw [hy1232]; exact H) | exact H
    have Ny1232 := Aside0.mk hy1232
    clear hy1232
    have HC8 := Aside0.mk H
    clear H
    go_enter Try.func32, Try.ntmps32
    go_upto_region 4 with (first | ((with_reducible refine gate_dst (N := 5) rfl ?_); refine box_event ?hg (N := 5) ?hd (cs := #[.int .i64 a0_0, .int .i64 a0_1, .slice A0_2 l0_2.length c0_2]) (t := 57) ?hr ?_; (case hd => rfl); (case hg => rfl); (case hr => first | (go_simp; done) | (go_simp; rfl)); intro gb1224 hg w9 hbox hb; have BK1224 := Aside0.mk (hbox); have GW1224 := Aside0.mk ((by rw [hg]; exact (below_size (qd3_)) : w.heap.size ≤ gb1224)); have GE1224 := Aside0.mk ((by rw [hg]; exact (below_size (qd3_)) : w.heap.size ≤ gb1224)); replace HB := Aside0.mk (below_step (qd3_) hb); clear hb hbox hg) | ((with_reducible refine gate_dst (N := 10) rfl ?_); refine box_event ?hg (N := 10) ?hd (cs := #[.int .i64 0, .int .i64 0, .slice none 0 0]) (t := 57) ?hr ?_; (case hd => rfl); (case hg => rfl); (case hr => first | (go_simp; done) | (go_simp; rfl)); intro gb1225 hg w10 hbox hb; have BK1225 := Aside0.mk (hbox); have GW1225 := Aside0.mk ((by rw [hg]; exact (below_size (qd12_)) : w.heap.size ≤ gb1225)); have GE1225 := Aside0.mk ((by rw [hg]; exact (below_size (qd12_)) : w.heap.size ≤ gb1225)); have NB1224_1225 := Aside0.mk ((by rw [hg]; exact Nat.ne_of_lt (blk_lt (g := gb1224) (o := .cells #[.int .i64 a0_0, .int .i64 a0_1, .slice A0_2 l0_2.length c0_2] 57 (0, 0)) (bq_ BK1224.out)) : gb1224 ≠ gb1225)); have NB1225_1224 := Aside0.mk ((by rw [hg]; exact Nat.ne_of_gt (blk_lt (g := gb1224) (o := .cells #[.int .i64 a0_0, .int .i64 a0_1, .slice A0_2 l0_2.length c0_2] 57 (0, 0)) (bq_ BK1224.out)) : gb1225 ≠ gb1224)); replace BK1224 := Aside0.mk (blk_below (g := gb1224) (o := .cells #[.int .i64 a0_0, .int .i64 a0_1, .slice A0_2 l0_2.length c0_2] 57 (0, 0)) (bq_ BK1224.out) hb); replace HB := Aside0.mk (below_step (qd12_) hb); clear hb hbox hg; have hnb11 := NB1224_1225.out; have hnc11 := NB1225_1224.out; have hcz12_0 : w10.cell? ⟨gb1224, 0, none⟩ = some (.int .i64 a0_0) := bc_ BK1224 0; have hcz12_1 : w10.cell? ⟨gb1224, 1, none⟩ = some (.int .i64 a0_1) := bc_ BK1224 1; have hcz12_2 : w10.cell? ⟨gb1224, 2, none⟩ = some (.slice A0_2 l0_2.length c0_2) := bc_ BK1224 2; have hfz12_0 := blk_frozen BK1224.out 0; have hfz12_1 := blk_frozen BK1224.out 1; have hfz12_2 := blk_frozen BK1224.out 2) | ((with_reducible refine gate_callee (f := 97) rfl ?_); refine goesL_ (some 15) rfl rfl Try.func97 (by kernel_rfl) rfl #[.agg #[.int .i64 a0_0, .int .i64 a0_1, .slice A0_2 l0_2.length c0_2]] rfl (qd2_) ?_; (with_reducible refine (impl_copyRow.calls a0_0 a0_1 _ _ l0_2 t1226 t1227 t1228 _ ?side1 ?side2 A6.out).mono ?_); (case side1 => repeat (first | exact (Kd.C_below HR0_2.out HB.out) | (with_reducible refine Kd.C_alloc ?_ _) | (with_reducible refine Kd.C_drewN ?_ _) | (with_reducible refine Kd.C_drew ?_))); (case side2 => exact HC0_2.out); rintro e w13 ⟨v1229, rfl, ho0, hb⟩; refine ⟨_, rfl, ?_⟩; have HO1230 := Aside0.mk (Kd.R_lower ho0 (below_size (qd4_))); replace BK1224 := Aside0.mk (blk_below (g := gb1224) (o := .cells #[.int .i64 a0_0, .int .i64 a0_1, .slice A0_2 l0_2.length c0_2] 57 (0, 0)) (bq_ BK1224.out) hb); replace BK1225 := Aside0.mk (blk_below (g := gb1225) (o := .cells #[.int .i64 0, .int .i64 0, .slice none 0 0] 57 (0, 0)) (bq_ BK1225.out) hb); replace HB := Aside0.mk (below_step (qd4_) hb); (try clear hb); (try clear hb2); (try clear hk); (try clear hi); (try clear ho0)) | ((with_reducible refine gate_dst (N := 13) rfl ?_); refine box_event ?hg (N := 13) ?hd (cs := #[.int .i64 0, .int .i64 0, .slice none 0 0]) (t := 57) ?hr ?_; (case hd => rfl); (case hg => rfl); (case hr => first | (go_simp; done) | (go_simp; rfl)); intro gb1231 hg w14 hbox hb; have BK1231 := Aside0.mk (hbox); have GW1231 := Aside0.mk ((by rw [hg]; exact (below_size (qd4_)) : w.heap.size ≤ gb1231)); have GE1231 := Aside0.mk ((by rw [hg]; exact (below_size (qd4_)) : w.heap.size ≤ gb1231)); have NB1224_1231 := Aside0.mk ((by rw [hg]; exact Nat.ne_of_lt (blk_lt (g := gb1224) (o := .cells #[.int .i64 a0_0, .int .i64 a0_1, .slice A0_2 l0_2.length c0_2] 57 (0, 0)) (bq_ BK1224.out)) : gb1224 ≠ gb1231)); have NB1231_1224 := Aside0.mk ((by rw [hg]; exact Nat.ne_of_gt (blk_lt (g := gb1224) (o := .cells #[.int .i64 a0_0, .int .i64 a0_1, .slice A0_2 l0_2.length c0_2] 57 (0, 0)) (bq_ BK1224.out)) : gb1231 ≠ gb1224)); have NB1225_1231 := Aside0.mk ((by rw [hg]; exact Nat.ne_of_lt (blk_lt (g := gb1225) (o := .cells #[.int .i64 0, .int .i64 0, .slice none 0 0] 57 (0, 0)) (bq_ BK1225.out)) : gb1225 ≠ gb1231)); have NB1231_1225 := Aside0.mk ((by rw [hg]; exact Nat.ne_of_gt (blk_lt (g := gb1225) (o := .cells #[.int .i64 0, .int .i64 0, .slice none 0 0] 57 (0, 0)) (bq_ BK1225.out)) : gb1231 ≠ gb1225)); replace HO1230 := Aside0.mk (Kd.R_below (by (with_reducible repeat (first | apply Kd.R_alloc | apply Kd.R_drewN | apply Kd.R_drew)); exact HO1230.out) hb); replace BK1224 := Aside0.mk (blk_below (g := gb1224) (o := .cells #[.int .i64 a0_0, .int .i64 a0_1, .slice A0_2 l0_2.length c0_2] 57 (0, 0)) (bq_ BK1224.out) hb); replace BK1225 := Aside0.mk (blk_below (g := gb1225) (o := .cells #[.int .i64 0, .int .i64 0, .slice none 0 0] 57 (0, 0)) (bq_ BK1225.out) hb); replace HB := Aside0.mk (below_step (qd4_) hb); clear hb hbox hg; have hnb15 := NB1231_1224.out; have hnc15 := NB1224_1231.out; have hnb16 := NB1231_1225.out; have hnc16 := NB1225_1231.out; have hcz17_0 : w14.cell? ⟨gb1231, 0, none⟩ = some (.int .i64 0) := bc_ BK1231 0; have hcz17_1 : w14.cell? ⟨gb1231, 1, none⟩ = some (.int .i64 0) := bc_ BK1231 1; have hcz17_2 : w14.cell? ⟨gb1231, 2, none⟩ = some (.slice none 0 0) := bc_ BK1231 2; have hfz17_0 := blk_frozen BK1231.out 0; have hfz17_1 := blk_frozen BK1231.out 1; have hfz17_2 := blk_frozen BK1231.out 2; obtain ⟨Ao18, co18, eo18⟩ := Kd.R_slice HO1230.out; subst eo18; have hcz19_0 : w14.cell? ⟨gb1224, 0, none⟩ = some (.int .i64 a0_0) := bc_ BK1224 0; have hcz19_1 : w14.cell? ⟨gb1224, 1, none⟩ = some (.int .i64 a0_1) := bc_ BK1224 1; have hcz19_2 : w14.cell? ⟨gb1224, 2, none⟩ = some (.slice A0_2 l0_2.length c0_2) := bc_ BK1224 2; have hfz19_0 := blk_frozen BK1224.out 0; have hfz19_1 := blk_frozen BK1224.out 1; have hfz19_2 := blk_frozen BK1224.out 2) | ((with_reducible refine gate_builtin (b := .append) (xs := #[.tmp 17, .tmp 25]) rfl ?_); at_builtin; refine Kd.R_append k_Item (w0 := w) w.heap.size rfl (.tmp 17) (.tmp 25) 55 69 (.agg #[(.int .i64 0), (.string ⟨#[]⟩), (.string ⟨#[]⟩), (.int .i64 0), (.int .i64 0)]) 56 rfl Try.underlying55 info69 rfl (by decide) (by omega) (.slice Ao18 t1228.length co18) t1228 (⟨a0_1, a1, a2, a3, a4⟩ : S_Item) [.int .i64 a0_1, .string a1, .string a2, .int .i64 a3, .int .i64 a4] (fun _ => True) (fun _ => False) rfl (by first | (go_simp; done) | (go_simp; rfl)) ?aP (fun _ hk => hk.elim) ?aF ?aO ?aB ?aS ?aL ?_; (case aP => exact k_Item_mkM _ _ _ (⟨a0_1, a1, a2, a3, a4⟩ : S_Item)); (case aB => exact (qd1_)); (case aF => exact (fun _ _ => trivial)); (case aO => exact (by (with_reducible repeat (first | apply Kd.R_alloc | apply Kd.R_drewN | apply Kd.R_drew)); exact Kd.R_mono (Kd.R_far (p := ⟨gb1231, 2, none⟩) (Kd.R_far (p := ⟨gb1231, 1, none⟩) (Kd.R_far (p := ⟨gb1231, 0, none⟩) (Kd.R_types HO1230.out BK1231.out (by decide)) (fun _ hk => hk.2) (.int .i64 t1226)) (fun _ hk => hk.2) (.int .i64 t1227)) (fun _ hk => hk.2) (.slice Ao18 t1228.length co18)) (fun _ hk => trivial))); (case aS => exact (below_size (qd1_))); (case aL => have := LMc7.out; omega); intro v1233 w20 ho hb hg hat; rw [← Ny1232.out] at ho; have HO1234 := Aside0.mk (ho); replace BK1224 := Aside0.mk (blk_grown (g := gb1224) (o := .cells #[.int .i64 a0_0, .int .i64 a0_1, .slice A0_2 l0_2.length c0_2] 57 (0, 0)) (bf_ NB1224_1231.out BK1224.out) hg (Kd.R_ne HO1230.out BK1224.out (by decide))); replace BK1225 := Aside0.mk (blk_grown (g := gb1225) (o := .cells #[.int .i64 0, .int .i64 0, .slice none 0 0] 57 (0, 0)) (bf_ NB1225_1231.out BK1225.out) hg (Kd.R_ne HO1230.out BK1225.out (by decide))); replace BK1231 := Aside0.mk (blk_grown (g := gb1231) (o := .cells #[.int .i64 t1226, .int .i64 t1227, .slice Ao18 t1228.length co18] 57 (0, 0)) (bp_ BK1231.out) hg (Kd.R_ne HO1230.out BK1231.out (by decide))); replace HB := Aside0.mk (hb); clear HO1230; clear ho hb hg hat; obtain ⟨Ao21, co21, eo21⟩ := Kd.R_slice HO1234.out; subst eo21; have hcz22_0 : w20.cell? ⟨gb1231, 0, none⟩ = some (.int .i64 t1226) := bc_ BK1231 0; have hcz22_1 : w20.cell? ⟨gb1231, 1, none⟩ = some (.int .i64 t1227) := bc_ BK1231 1; have hcz22_2 : w20.cell? ⟨gb1231, 2, none⟩ = some (.slice Ao18 t1228.length co18) := bc_ BK1231 2; have hfz22_0 := blk_frozen BK1231.out 0; have hfz22_1 := blk_frozen BK1231.out 1; have hfz22_2 := blk_frozen BK1231.out 2))
    (try simp only [Act.put, List.setIfInBounds_toArray, List.set_cons_zero, List.set_cons_succ])
    go_cut [39] (fun v39 wc => ∃ (kq : Nat) (x39_7 : Bool), v39 = .bool x39_7 ∧ Aside0 (impl_RowPut.j0 kq x39_7 a0_0 a0_1 l0_2 t1226 (wrap64 (t1227 + 1)) y1232 = some (r1, r2, r3, r4, r5)) ∧ Aside0 (kq ≤ k) ∧ Aside0 (Kd.R k_Item 69 wc w.heap.size (fun _ => True) (.slice Ao21 y1232.length co21) y1232) ∧ Aside0 (wc.heap[gb1224]? = some (.cells #[.int .i64 a0_0, .int .i64 a0_1, (.slice A0_2 l0_2.length c0_2)] 57 (0, 0))) ∧ Aside0 (wc.heap[gb1225]? = some (.cells #[.int .i64 0, .int .i64 0, (.slice none 0 0)] 57 (0, 0))) ∧ Aside0 (wc.heap[gb1231]? = some (.cells #[.int .i64 t1226, .int .i64 (wrap64 (t1227 + 1)), (.slice Ao21 y1232.length co21)] 57 (0, 0))) ∧ Aside0 (Below w.heap.size w wc))
    case first =>
      have H := HC8.out
      clear HC8
      replace H := Option.bind_eq_some_iff.mp H
      obtain ⟨t1235, A230, H⟩ := H
      replace H : (if t1235 = true then ((impl_RowOk.f k t1226 (wrap64 (t1227 + 1)) y1232).bind fun t1236 => (impl_RowPut.j0 k (!t1236) a0_0 a0_1 l0_2 t1226 (wrap64 (t1227 + 1)) y1232)) else (impl_RowPut.j0 k true a0_0 a0_1 l0_2 t1226 (wrap64 (t1227 + 1)) y1232)) = some (r1, r2, r3, r4, r5) := H
      have A23 := Aside0.mk A230
      clear A230
      by_cases c24 : t1235 = true
      · subst c24
        have H1 : ((impl_RowOk.f k t1226 (wrap64 (t1227 + 1)) y1232).bind fun t1236 => (impl_RowPut.j0 k (!t1236) a0_0 a0_1 l0_2 t1226 (wrap64 (t1227 + 1)) y1232)) = some (r1, r2, r3, r4, r5) := by rw [if_pos rfl] at H; exact H
        clear H
        have H := H1
        clear H1
        replace H := Option.bind_eq_some_iff.mp H
        obtain ⟨t1236, A250, H⟩ := H
        replace H : (impl_RowPut.j0 k (!t1236) a0_0 a0_1 l0_2 t1226 (wrap64 (t1227 + 1)) y1232) = some (r1, r2, r3, r4, r5) := H
        have A25 := Aside0.mk A250
        clear A250
        have H' := Aside0.mk H
        clear H
        have hnb26 := NB1224_1225.out
        have hnc26 := NB1225_1224.out
        have hnb27 := NB1224_1231.out
        have hnc27 := NB1231_1224.out
        have hcz28_0 : w20.cell? ⟨gb1224, 0, none⟩ = some (.int .i64 a0_0) := bc_ BK1224 0
        have hcz28_1 : w20.cell? ⟨gb1224, 1, none⟩ = some (.int .i64 a0_1) := bc_ BK1224 1
        have hcz28_2 : w20.cell? ⟨gb1224, 2, none⟩ = some (.slice A0_2 l0_2.length c0_2) := bc_ BK1224 2
        have hfz28_0 := blk_frozen BK1224.out 0
        have hfz28_1 := blk_frozen BK1224.out 1
        have hfz28_2 := blk_frozen BK1224.out 2
        go_wp2_with (first | ((with_reducible refine gate_callee (f := 44) rfl ?_); refine goesL_ (some 33) rfl rfl Try.func44 (by kernel_rfl) rfl #[.agg #[.int .i64 a0_0, .int .i64 a0_1, .slice A0_2 l0_2.length c0_2]] rfl (qd2_) ?_; (with_reducible refine (impl_RowOk.calls k a0_0 a0_1 _ _ l0_2 true _ ?side1 ?side2 A23.out).mono ?_); (case side1 => exact Kd.C_below HR0_2.out (qd1_)); (case side2 => exact HC0_2.out); rintro e w29 ⟨rfl, hb⟩; refine ⟨_, rfl, ?_⟩; replace HO1234 := Aside0.mk (Kd.R_below (qd9_) hb); replace BK1224 := Aside0.mk (blk_below (g := gb1224) (o := .cells #[.int .i64 a0_0, .int .i64 a0_1, .slice A0_2 l0_2.length c0_2] 57 (0, 0)) (bf_ NB1224_1231.out BK1224.out) hb); replace BK1225 := Aside0.mk (blk_below (g := gb1225) (o := .cells #[.int .i64 0, .int .i64 0, .slice none 0 0] 57 (0, 0)) (bf_ NB1225_1231.out BK1225.out) hb); replace BK1231 := Aside0.mk (blk_below (g := gb1231) (o := .cells #[.int .i64 t1226, .int .i64 (wrap64 (t1227 + 1)), .slice Ao21 y1232.length co21] 57 (0, 0)) (bp_ BK1231.out) hb); replace HB := Aside0.mk (below_step (qd1_) hb); (try clear hb); (try clear hb2); (try clear hk); (try clear hi); have hnb30 := NB1231_1225.out; have hnc30 := NB1225_1231.out; have hcz31_0 : w29.cell? ⟨gb1231, 0, none⟩ = some (.int .i64 t1226) := bc_ BK1231 0; have hcz31_1 : w29.cell? ⟨gb1231, 1, none⟩ = some (.int .i64 (wrap64 (t1227 + 1))) := bc_ BK1231 1; have hcz31_2 : w29.cell? ⟨gb1231, 2, none⟩ = some (.slice Ao21 y1232.length co21) := bc_ BK1231 2; have hfz31_0 := blk_frozen BK1231.out 0; have hfz31_1 := blk_frozen BK1231.out 1; have hfz31_2 := blk_frozen BK1231.out 2) | (go_at_call 44; (with_reducible refine (impl_RowOk.calls k t1226 (wrap64 (t1227 + 1)) _ _ y1232 t1236 _ ?side1 ?side2 A25.out).mono ?_); (case side1 => repeat (first | exact (Kd.R_reads' HO1234.out).2.2 | (with_reducible refine Kd.C_alloc ?_ _) | (with_reducible refine Kd.C_drewN ?_ _) | (with_reducible refine Kd.C_drew ?_))); (case side2 => exact (Kd.R_reads' HO1234.out).2.1); rintro e w32 ⟨rfl, hb⟩; replace HO1234 := Aside0.mk (Kd.R_below (qd16_) hb); replace BK1224 := Aside0.mk (blk_below (g := gb1224) (o := .cells #[.int .i64 a0_0, .int .i64 a0_1, .slice A0_2 l0_2.length c0_2] 57 (0, 0)) (bq_ BK1224.out) hb); replace BK1225 := Aside0.mk (blk_below (g := gb1225) (o := .cells #[.int .i64 0, .int .i64 0, .slice none 0 0] 57 (0, 0)) (bq_ BK1225.out) hb); replace BK1231 := Aside0.mk (blk_below (g := gb1231) (o := .cells #[.int .i64 t1226, .int .i64 (wrap64 (t1227 + 1)), .slice Ao21 y1232.length co21] 57 (0, 0)) (bq_ BK1231.out) hb); replace HB := Aside0.mk (below_step (qd1_) hb); (try clear hb); (try clear hb2); (try clear hk); (try clear hi)))
        go_meet
        case rel => exact ⟨_, (!t1236), (qd15_), H', ⟨qd17_⟩, ⟨qd16_⟩, ⟨bq_ BK1224.out⟩, ⟨bq_ BK1225.out⟩, ⟨bq_ BK1231.out⟩, ⟨qd1_⟩⟩
      · replace c24 := Bool.eq_false_iff.mpr c24
        subst c24
        have H1 : (impl_RowPut.j0 k true a0_0 a0_1 l0_2 t1226 (wrap64 (t1227 + 1)) y1232) = some (r1, r2, r3, r4, r5) := by rw [if_neg (show ¬ (false = true) by decide)] at H; exact H
        clear H
        have H := H1
        clear H1
        have H' := Aside0.mk H
        clear H
        have hnb33 := NB1224_1225.out
        have hnc33 := NB1225_1224.out
        have hnb34 := NB1224_1231.out
        have hnc34 := NB1231_1224.out
        have hcz35_0 : w20.cell? ⟨gb1224, 0, none⟩ = some (.int .i64 a0_0) := bc_ BK1224 0
        have hcz35_1 : w20.cell? ⟨gb1224, 1, none⟩ = some (.int .i64 a0_1) := bc_ BK1224 1
        have hcz35_2 : w20.cell? ⟨gb1224, 2, none⟩ = some (.slice A0_2 l0_2.length c0_2) := bc_ BK1224 2
        have hfz35_0 := blk_frozen BK1224.out 0
        have hfz35_1 := blk_frozen BK1224.out 1
        have hfz35_2 := blk_frozen BK1224.out 2
        go_wp2_with (first | ((with_reducible refine gate_callee (f := 44) rfl ?_); refine goesL_ (some 33) rfl rfl Try.func44 (by kernel_rfl) rfl #[.agg #[.int .i64 a0_0, .int .i64 a0_1, .slice A0_2 l0_2.length c0_2]] rfl (qd2_) ?_; (with_reducible refine (impl_RowOk.calls k a0_0 a0_1 _ _ l0_2 false _ ?side1 ?side2 A23.out).mono ?_); (case side1 => exact Kd.C_below HR0_2.out (qd1_)); (case side2 => exact HC0_2.out); rintro e w36 ⟨rfl, hb⟩; refine ⟨_, rfl, ?_⟩; replace HO1234 := Aside0.mk (Kd.R_below (qd9_) hb); replace BK1224 := Aside0.mk (blk_below (g := gb1224) (o := .cells #[.int .i64 a0_0, .int .i64 a0_1, .slice A0_2 l0_2.length c0_2] 57 (0, 0)) (bf_ NB1224_1231.out BK1224.out) hb); replace BK1225 := Aside0.mk (blk_below (g := gb1225) (o := .cells #[.int .i64 0, .int .i64 0, .slice none 0 0] 57 (0, 0)) (bf_ NB1225_1231.out BK1225.out) hb); replace BK1231 := Aside0.mk (blk_below (g := gb1231) (o := .cells #[.int .i64 t1226, .int .i64 (wrap64 (t1227 + 1)), .slice Ao21 y1232.length co21] 57 (0, 0)) (bp_ BK1231.out) hb); replace HB := Aside0.mk (below_step (qd1_) hb); (try clear hb); (try clear hb2); (try clear hk); (try clear hi)))
        go_meet
        case rel => exact ⟨_, (true), (qd15_), H', ⟨qd17_⟩, ⟨qd16_⟩, ⟨bq_ BK1224.out⟩, ⟨bq_ BK1225.out⟩, ⟨bq_ BK1231.out⟩, ⟨qd1_⟩⟩
    case rest =>
      clear HC8
      try clear c1
      try clear c2
      try clear p2
      try clear c3
      try clear c4
      try clear p6
      try clear c7
      try clear c9
      try clear c11
      try clear c15
      try clear c16
      try clear c24
      try clear c26
      try clear c27
      try clear c30
      try clear c32
      try clear c33
      try clear c34
      try clear hcz12_0
      try clear hcz12_1
      try clear hcz12_2
      try clear hcz17_0
      try clear hcz17_1
      try clear hcz17_2
      try clear hcz19_0
      try clear hcz19_1
      try clear hcz19_2
      try clear hcz22_0
      try clear hcz22_1
      try clear hcz22_2
      try clear hcz28_0
      try clear hcz28_1
      try clear hcz28_2
      try clear hcz31_0
      try clear hcz31_1
      try clear hcz31_2
      try clear hcz35_0
      try clear hcz35_1
      try clear hcz35_2
      try clear hfz12_0
      try clear hfz12_1
      try clear hfz12_2
      try clear hfz17_0
      try clear hfz17_1
      try clear hfz17_2
      try clear hfz19_0
      try clear hfz19_1
      try clear hfz19_2
      try clear hfz22_0
      try clear hfz22_1
      try clear hfz22_2
      try clear hfz28_0
      try clear hfz28_1
      try clear hfz28_2
      try clear hfz31_0
      try clear hfz31_1
      try clear hfz31_2
      try clear hfz35_0
      try clear hfz35_1
      try clear hfz35_2
      obtain ⟨kq, x39_7, rfl, HA, HJ7, HO_1232002, BK1224, BK1225, BK1231, HB⟩ := hcut
      cases kq with
      | zero => exact absurd HA.out (by simp [impl_RowPut.j0])
      | succ kj7 =>
        have H := HA.out
        clear HA
        simp only [impl_RowPut.j0] at H
        by_cases c37 : x39_7 = true
        · subst c37
          have H1 : ((impl_copyRow.f a0_0 a0_1 l0_2).bind fun bt1237 => (some (bt1237.1, bt1237.2.1, bt1237.2.2, 0, false))) = some (r1, r2, r3, r4, r5) := by rw [if_pos rfl] at H; exact H
          clear H
          have H := H1
          clear H1
          replace H := Option.bind_eq_some_iff.mp H
          obtain ⟨⟨t1237, t1238, t1239⟩, A380, H⟩ := H
          replace H : (some (t1237, t1238, t1239, 0, false)) = some (r1, r2, r3, r4, r5) := H
          have A38 := Aside0.mk A380
          clear A380
          simp only [Option.some.injEq, Prod.mk.injEq] at H
          obtain ⟨rfl, rfl, rfl, rfl, rfl⟩ := H
          have hnb39 := NB1224_1225.out
          have hnc39 := NB1225_1224.out
          have hnb40 := NB1224_1231.out
          have hnc40 := NB1231_1224.out
          have hcz41_0 : wc.cell? ⟨gb1224, 0, none⟩ = some (.int .i64 a0_0) := bc_ BK1224 0
          have hcz41_1 : wc.cell? ⟨gb1224, 1, none⟩ = some (.int .i64 a0_1) := bc_ BK1224 1
          have hcz41_2 : wc.cell? ⟨gb1224, 2, none⟩ = some (.slice A0_2 l0_2.length c0_2) := bc_ BK1224 2
          have hfz41_0 := blk_frozen BK1224.out 0
          have hfz41_1 := blk_frozen BK1224.out 1
          have hfz41_2 := blk_frozen BK1224.out 2
          go_wp2_with (first | ((with_reducible refine gate_callee (f := 97) rfl ?_); refine goesL_ (some 41) rfl rfl Try.func97 (by kernel_rfl) rfl #[.agg #[.int .i64 a0_0, .int .i64 a0_1, .slice A0_2 l0_2.length c0_2]] rfl (qd2_) ?_; (with_reducible refine (impl_copyRow.calls a0_0 a0_1 _ _ l0_2 t1237 t1238 t1239 _ ?side1 ?side2 A38.out).mono ?_); (case side1 => repeat (first | exact (Kd.C_below HR0_2.out HB.out) | (with_reducible refine Kd.C_alloc ?_ _) | (with_reducible refine Kd.C_drewN ?_ _) | (with_reducible refine Kd.C_drew ?_))); (case side2 => exact HC0_2.out); rintro e w42 ⟨v1240, rfl, ho0, hb⟩; refine ⟨_, rfl, ?_⟩; have HO1241 := Aside0.mk (Kd.R_lower (Kd.R_new' ho0 (Kd.R_lt (by (with_reducible repeat (first | apply Kd.R_alloc | apply Kd.R_drewN | apply Kd.R_drew)); exact HO_1232002.out))) (below_size (qd1_))); replace HO_1232002 := Aside0.mk (Kd.R_elder' (by (with_reducible repeat (first | apply Kd.R_alloc | apply Kd.R_drewN | apply Kd.R_drew)); exact HO_1232002.out) (Kd.R_base ho0) hb); replace BK1224 := Aside0.mk (blk_below (g := gb1224) (o := .cells #[.int .i64 a0_0, .int .i64 a0_1, .slice A0_2 l0_2.length c0_2] 57 (0, 0)) (bq_ BK1224.out) hb); replace BK1225 := Aside0.mk (blk_below (g := gb1225) (o := .cells #[.int .i64 0, .int .i64 0, .slice none 0 0] 57 (0, 0)) (bq_ BK1225.out) hb); replace BK1231 := Aside0.mk (blk_below (g := gb1231) (o := .cells #[.int .i64 t1226, .int .i64 (wrap64 (t1227 + 1)), .slice Ao21 y1232.length co21] 57 (0, 0)) (bq_ BK1231.out) hb); replace HB := Aside0.mk (below_step (qd1_) hb); (try clear hb); (try clear hb2); (try clear hk); (try clear hi); (try clear ho0); have hnb43 := NB1225_1231.out; have hnc43 := NB1231_1225.out; have hcz44_0 : w42.cell? ⟨gb1225, 0, none⟩ = some (.int .i64 0) := bc_ BK1225 0; have hcz44_1 : w42.cell? ⟨gb1225, 1, none⟩ = some (.int .i64 0) := bc_ BK1225 1; have hcz44_2 : w42.cell? ⟨gb1225, 2, none⟩ = some (.slice none 0 0) := bc_ BK1225 2; have hfz44_0 := blk_frozen BK1225.out 0; have hfz44_1 := blk_frozen BK1225.out 1; have hfz44_2 := blk_frozen BK1225.out 2; obtain ⟨Ao45, co45, eo45⟩ := Kd.R_slice HO1241.out; subst eo45))
          refine bodyPost_ret (results_ctt rfl _ _ gb1225 57 #[.int .i64 t1237, .int .i64 t1238, .slice Ao45 t1239.length co45] (0, 0) _ rfl (bp_ BK1225.out) Try.underlying57 rfl (by kernel_rfl)) rfl ?_
          exact ⟨_, qd6_, by (with_reducible repeat (first | apply Kd.R_alloc | apply Kd.R_drewN | apply Kd.R_drew)); exact Kd.R_mono (Kd.R_far (p := ⟨gb1225, 2, none⟩) (Kd.R_far (p := ⟨gb1225, 1, none⟩) (Kd.R_far (p := ⟨gb1225, 0, none⟩) (Kd.R_types HO1241.out BK1225.out (by decide)) (fun _ hk => hk.2) (.int .i64 t1237)) (fun _ hk => hk.2) (.int .i64 t1238)) (fun _ hk => hk.2) (.slice Ao45 t1239.length co45)) (fun _ hk => trivial), qd1_⟩
        · replace c37 := Bool.eq_false_iff.mpr c37
          subst c37
          have H1 : (some (t1226, (wrap64 (t1227 + 1)), y1232, a0_1, true)) = some (r1, r2, r3, r4, r5) := by rw [if_neg (show ¬ (false = true) by decide)] at H; exact H
          clear H
          have H := H1
          clear H1
          simp only [Option.some.injEq, Prod.mk.injEq] at H
          obtain ⟨rfl, rfl, rfl, rfl, rfl⟩ := H
          try go_wp2
          replace HO_1232002 := Aside0.mk (Kd.R_drew HO_1232002.out)
          replace BK1224 := Aside0.mk (blk_drew BK1224.out)
          replace BK1225 := Aside0.mk (blk_drew BK1225.out)
          replace BK1231 := Aside0.mk (blk_drew BK1231.out)
          replace HB := Aside0.mk (below_drew1 HB.out)
          refine start_ (n := 6) (S := fun w' => w'.cell? ⟨gb1231, 0, none⟩ = some (.int .i64 t1226) ∧ w'.cell? ⟨gb1231, 1, none⟩ = some (.int .i64 (wrap64 (t1227 + 1))) ∧ w'.cell? ⟨gb1231, 2, none⟩ = some (.slice Ao21 y1232.length co21) ∧ w'.cell? ⟨gb1224, 0, none⟩ = some (.int .i64 a0_0) ∧ w'.cell? ⟨gb1224, 1, none⟩ = some (.int .i64 a0_1) ∧ w'.cell? ⟨gb1224, 2, none⟩ = some (.slice A0_2 l0_2.length c0_2)) (ds := []) #[false, false, false, false, false, false] (by kernel_rfl) rfl rfl ⟨bc_ BK1231 0, bc_ BK1231 1, bc_ BK1231 2, bc_ BK1224 0, bc_ BK1224 1, bc_ BK1224 2⟩ (fun hHeld => ?_)
          generalize wc.drew = w46 at HO_1232002 BK1224 BK1225 BK1231 HB hHeld ⊢
          refine pure_ (i := 1) (N := some 43) (v := ?_) (a' := ?_) #[false, true, false, false, false, false] rfl rfl (by kernel_rfl) (fun _ _ _ h => h) (Or.inl ⟨by rfl, ?_⟩) ?_ ?_
          rotate_left
          · intro w'
            go_simp
            with_reducible rfl
          rotate_left
          · simp only [Act.put, List.setIfInBounds_toArray, List.set_cons_zero, List.set_cons_succ, i64_w, i32_w]
            rfl
          refine take_ (i := 0) (N := some 42) (v := ?_) (a' := ?_) #[true, true, false, false, false, false] rfl rfl (by kernel_rfl) (fun _ _ _ h => h) (Or.inl ⟨by rfl, ?_⟩) hHeld ?_ ?_
          rotate_left
          · rintro w' ⟨s0, s1, s2, s3, s4, s5⟩
            go_simp
            with_reducible rfl
          rotate_left
          · simp only [Act.put, List.setIfInBounds_toArray, List.set_cons_zero, List.set_cons_succ, i64_w, i32_w]
            rfl
          refine take_ (i := 2) (N := some 44) (v := ?_) (a' := ?_) #[true, true, true, false, false, false] rfl rfl (by kernel_rfl) (fun _ _ _ h => h) (Or.inl ⟨by rfl, ?_⟩) hHeld ?_ ?_
          rotate_left
          · rintro w' ⟨s0, s1, s2, s3, s4, s5⟩
            go_simp
            with_reducible rfl
          rotate_left
          · simp only [Act.put, List.setIfInBounds_toArray, List.set_cons_zero, List.set_cons_succ, i64_w, i32_w]
            rfl
          refine one_ (i := 3) (N := none) #[true, true, true, true, false, false] rfl rfl (by kernel_rfl) (by decide) (fun K hK => ?_)
          have hs47 : w46.cell? ⟨gb1225, 0, none⟩ = some (.int .i64 0) := bc_ BK1225 0
          have hfs47 := blk_frozen BK1225.out 0
          have hns47_0 := NB1224_1225.out
          have hns47_2 := NB1231_1225.out
          have hms47_0 := NB1225_1224.out
          have hms47_2 := NB1225_1231.out
          have hs48 : w46.cell? ⟨gb1225, 1, none⟩ = some (.int .i64 0) := bc_ BK1225 1
          have hfs48 := blk_frozen BK1225.out 1
          have hns48_0 := NB1224_1225.out
          have hns48_2 := NB1231_1225.out
          have hms48_0 := NB1225_1224.out
          have hms48_2 := NB1225_1231.out
          have hs49 : w46.cell? ⟨gb1225, 2, none⟩ = some (.slice none 0 0) := bc_ BK1225 2
          have hfs49 := blk_frozen BK1225.out 2
          have hns49_0 := NB1224_1225.out
          have hns49_2 := NB1231_1225.out
          have hms49_0 := NB1225_1224.out
          have hms49_2 := NB1225_1231.out
          refine skip_ (w1 := ?_) (by rfl) rfl ?_ ?_
          rotate_left
          · go_simp
            rfl
          refine hK.out _ _ ⟨(cfs_ NB1231_1225.out (hHeld.1)), (cfs_ NB1231_1225.out (hHeld.2.1)), (cfs_ NB1231_1225.out (hHeld.2.2.1)), (cfs_ NB1224_1225.out (hHeld.2.2.2.1)), (cfs_ NB1224_1225.out (hHeld.2.2.2.2.1)), (cfs_ NB1224_1225.out (hHeld.2.2.2.2.2))⟩ (fun hHeld => ?_)
          clear hK K
          refine pure_ (i := 4) (N := some 11) (v := ?_) (a' := ?_) #[true, true, true, true, true, false] rfl rfl (by kernel_rfl) (fun _ _ _ h => h) (Or.inl ⟨by rfl, ?_⟩) ?_ ?_
          rotate_left
          · intro w'
            go_simp
            with_reducible rfl
          rotate_left
          · simp only [Act.put, List.setIfInBounds_toArray, List.set_cons_zero, List.set_cons_succ, i64_w, i32_w]
            rfl
          refine pure_ (i := 5) (N := some 12) (v := ?_) (a' := ?_) #[true, true, true, true, true, true] rfl rfl (by kernel_rfl) (fun _ _ _ h => h) (Or.inl ⟨by rfl, ?_⟩) ?_ ?_
          rotate_left
          · intro w'
            go_simp
            with_reducible rfl
          rotate_left
          · simp only [Act.put, List.setIfInBounds_toArray, List.set_cons_zero, List.set_cons_succ, i64_w, i32_w]
            rfl
          refine done_ (by kernel_rfl) ?_
          try go_wp2
          refine bodyPost_ret (results_ctt rfl _ _ gb1225 57 #[.int .i64 t1226, .int .i64 (wrap64 (t1227 + 1)), .slice Ao21 y1232.length co21] (0, 0) _ rfl (bp_ BK1225.out) Try.underlying57 rfl (by kernel_rfl)) rfl ?_
          exact ⟨_, qd6_, by (with_reducible repeat (first | apply Kd.R_alloc | apply Kd.R_drewN | apply Kd.R_drew)); exact Kd.R_mono (Kd.R_far (p := ⟨gb1225, 2, none⟩) (Kd.R_far (p := ⟨gb1225, 1, none⟩) (Kd.R_far (p := ⟨gb1225, 0, none⟩) (Kd.R_types HO_1232002.out BK1225.out (by decide)) (fun _ hk => hk.2) (.int .i64 t1226)) (fun _ hk => hk.2) (.int .i64 (wrap64 (t1227 + 1)))) (fun _ hk => hk.2) (.slice Ao21 y1232.length co21)) (fun _ hk => trivial), qd1_⟩
  · rw [if_neg c7] at H
    exact absurd H (by simp)
/-! ### spec_RowTrim: function 48 -/
mutual
def spec_RowTrim.j0 : Nat → Int → Int → Bool → Int → Int → List (S_Item) → Int → Int → List (S_Item) → Option (Int × Int × (List (S_Item)))
 | 0, _, _, _, _, _, _, _, _, _ => none
 | k + 1, x1, x2, x22, x1300000, x1300001, x1300002, x1307000, x1307001, x1307002 => if x22 = true then (some (x1307000, x1307001, x1307002)) else (spec_RowTrim.l0 k x1 x2 x1300000 x1300001 x1300002 x1307000 x1307001 x1307002)
def spec_RowTrim.l0 : Nat → Int → Int → Int → Int → List (S_Item) → Int → Int → List (S_Item) → Option (Int × Int × (List (S_Item)))
 | 0, _, _, _, _, _, _, _, _ => none
 | k + 1, x1, x2, x1300000, x1300001, x1300002, x1307000, x1307001, x1307002 => if (x1307002.length : Int) > x2 then (if 0 < (x1307002.length : Int) then (if x1 = 0 then (none) else (if (wrap64 (Int.tdiv ((rd_Item x1307002 0).f0) x1)) = (wrap64 (Int.tdiv (wrap64 (x1300001 - 1)) x1)) then (some (x1307000, x1307001, x1307002)) else (spec_RowTrim.l1 k x1 x2 (wrap64 (Int.tdiv ((rd_Item x1307002 0).f0) x1)) 0 x1300000 x1300001 x1300002 x1307000 x1307001 x1307002))) else (none)) else (some (x1307000, x1307001, x1307002))
def spec_RowTrim.l1 : Nat → Int → Int → Int → Int → Int → Int → List (S_Item) → Int → Int → List (S_Item) → Option (Int × Int × (List (S_Item)))
 | 0, _, _, _, _, _, _, _, _, _, _ => none
 | k + 1, x1, x2, x8, x9, x1300000, x1300001, x1300002, x1307000, x1307001, x1307002 => if x9 < (x1307002.length : Int) then (if 0 ≤ x9 then (if x1 = 0 then (none) else (if (wrap64 (Int.tdiv ((rd_Item x1307002 x9).f0) x1)) = x8 then (spec_RowTrim.l1 k x1 x2 x8 (wrap64 (x9 + 1)) x1300000 x1300001 x1300002 x1307000 x1307001 x1307002) else ((some (([] : List (S_Item)) : List (S_Item))).bind fun y1310 => (if x9 ≤ (x1307002.length : Int) then ((some (x1307002.drop (x9 : Int).toNat : List (S_Item))).bind fun y1313 => (if y1310.length + y1313.length < 2513169434916 then (spec_RowTrim.l0 k x1 x2 x1300000 x1300001 x1300002 (wrap64 ((wrap64 (x8 + 1)) * x1)) x1307001 (y1310 ++ y1313)) else (none))) else (none))))) else (none)) else ((some (([] : List (S_Item)) : List (S_Item))).bind fun y1320 => (if 0 ≤ x9 then (if x9 ≤ (x1307002.length : Int) then ((some (x1307002.drop (x9 : Int).toNat : List (S_Item))).bind fun y1323 => (if y1320.length + y1323.length < 2513169434916 then (spec_RowTrim.l0 k x1 x2 x1300000 x1300001 x1300002 (wrap64 ((wrap64 (x8 + 1)) * x1)) x1307001 (y1320 ++ y1323)) else (none))) else (none)) else (none)))
end
def spec_RowTrim.f (k : Nat) (a0_0 : Int) (a0_1 : Int) (l0_2 : List (S_Item)) (a1 : Int) (a2 : Int) : Option (Int × Int × (List (S_Item))) := (spec_l3Copy.f a0_0 a0_1 l0_2).bind fun bt1301 => (if a1 < 1 then (spec_RowTrim.j0 k a1 a2 true a0_0 a0_1 l0_2 bt1301.1 bt1301.2.1 bt1301.2.2) else (if a2 < 0 then (spec_RowTrim.j0 k a1 a2 true a0_0 a0_1 l0_2 bt1301.1 bt1301.2.1 bt1301.2.2) else ((spec_RowOk.f k a0_0 a0_1 l0_2).bind fun t1307 => (spec_RowTrim.j0 k a1 a2 (!t1307) a0_0 a0_1 l0_2 bt1301.1 bt1301.2.1 bt1301.2.2))))
theorem spec_RowTrim.mono_l : ∀ k, (∀ y0 y1 y2 y3 y4 y5 y6 y7 y8, LeO (spec_RowTrim.j0 k y0 y1 y2 y3 y4 y5 y6 y7 y8) (spec_RowTrim.j0 (k + 1) y0 y1 y2 y3 y4 y5 y6 y7 y8)) ∧ (∀ y0 y1 y2 y3 y4 y5 y6 y7, LeO (spec_RowTrim.l0 k y0 y1 y2 y3 y4 y5 y6 y7) (spec_RowTrim.l0 (k + 1) y0 y1 y2 y3 y4 y5 y6 y7)) ∧ (∀ y0 y1 y2 y3 y4 y5 y6 y7 y8 y9, LeO (spec_RowTrim.l1 k y0 y1 y2 y3 y4 y5 y6 y7 y8 y9) (spec_RowTrim.l1 (k + 1) y0 y1 y2 y3 y4 y5 y6 y7 y8 y9))
 | 0 => ⟨fun _ _ _ _ _ _ _ _ _ r h => by simp [spec_RowTrim.j0] at h, fun _ _ _ _ _ _ _ _ r h => by simp [spec_RowTrim.l0] at h, fun _ _ _ _ _ _ _ _ _ _ r h => by simp [spec_RowTrim.l1] at h⟩
 | k + 1 => by
  obtain ⟨ih0, ih1, ih2⟩ := spec_RowTrim.mono_l k
  refine ⟨?_, ?_, ?_⟩
  ·
   intro y0 y1 y2 y3 y4 y5 y6 y7 y8
   unfold spec_RowTrim.j0
   exact qdh2_
  ·
   intro y0 y1 y2 y3 y4 y5 y6 y7
   unfold spec_RowTrim.l0
   exact qdh2_
  ·
   intro y0 y1 y2 y3 y4 y5 y6 y7 y8 y9
   unfold spec_RowTrim.l1
   exact qdh2_
theorem spec_RowTrim.mono : ∀ a0 a1 a2 a3 a4 k, LeO (spec_RowTrim.f k a0 a1 a2 a3 a4) (spec_RowTrim.f (k + 1) a0 a1 a2 a3 a4) := by
 intro a0 a1 a2 a3 a4 k
 obtain ⟨ih0, ih1, ih2⟩ := spec_RowTrim.mono_l k
 unfold spec_RowTrim.f
 exact qdh2_
set_option maxHeartbeats 8000000 in
set_option maxRecDepth 100000 in
theorem spec_RowTrim.calls (k : Nat) (a0_0 : Int) (a0_1 : Int) (A0_2 : Option Addr) (c0_2 : Nat) (l0_2 : List (S_Item)) (a1 : Int) (a2 : Int) (r1 : Int) (r2 : Int) (r3 : List (S_Item)) (w : World) (hr0_2 : Kd.C k_Item w A0_2 l0_2.length l0_2) (hc0_2 : l0_2.length ≤ c0_2) (h : spec_RowTrim.f k a0_0 a0_1 l0_2 a1 a2 = some (r1, r2, r3)) :
 Calls Try.prog 48 #[.agg #[.int .i64 a0_0, .int .i64 a0_1, .slice A0_2 l0_2.length c0_2], .int .i64 a1, .int .i64 a2] w fun e w' => ∃ v2_ : Value, e = .returned (.agg #[.int .i64 r1, .int .i64 r2, v2_]) ∧ Kd.R k_Item 69 w' w.heap.size (fun _ => True) v2_ r3 ∧ Below w.heap.size w w' := by
 have hu57 := Try.underlying57
 have HR0_2 := Aside0.mk hr0_2
 have HC0_2 := Aside0.mk hc0_2
 clear hr0_2 hc0_2
 have HB := Aside0.mk (Below.refl w.heap.size w)
 have H : ((spec_l3Copy.f a0_0 a0_1 l0_2).bind fun bt1301 => (if a1 < 1 then (spec_RowTrim.j0 k a1 a2 true a0_0 a0_1 l0_2 bt1301.1 bt1301.2.1 bt1301.2.2) else (if a2 < 0 then (spec_RowTrim.j0 k a1 a2 true a0_0 a0_1 l0_2 bt1301.1 bt1301.2.1 bt1301.2.2) else ((spec_RowOk.f k a0_0 a0_1 l0_2).bind fun t1307 => (spec_RowTrim.j0 k a1 a2 (!t1307) a0_0 a0_1 l0_2 bt1301.1 bt1301.2.1 bt1301.2.2))))) = some (r1, r2, r3) := h
 clear h
 replace H := Option.bind_eq_some_iff.mp H
 obtain ⟨⟨t1301, t1302, t1303⟩, A40, H⟩ := H
 replace H : (if a1 < 1 then (spec_RowTrim.j0 k a1 a2 true a0_0 a0_1 l0_2 t1301 t1302 t1303) else (if a2 < 0 then (spec_RowTrim.j0 k a1 a2 true a0_0 a0_1 l0_2 t1301 t1302 t1303) else ((spec_RowOk.f k a0_0 a0_1 l0_2).bind fun t1307 => (spec_RowTrim.j0 k a1 a2 (!t1307) a0_0 a0_1 l0_2 t1301 t1302 t1303)))) = some (r1, r2, r3) := H
 have A4 := Aside0.mk A40
 clear A40
 have HC5 := Aside0.mk H
 clear H
 go_enter Try.func48, Try.ntmps48
 go_upto_region 2 with (first | ((with_reducible refine gate_dst (N := 3) rfl ?_); refine box_event ?hg (N := 3) ?hd (cs := #[.int .i64 a0_0, .int .i64 a0_1, .slice A0_2 l0_2.length c0_2]) (t := 57) ?hr ?_; (case hd => rfl); (case hg => rfl); (case hr => first | (go_simp; done) | (go_simp; rfl)); intro gb1299 hg w6 hbox hb; have BK1299 := Aside0.mk (hbox); have GW1299 := cz_ HB hg; have GE1299 := cz_ HB hg; replace HB := ch_ HB hb; clear hb hbox hg) | ((with_reducible refine gate_dst (N := 6) rfl ?_); refine box_event ?hg (N := 6) ?hd (cs := #[.int .i64 0, .int .i64 0, .slice none 0 0]) (t := 57) ?hr ?_; (case hd => rfl); (case hg => rfl); (case hr => first | (go_simp; done) | (go_simp; rfl)); intro gb1300 hg w7 hbox hb; have BK1300 := Aside0.mk (hbox); have GW1300 := cz_ HB hg; have GE1300 := cz_ HB hg; have NB1299_1300 := cn_ BK1299 hg; have NB1300_1299 := cm_ BK1299 hg; replace BK1299 := cb_ BK1299 hb; replace HB := ch_ HB hb; clear hb hbox hg; have hnb8 := NB1299_1300.out; have hnc8 := NB1300_1299.out; have hcz9_0 : w7.cell? ⟨gb1299, 0, none⟩ = some (.int .i64 a0_0) := bc_ BK1299 0; have hcz9_1 : w7.cell? ⟨gb1299, 1, none⟩ = some (.int .i64 a0_1) := bc_ BK1299 1; have hcz9_2 : w7.cell? ⟨gb1299, 2, none⟩ = some (.slice A0_2 l0_2.length c0_2) := bc_ BK1299 2; have hfz9_0 := blk_frozen BK1299.out 0; have hfz9_1 := blk_frozen BK1299.out 1; have hfz9_2 := blk_frozen BK1299.out 2) | ((with_reducible refine gate_callee (f := 95) rfl ?_); refine goesL_ (some 11) rfl rfl Try.func95 (by kernel_rfl) rfl #[.agg #[.int .i64 a0_0, .int .i64 a0_1, .slice A0_2 l0_2.length c0_2]] rfl sm_ ?_; (with_reducible refine (spec_l3Copy.calls a0_0 a0_1 _ _ l0_2 t1301 t1302 t1303 _ ?side1 ?side2 A4.out).mono ?_); (case side1 => repeat (first | exact (Kd.C_below HR0_2.out HB.out) | (with_reducible refine Kd.C_alloc ?_ _) | (with_reducible refine Kd.C_drewN ?_ _) | (with_reducible refine Kd.C_drew ?_))); (case side2 => exact HC0_2.out); rintro e w10 ⟨v1304, rfl, ho0, hb⟩; refine ⟨_, rfl, ?_⟩; have HO1305 := Aside0.mk (Kd.R_lower ho0 (below_size (hb_ HB.out))); replace BK1299 := cb_ BK1299 hb; replace BK1300 := cb_ BK1300 hb; replace HB := ch_ HB hb; (try clear hb); (try clear hb2); (try clear hk); (try clear hi); (try clear ho0)) | ((with_reducible refine gate_dst (N := 7) rfl ?_); refine box_event ?hg (N := 7) ?hd (cs := #[.int .i64 0, .int .i64 0, .slice none 0 0]) (t := 57) ?hr ?_; (case hd => rfl); (case hg => rfl); (case hr => first | (go_simp; done) | (go_simp; rfl)); intro gb1306 hg w11 hbox hb; have BK1306 := Aside0.mk (hbox); have GW1306 := cz_ HB hg; have GE1306 := cz_ HB hg; have NB1299_1306 := cn_ BK1299 hg; have NB1306_1299 := cm_ BK1299 hg; have NB1300_1306 := cn_ BK1300 hg; have NB1306_1300 := cm_ BK1300 hg; replace HO1305 := cr_ HO1305 hb; replace BK1299 := cb_ BK1299 hb; replace BK1300 := cb_ BK1300 hb; replace HB := ch_ HB hb; clear hb hbox hg; have hnb12 := NB1306_1299.out; have hnc12 := NB1299_1306.out; have hnb13 := NB1306_1300.out; have hnc13 := NB1300_1306.out; have hcz14_0 : w11.cell? ⟨gb1306, 0, none⟩ = some (.int .i64 0) := bc_ BK1306 0; have hcz14_1 : w11.cell? ⟨gb1306, 1, none⟩ = some (.int .i64 0) := bc_ BK1306 1; have hcz14_2 : w11.cell? ⟨gb1306, 2, none⟩ = some (.slice none 0 0) := bc_ BK1306 2; have hfz14_0 := blk_frozen BK1306.out 0; have hfz14_1 := blk_frozen BK1306.out 1; have hfz14_2 := blk_frozen BK1306.out 2; obtain ⟨Ao15, co15, eo15⟩ := Kd.R_slice HO1305.out; subst eo15))
 (try simp only [Act.put, List.setIfInBounds_toArray, List.set_cons_zero, List.set_cons_succ])
 go_cut [22] (fun v22 wc => ∃ (kq : Nat) (x22_4 : Bool), v22 = .bool x22_4 ∧ Aside0 (spec_RowTrim.j0 kq a1 a2 x22_4 a0_0 a0_1 l0_2 t1301 t1302 t1303 = some (r1, r2, r3)) ∧ Aside0 (kq ≤ k) ∧ Aside0 (Kd.R k_Item 69 wc w.heap.size (fun _ => True) (.slice Ao15 t1303.length co15) t1303) ∧ Aside0 (wc.heap[gb1299]? = some (.cells #[.int .i64 a0_0, .int .i64 a0_1, (.slice A0_2 l0_2.length c0_2)] 57 (0, 0))) ∧ Aside0 (wc.heap[gb1300]? = some (.cells #[.int .i64 0, .int .i64 0, (.slice none 0 0)] 57 (0, 0))) ∧ Aside0 (wc.heap[gb1306]? = some (.cells #[.int .i64 t1301, .int .i64 t1302, (.slice Ao15 t1303.length co15)] 57 (0, 0))) ∧ Aside0 (Below w.heap.size w wc))
 case first =>
  have H := HC5.out
  clear HC5
  by_cases c16 : a1 < 1
  ·
   rw [if_pos c16] at H
   have c16b0 : decide (a1 < 1) = true := decide_eq_true c16
   clear c16
   (first | rw [c16b0] | (simp only [i64_w, i32_w]; rw [c16b0]) | rw [c16b4] | rw [c16b3] | skip)
   have H' := Aside0.mk H
   clear H
   go_wp2
   go_meet
   case rel => exact ⟨_, (true), (qd15_), H', ⟨qd17_⟩, ⟨qd7_⟩, ⟨bf_ NB1299_1306.out BK1299.out⟩, ⟨bf_ NB1300_1306.out BK1300.out⟩, ⟨bp_ BK1306.out⟩, ⟨hb_ HB.out⟩⟩
  ·
   rw [if_neg c16] at H
   have c16b0 : decide (a1 < 1) = false := decide_eq_false c16
   clear c16
   (first | rw [c16b0] | (simp only [i64_w, i32_w]; rw [c16b0]) | rw [c16b4] | rw [c16b3] | skip)
   by_cases c17 : a2 < 0
   ·
    rw [if_pos c17] at H
    have c17b0 : decide (a2 < 0) = true := decide_eq_true c17
    clear c17
    have H' := Aside0.mk H
    clear H
    go_wp2
    go_meet
    case rel => exact ⟨_, (true), (qd15_), H', ⟨qd17_⟩, ⟨qd7_⟩, ⟨bf_ NB1299_1306.out BK1299.out⟩, ⟨bf_ NB1300_1306.out BK1300.out⟩, ⟨bp_ BK1306.out⟩, ⟨hb_ HB.out⟩⟩
   ·
    rw [if_neg c17] at H
    have c17b0 : decide (a2 < 0) = false := decide_eq_false c17
    clear c17
    replace H := Option.bind_eq_some_iff.mp H
    obtain ⟨t1307, A180, H⟩ := H
    replace H : (spec_RowTrim.j0 k a1 a2 (!t1307) a0_0 a0_1 l0_2 t1301 t1302 t1303) = some (r1, r2, r3) := H
    have A18 := Aside0.mk A180
    clear A180
    have H' := Aside0.mk H
    clear H
    have hnb19 := NB1299_1300.out
    have hnc19 := NB1300_1299.out
    have hnb20 := NB1299_1306.out
    have hnc20 := NB1306_1299.out
    have hcz21_0 : w11.cell? ⟨gb1299, 0, none⟩ = some (.int .i64 a0_0) := bc_ BK1299 0
    have hcz21_1 : w11.cell? ⟨gb1299, 1, none⟩ = some (.int .i64 a0_1) := bc_ BK1299 1
    have hcz21_2 : w11.cell? ⟨gb1299, 2, none⟩ = some (.slice A0_2 l0_2.length c0_2) := bc_ BK1299 2
    have hfz21_0 := blk_frozen BK1299.out 0
    have hfz21_1 := blk_frozen BK1299.out 1
    have hfz21_2 := blk_frozen BK1299.out 2
    go_wp2_with (first | (go_at_call 45; (with_reducible refine (spec_RowOk.calls k a0_0 a0_1 _ _ l0_2 t1307 _ ?side1 ?side2 A18.out).mono ?_); (case side1 => exact Kd.C_below HR0_2.out (hb_ HB.out)); (case side2 => exact HC0_2.out); rintro e w22 ⟨rfl, hb⟩; replace HO1305 := Aside0.mk (Kd.R_below (rk_ HO1305.out BK1306.out) hb); replace BK1299 := Aside0.mk (blk_below (g := gb1299) (o := .cells #[.int .i64 a0_0, .int .i64 a0_1, .slice A0_2 l0_2.length c0_2] 57 (0, 0)) (bf_ NB1299_1306.out BK1299.out) hb); replace BK1300 := Aside0.mk (blk_below (g := gb1300) (o := .cells #[.int .i64 0, .int .i64 0, .slice none 0 0] 57 (0, 0)) (bf_ NB1300_1306.out BK1300.out) hb); replace BK1306 := Aside0.mk (blk_below (g := gb1306) (o := .cells #[.int .i64 t1301, .int .i64 t1302, .slice Ao15 t1303.length co15] 57 (0, 0)) (bp_ BK1306.out) hb); replace HB := ch_ HB hb; (try clear hb); (try clear hb2); (try clear hk); (try clear hi)))
    go_meet
    case rel => exact ⟨_, (!t1307), (qd15_), H', ⟨qd17_⟩, ⟨rq_ HO1305.out⟩, ⟨bq_ BK1299.out⟩, ⟨bq_ BK1300.out⟩, ⟨bq_ BK1306.out⟩, ⟨hb_ HB.out⟩⟩
 case rest =>
  clear HC5
  (try clear hcz14_0); (try clear hcz14_1); (try clear hcz14_2); (try clear hcz9_0); (try clear hcz9_1); (try clear hcz9_2); (try clear hfz14_0); (try clear hfz14_1); (try clear hfz14_2); (try clear hfz9_0); (try clear hfz9_1); (try clear hfz9_2)
  obtain ⟨kq, x22_4, rfl, HA, HJ4, HO_1307002, BK1299, BK1300, BK1306, HB⟩ := hcut
  cases kq with
  | zero => exact absurd HA.out (by simp [spec_RowTrim.j0])
  | succ kj4 =>
   have H := HA.out
   clear HA
   simp only [spec_RowTrim.j0] at H
   by_cases c23 : x22_4 = true
   ·
    subst c23
    have H1 : (some (t1301, t1302, t1303)) = some (r1, r2, r3) := by rw [if_pos rfl] at H; exact H
    clear H
    have H := H1
    clear H1
    simp only [Option.some.injEq, Prod.mk.injEq] at H
    obtain ⟨rfl, rfl, rfl⟩ := H
    have hnb24 := NB1306_1299.out
    have hnc24 := NB1299_1306.out
    have hnb25 := NB1306_1300.out
    have hnc25 := NB1300_1306.out
    have hcz26_0 : wc.cell? ⟨gb1306, 0, none⟩ = some (.int .i64 t1301) := bc_ BK1306 0
    have hcz26_1 : wc.cell? ⟨gb1306, 1, none⟩ = some (.int .i64 t1302) := bc_ BK1306 1
    have hcz26_2 : wc.cell? ⟨gb1306, 2, none⟩ = some (.slice Ao15 t1303.length co15) := bc_ BK1306 2
    have hfz26_0 := blk_frozen BK1306.out 0
    have hfz26_1 := blk_frozen BK1306.out 1
    have hfz26_2 := blk_frozen BK1306.out 2
    have hnb27 := NB1300_1299.out
    have hnc27 := NB1299_1300.out
    have hcz28_0 : wc.cell? ⟨gb1300, 0, none⟩ = some (.int .i64 0) := bc_ BK1300 0
    have hcz28_1 : wc.cell? ⟨gb1300, 1, none⟩ = some (.int .i64 0) := bc_ BK1300 1
    have hcz28_2 : wc.cell? ⟨gb1300, 2, none⟩ = some (.slice none 0 0) := bc_ BK1300 2
    have hfz28_0 := blk_frozen BK1300.out 0
    have hfz28_1 := blk_frozen BK1300.out 1
    have hfz28_2 := blk_frozen BK1300.out 2
    go_wp2
    refine bodyPost_ret (results_cell_row rfl _ _ gb1300 57 #[.int .i64 t1301, .int .i64 t1302, .slice Ao15 t1303.length co15] (0, 0) _ rfl (bp_ BK1300.out) Try.underlying57 rfl (by kernel_rfl)) rfl ?_
    exact ⟨_, er_, by (with_reducible repeat (first | apply Kd.R_alloc | apply Kd.R_drewN | apply Kd.R_drew)); exact Kd.R_mono (Kd.R_far (p := ⟨gb1300, 2, none⟩) (Kd.R_far (p := ⟨gb1300, 1, none⟩) (Kd.R_far (p := ⟨gb1300, 0, none⟩) (Kd.R_types HO_1307002.out BK1300.out (by decide)) (fun _ hk => hk.2) (.int .i64 t1301)) (fun _ hk => hk.2) (.int .i64 t1302)) (fun _ hk => hk.2) (.slice Ao15 t1303.length co15)) (fun _ hk => trivial), hb_ HB.out⟩
   ·
    replace c23 := Bool.eq_false_iff.mpr c23
    subst c23
    have H1 : (spec_RowTrim.l0 kj4 a1 a2 a0_0 a0_1 l0_2 t1301 t1302 t1303) = some (r1, r2, r3) := by rw [if_neg (show ¬ (false = true) by decide)] at H; exact H
    clear H
    have H := H1
    clear H1
    have H' := Aside0.mk H
    clear H
    go_wp2
    go_loopg [] kj4 (fun kq w' => ∃ (x1301000_2 : Int) (x1301001_2 : Int) (x1307000_2 : Int) (x1307002_2 : List (S_Item)) (u1307002 : Value), Aside0 (spec_RowTrim.l0 kq a1 a2 a0_0 a0_1 l0_2 x1307000_2 t1302 x1307002_2 = some (r1, r2, r3)) ∧ Aside0 (kq ≤ kj4) ∧ Aside0 (Kd.R k_Item 69 w' w.heap.size (fun _ => True) u1307002 x1307002_2) ∧ Aside0 (w'.heap[gb1299]? = some (.cells #[.int .i64 a0_0, .int .i64 a0_1, (.slice A0_2 l0_2.length c0_2)] 57 (0, 0))) ∧ Aside0 (w'.heap[gb1300]? = some (.cells #[.int .i64 x1301000_2, .int .i64 x1301001_2, (.slice none 0 0)] 57 (0, 0))) ∧ Aside0 (w'.heap[gb1306]? = some (.cells #[.int .i64 x1307000_2, .int .i64 t1302, u1307002] 57 (0, 0))) ∧ Aside0 (Below w.heap.size w w'))
    case atStart => exact ⟨(0), (0), (t1301), (t1303), (.slice Ao15 t1303.length co15), H', ⟨Nat.le_refl _⟩, ⟨rq_ HO_1307002.out⟩, ⟨bq_ BK1299.out⟩, ⟨bq_ BK1300.out⟩, ⟨bq_ BK1306.out⟩, ⟨hb_ HB.out⟩⟩
    case round =>
     clear H'
     (try clear c23)
     obtain ⟨x1301000_2, x1301001_2, x1307000_2, x1307002_2, u1307002, HA, HK2, HO_1307002, BK1299, BK1300, BK1306, HB⟩ := hrel
     cases gk with
     | zero => exact absurd HA.out (by simp [spec_RowTrim.l0])
     | succ k2 =>
      have H := HA.out
      clear HA
      simp only [spec_RowTrim.l0] at H
      by_cases c29 : (x1307002_2.length : Int) > a2
      ·
       rw [if_pos c29] at H
       have c29b0 : decide (a2 < (x1307002_2.length : Int)) = true := decide_eq_true c29
       clear c29
       by_cases c30 : 0 < (x1307002_2.length : Int)
       ·
        rw [if_pos c30] at H
        have c30b0 : decide (0 < (x1307002_2.length : Int)) = true := decide_eq_true c30
        have c30b1 : decide (0 < x1307002_2.length) = true := decide_eq_true (by omega)
        clear c30
        by_cases c31 : a1 = 0
        ·
         rw [if_pos c31] at H
         exact absurd H (by simp)
        ·
         rw [if_neg c31] at H
         have c31b0 : (a1 == 0) = false := beq_eq_false_iff_ne.mpr c31
         have c31b1 : (a1 != 0) = true := bne_iff_ne.mpr c31
         by_cases c32 : (wrap64 (Int.tdiv ((rd_Item x1307002_2 0).f0) a1)) = (wrap64 (Int.tdiv (wrap64 (a0_1 - 1)) a1))
         ·
          rw [if_pos c32] at H
          have c32b0 : ((wrap64 (Int.tdiv ((rd_Item x1307002_2 0).f0) a1)) == (wrap64 (Int.tdiv (wrap64 (a0_1 - 1)) a1))) = true := beq_iff_eq.mpr c32
          have c32b1 : ((wrap64 (Int.tdiv ((rd_Item x1307002_2 0).f0) a1)) != (wrap64 (Int.tdiv (wrap64 (a0_1 - 1)) a1))) = false := bne_eq_false_iff_eq.mpr c32
          clear c32
          simp only [Option.some.injEq, Prod.mk.injEq] at H
          obtain ⟨rfl, rfl, rfl⟩ := H
          have hnb33 := NB1306_1299.out
          have hnc33 := NB1299_1306.out
          have hnb34 := NB1306_1300.out
          have hnc34 := NB1300_1306.out
          have hcz35_0 : wr.cell? ⟨gb1306, 0, none⟩ = some (.int .i64 x1307000_2) := bc_ BK1306 0
          have hcz35_1 : wr.cell? ⟨gb1306, 1, none⟩ = some (.int .i64 t1302) := bc_ BK1306 1
          have hcz35_2 : wr.cell? ⟨gb1306, 2, none⟩ = some (u1307002) := bc_ BK1306 2
          have hfz35_0 := blk_frozen BK1306.out 0
          have hfz35_1 := blk_frozen BK1306.out 1
          have hfz35_2 := blk_frozen BK1306.out 2
          obtain ⟨Ao36, co36, eo36⟩ := Kd.R_slice HO_1307002.out
          subst eo36
          have p1308 : 0 ≤ (0 : Int) := (by omega)
          have q1308 : 0 < (x1307002_2.length : Int) := of_decide_eq_true dt_
          obtain ⟨ad1308, e1308, hx1308_0, hx1308_1, hx1308_2, hx1308_3, hx1308_4⟩ := at_Item (Kd.R_reads' HO_1307002.out).2.2 0 p1308 q1308
          cases e1308
          have qi1308 : (0 < x1307002_2.length) = True := eq_true (by omega)
          (try rw [show ((0 : Int)).toNat = 0 from rfl] at hx1308_0)
          (try rw [show 0 * 5 = 0 from rfl] at hx1308_0)
          (try rw [Addr.add_zero'] at hx1308_0)
          (try rw [show ((0 : Int)).toNat = 0 from rfl] at hx1308_1)
          (try rw [show 0 * 5 = 0 from rfl] at hx1308_1)
          (try rw [Addr.add_zero'] at hx1308_1)
          (try rw [show ((0 : Int)).toNat = 0 from rfl] at hx1308_2)
          (try rw [show 0 * 5 = 0 from rfl] at hx1308_2)
          (try rw [Addr.add_zero'] at hx1308_2)
          (try rw [show ((0 : Int)).toNat = 0 from rfl] at hx1308_3)
          (try rw [show 0 * 5 = 0 from rfl] at hx1308_3)
          (try rw [Addr.add_zero'] at hx1308_3)
          (try rw [show ((0 : Int)).toNat = 0 from rfl] at hx1308_4)
          (try rw [show 0 * 5 = 0 from rfl] at hx1308_4)
          (try rw [Addr.add_zero'] at hx1308_4)
          replace p1308 := eq_true p1308
          replace q1308 := eq_true q1308
          have hnb37 := NB1299_1300.out
          have hnc37 := NB1300_1299.out
          have hcz38_0 : wr.cell? ⟨gb1299, 0, none⟩ = some (.int .i64 a0_0) := bc_ BK1299 0
          have hcz38_1 : wr.cell? ⟨gb1299, 1, none⟩ = some (.int .i64 a0_1) := bc_ BK1299 1
          have hcz38_2 : wr.cell? ⟨gb1299, 2, none⟩ = some (.slice A0_2 l0_2.length c0_2) := bc_ BK1299 2
          have hfz38_0 := blk_frozen BK1299.out 0
          have hfz38_1 := blk_frozen BK1299.out 1
          have hfz38_2 := blk_frozen BK1299.out 2
          have hcz39_0 : wr.cell? ⟨gb1300, 0, none⟩ = some (.int .i64 x1301000_2) := bc_ BK1300 0
          have hcz39_1 : wr.cell? ⟨gb1300, 1, none⟩ = some (.int .i64 x1301001_2) := bc_ BK1300 1
          have hcz39_2 : wr.cell? ⟨gb1300, 2, none⟩ = some (.slice none 0 0) := bc_ BK1300 2
          have hfz39_0 := blk_frozen BK1300.out 0
          have hfz39_1 := blk_frozen BK1300.out 1
          have hfz39_2 := blk_frozen BK1300.out 2
          go_wp2
          refine bodyPost_ret (results_cell_row rfl _ _ gb1300 57 #[.int .i64 x1307000_2, .int .i64 t1302, .slice (some ad1308) x1307002_2.length co36] (0, 0) _ rfl (bp_ BK1300.out) Try.underlying57 rfl (by kernel_rfl)) rfl ?_
          exact ⟨_, er_, by (with_reducible repeat (first | apply Kd.R_alloc | apply Kd.R_drewN | apply Kd.R_drew)); exact Kd.R_mono (Kd.R_far (p := ⟨gb1300, 2, none⟩) (Kd.R_far (p := ⟨gb1300, 1, none⟩) (Kd.R_far (p := ⟨gb1300, 0, none⟩) (Kd.R_types HO_1307002.out BK1300.out (by decide)) (fun _ hk => hk.2) (.int .i64 x1307000_2)) (fun _ hk => hk.2) (.int .i64 t1302)) (fun _ hk => hk.2) (.slice (some ad1308) x1307002_2.length co36)) (fun _ hk => trivial), hb_ HB.out⟩
         ·
          rw [if_neg c32] at H
          have c32b0 : ((wrap64 (Int.tdiv ((rd_Item x1307002_2 0).f0) a1)) == (wrap64 (Int.tdiv (wrap64 (a0_1 - 1)) a1))) = false := beq_eq_false_iff_ne.mpr c32
          have c32b1 : ((wrap64 (Int.tdiv ((rd_Item x1307002_2 0).f0) a1)) != (wrap64 (Int.tdiv (wrap64 (a0_1 - 1)) a1))) = true := bne_iff_ne.mpr c32
          have H' := Aside0.mk H
          clear H
          have hnb40 := NB1306_1299.out
          have hnc40 := NB1299_1306.out
          have hnb41 := NB1306_1300.out
          have hnc41 := NB1300_1306.out
          have hcz42_0 : wr.cell? ⟨gb1306, 0, none⟩ = some (.int .i64 x1307000_2) := bc_ BK1306 0
          have hcz42_1 : wr.cell? ⟨gb1306, 1, none⟩ = some (.int .i64 t1302) := bc_ BK1306 1
          have hcz42_2 : wr.cell? ⟨gb1306, 2, none⟩ = some (u1307002) := bc_ BK1306 2
          have hfz42_0 := blk_frozen BK1306.out 0
          have hfz42_1 := blk_frozen BK1306.out 1
          have hfz42_2 := blk_frozen BK1306.out 2
          obtain ⟨Ao43, co43, eo43⟩ := Kd.R_slice HO_1307002.out
          subst eo43
          have p1308 : 0 ≤ (0 : Int) := (by omega)
          have q1308 : 0 < (x1307002_2.length : Int) := of_decide_eq_true dt_
          obtain ⟨ad1308, e1308, hx1308_0, hx1308_1, hx1308_2, hx1308_3, hx1308_4⟩ := at_Item (Kd.R_reads' HO_1307002.out).2.2 0 p1308 q1308
          cases e1308
          have qi1308 : (0 < x1307002_2.length) = True := eq_true (by omega)
          (try rw [show ((0 : Int)).toNat = 0 from rfl] at hx1308_0)
          (try rw [show 0 * 5 = 0 from rfl] at hx1308_0)
          (try rw [Addr.add_zero'] at hx1308_0)
          (try rw [show ((0 : Int)).toNat = 0 from rfl] at hx1308_1)
          (try rw [show 0 * 5 = 0 from rfl] at hx1308_1)
          (try rw [Addr.add_zero'] at hx1308_1)
          (try rw [show ((0 : Int)).toNat = 0 from rfl] at hx1308_2)
          (try rw [show 0 * 5 = 0 from rfl] at hx1308_2)
          (try rw [Addr.add_zero'] at hx1308_2)
          (try rw [show ((0 : Int)).toNat = 0 from rfl] at hx1308_3)
          (try rw [show 0 * 5 = 0 from rfl] at hx1308_3)
          (try rw [Addr.add_zero'] at hx1308_3)
          (try rw [show ((0 : Int)).toNat = 0 from rfl] at hx1308_4)
          (try rw [show 0 * 5 = 0 from rfl] at hx1308_4)
          (try rw [Addr.add_zero'] at hx1308_4)
          replace p1308 := eq_true p1308
          replace q1308 := eq_true q1308
          have hnb44 := NB1299_1300.out
          have hnc44 := NB1300_1299.out
          have hcz45_0 : wr.cell? ⟨gb1299, 0, none⟩ = some (.int .i64 a0_0) := bc_ BK1299 0
          have hcz45_1 : wr.cell? ⟨gb1299, 1, none⟩ = some (.int .i64 a0_1) := bc_ BK1299 1
          have hcz45_2 : wr.cell? ⟨gb1299, 2, none⟩ = some (.slice A0_2 l0_2.length c0_2) := bc_ BK1299 2
          have hfz45_0 := blk_frozen BK1299.out 0
          have hfz45_1 := blk_frozen BK1299.out 1
          have hfz45_2 := blk_frozen BK1299.out 2
          go_wp2
          go_loopg [9] k2 (fun kq v9 w' => ∃ (x9_3 : Int), v9 = .int .i64 x9_3 ∧ Aside0 (spec_RowTrim.l1 kq a1 a2 (wrap64 (Int.tdiv ((rd_Item x1307002_2 0).f0) a1)) x9_3 a0_0 a0_1 l0_2 x1307000_2 t1302 x1307002_2 = some (r1, r2, r3)) ∧ Aside0 (kq ≤ k2) ∧ Aside0 (Kd.R k_Item 69 w' w.heap.size (fun _ => True) (.slice (some ad1308) x1307002_2.length co43) x1307002_2) ∧ Aside0 (w'.heap[gb1299]? = some (.cells #[.int .i64 a0_0, .int .i64 a0_1, (.slice A0_2 l0_2.length c0_2)] 57 (0, 0))) ∧ Aside0 (w'.heap[gb1300]? = some (.cells #[.int .i64 x1301000_2, .int .i64 x1301001_2, (.slice none 0 0)] 57 (0, 0))) ∧ Aside0 (w'.heap[gb1306]? = some (.cells #[.int .i64 x1307000_2, .int .i64 t1302, (.slice (some ad1308) x1307002_2.length co43)] 57 (0, 0))) ∧ Aside0 (Below w.heap.size w w'))
          case atStart => exact ⟨(0), (qd15_), H', ⟨Nat.le_refl _⟩, ⟨rq_ HO_1307002.out⟩, ⟨bq_ BK1299.out⟩, ⟨bq_ BK1300.out⟩, ⟨bq_ BK1306.out⟩, ⟨hb_ HB.out⟩⟩
          case round =>
           clear H'
           (try clear c29b0); (try clear c30b0); (try clear c30b1); (try clear c31); (try clear c31b0); (try clear c31b1); (try clear c32); (try clear c32b0); (try clear c32b1); (try clear hcz42_0); (try clear hcz42_1); (try clear hcz42_2); (try clear hcz45_0); (try clear hcz45_1); (try clear hcz45_2); (try clear hfz42_0); (try clear hfz42_1); (try clear hfz42_2); (try clear hfz45_0); (try clear hfz45_1); (try clear hfz45_2); (try clear hx1308_0); (try clear hx1308_1); (try clear hx1308_2); (try clear hx1308_3); (try clear hx1308_4); (try clear p1308); (try clear q1308)
           obtain ⟨x9_3, rfl, HA, HK3, HO_1307002, BK1299, BK1300, BK1306, HB⟩ := hrel
           cases gk with
           | zero => exact absurd HA.out (by simp [spec_RowTrim.l1])
           | succ k3 =>
            have H := HA.out
            clear HA
            simp only [spec_RowTrim.l1] at H
            by_cases c46 : x9_3 < (x1307002_2.length : Int)
            ·
             rw [if_pos c46] at H
             have c46b0 : decide (x9_3 < (x1307002_2.length : Int)) = true := decide_eq_true c46
             clear c46
             by_cases c47 : 0 ≤ x9_3
             ·
              rw [if_pos c47] at H
              have c47b0 : decide (0 ≤ x9_3) = true := decide_eq_true c47
              clear c47
              by_cases c48 : a1 = 0
              ·
               rw [if_pos c48] at H
               exact absurd H (by simp)
              ·
               rw [if_neg c48] at H
               have c48b0 : (a1 == 0) = false := beq_eq_false_iff_ne.mpr c48
               have c48b1 : (a1 != 0) = true := bne_iff_ne.mpr c48
               by_cases c49 : (wrap64 (Int.tdiv ((rd_Item x1307002_2 x9_3).f0) a1)) = (wrap64 (Int.tdiv ((rd_Item x1307002_2 0).f0) a1))
               ·
                rw [if_pos c49] at H
                have c49b0 : ((wrap64 (Int.tdiv ((rd_Item x1307002_2 x9_3).f0) a1)) == (wrap64 (Int.tdiv ((rd_Item x1307002_2 0).f0) a1))) = true := beq_iff_eq.mpr c49
                have c49b1 : ((wrap64 (Int.tdiv ((rd_Item x1307002_2 x9_3).f0) a1)) != (wrap64 (Int.tdiv ((rd_Item x1307002_2 0).f0) a1))) = false := bne_eq_false_iff_eq.mpr c49
                clear c49
                have H' := Aside0.mk H
                clear H
                have hnb50 := NB1306_1299.out
                have hnc50 := NB1299_1306.out
                have hnb51 := NB1306_1300.out
                have hnc51 := NB1300_1306.out
                have hcz52_0 : wr.cell? ⟨gb1306, 0, none⟩ = some (.int .i64 x1307000_2) := bc_ BK1306 0
                have hcz52_1 : wr.cell? ⟨gb1306, 1, none⟩ = some (.int .i64 t1302) := bc_ BK1306 1
                have hcz52_2 : wr.cell? ⟨gb1306, 2, none⟩ = some (.slice (some ad1308) x1307002_2.length co43) := bc_ BK1306 2
                have hfz52_0 := blk_frozen BK1306.out 0
                have hfz52_1 := blk_frozen BK1306.out 1
                have hfz52_2 := blk_frozen BK1306.out 2
                have p1309 : 0 ≤ (x9_3 : Int) := of_decide_eq_true dt_
                have q1309 : x9_3 < (x1307002_2.length : Int) := of_decide_eq_true dt_
                obtain ⟨ad1309, e1309, hx1309_0, hx1309_1, hx1309_2, hx1309_3, hx1309_4⟩ := at_Item (Kd.R_reads' HO_1307002.out).2.2 x9_3 p1309 q1309
                obtain rfl : ad1308 = ad1309 := (by injection e1309)
                replace p1309 := eq_true p1309
                replace q1309 := eq_true q1309
                go_wp2
                go_roundg k3
                case measure => have := HJ4.out; have := HK2.out; have := HK3.out; omega
                case rel => exact ⟨(wrap64 (x9_3 + 1)), (qd15_), H', ⟨qd18_⟩, ⟨rq_ HO_1307002.out⟩, ⟨bq_ BK1299.out⟩, ⟨bq_ BK1300.out⟩, ⟨bq_ BK1306.out⟩, ⟨hb_ HB.out⟩⟩
               ·
                rw [if_neg c49] at H
                have c49b0 : ((wrap64 (Int.tdiv ((rd_Item x1307002_2 x9_3).f0) a1)) == (wrap64 (Int.tdiv ((rd_Item x1307002_2 0).f0) a1))) = false := beq_eq_false_iff_ne.mpr c49
                have c49b1 : ((wrap64 (Int.tdiv ((rd_Item x1307002_2 x9_3).f0) a1)) != (wrap64 (Int.tdiv ((rd_Item x1307002_2 0).f0) a1))) = true := bne_iff_ne.mpr c49
                obtain ⟨y1310, hy1310⟩ : ∃ y_ : List (S_Item), y_ = (([] : List (S_Item))) := ⟨_, rfl⟩
                replace H : (if x9_3 ≤ (x1307002_2.length : Int) then ((some (x1307002_2.drop (x9_3 : Int).toNat : List (S_Item))).bind fun y1313 => (if y1310.length + y1313.length < 2513169434916 then (spec_RowTrim.l0 k3 a1 a2 a0_0 a0_1 l0_2 (wrap64 ((wrap64 ((wrap64 (Int.tdiv ((rd_Item x1307002_2 0).f0) a1)) + 1)) * a1)) t1302 (y1310 ++ y1313)) else (none))) else (none)) = some (r1, r2, r3) := by first | (rw [hy1310]; with_reducible exact H) | (have H2_ := (Option.bind_some _ _).symm.trans H; rw [hy1310]; with_reducible exact H2_) | (have H2_ := (Option.bind_some _ _).symm.trans H; with_reducible exact H2_) | with_reducible exact H | (rw [hy1310]; exact H) | exact H
                have Ny1310 := Aside0.mk hy1310
                clear hy1310
                have c53b0 := eq_true (of_decide_eq_true dt_ : 0 ≤ x9_3)
                by_cases c54 : x9_3 ≤ (x1307002_2.length : Int)
                ·
                 rw [if_pos c54] at H
                 have c54b0 := eq_true c54
                 have c54b1 : decide (x9_3 ≤ (x1307002_2.length : Int)) = true := decide_eq_true c54
                 clear c54
                 obtain ⟨y1313, hy1313⟩ : ∃ y_ : List (S_Item), y_ = (x1307002_2.drop (x9_3 : Int).toNat) := ⟨_, rfl⟩
                 replace H : (if y1310.length + y1313.length < 2513169434916 then (spec_RowTrim.l0 k3 a1 a2 a0_0 a0_1 l0_2 (wrap64 ((wrap64 ((wrap64 (Int.tdiv ((rd_Item x1307002_2 0).f0) a1)) + 1)) * a1)) t1302 (y1310 ++ y1313)) else (none)) = some (r1, r2, r3) := by first | (rw [hy1313]; with_reducible exact H) | (have H2_ := (Option.bind_some _ _).symm.trans H; rw [hy1313]; with_reducible exact H2_) | (have H2_ := (Option.bind_some _ _).symm.trans H; with_reducible exact H2_) | with_reducible exact H | (rw [hy1313]; exact H) | exact H
                 have Ny1313 := Aside0.mk hy1313
                 clear hy1313
                 by_cases c55 : y1310.length + y1313.length < 2513169434916
                 ·
                  rw [if_pos c55] at H
                  have LMc55 := Aside0.mk c55
                  clear c55
                  obtain ⟨y1317, hy1317⟩ : ∃ y_ : List (S_Item), y_ = (y1310 ++ y1313) := ⟨_, rfl⟩
                  replace H : (spec_RowTrim.l0 k3 a1 a2 a0_0 a0_1 l0_2 (wrap64 ((wrap64 ((wrap64 (Int.tdiv ((rd_Item x1307002_2 0).f0) a1)) + 1)) * a1)) t1302 y1317) = some (r1, r2, r3) := by first | (rw [hy1317]; with_reducible exact H) | (have H2_ := (Option.bind_some _ _).symm.trans H; rw [hy1317]; with_reducible exact H2_) | (have H2_ := (Option.bind_some _ _).symm.trans H; with_reducible exact H2_) | with_reducible exact H | (rw [hy1317]; exact H) | exact H
                  have Ny1317 := Aside0.mk hy1317
                  clear hy1317
                  have H' := Aside0.mk H
                  clear H
                  have hnb56 := NB1306_1299.out
                  have hnc56 := NB1299_1306.out
                  have hnb57 := NB1306_1300.out
                  have hnc57 := NB1300_1306.out
                  have hcz58_0 : wr.cell? ⟨gb1306, 0, none⟩ = some (.int .i64 x1307000_2) := bc_ BK1306 0
                  have hcz58_1 : wr.cell? ⟨gb1306, 1, none⟩ = some (.int .i64 t1302) := bc_ BK1306 1
                  have hcz58_2 : wr.cell? ⟨gb1306, 2, none⟩ = some (.slice (some ad1308) x1307002_2.length co43) := bc_ BK1306 2
                  have hfz58_0 := blk_frozen BK1306.out 0
                  have hfz58_1 := blk_frozen BK1306.out 1
                  have hfz58_2 := blk_frozen BK1306.out 2
                  have p1309 : 0 ≤ (x9_3 : Int) := of_decide_eq_true dt_
                  have q1309 : x9_3 < (x1307002_2.length : Int) := of_decide_eq_true dt_
                  obtain ⟨ad1309, e1309, hx1309_0, hx1309_1, hx1309_2, hx1309_3, hx1309_4⟩ := at_Item (Kd.R_reads' HO_1307002.out).2.2 x9_3 p1309 q1309
                  obtain rfl : ad1308 = ad1309 := (by injection e1309)
                  replace p1309 := eq_true p1309
                  replace q1309 := eq_true q1309
                  go_wp2_with (first | ((with_reducible refine gate_dst (N := 63) rfl ?_); refine Kd.R_lit k_Item _ 69 ?hg (N := 63) ?hd (xs := ([] : List (S_Item))) (inner := []) (ok := fun _ => True) (okp := fun _ => True) ?hr ?hp (fun _ hk => hk) trivial (Below.refl _ _) (Nat.le_refl _) (by simp) ?_; (case hd => rfl); (case hg => rfl); (case hr => first | (go_simp; done) | (go_simp; rfl)); (case hp => exact (Reps.none _ _)); intro v1311 w59 ho60 hb hg_ hnew_; clear hg_ hnew_; (first | rw [← Ny1310.out] at ho60 | (simp only [Int.reduceToNat] at ho60; rw [← Ny1310.out] at ho60)); have HO1312 := Aside0.mk (Kd.R_lower (Kd.R_new' ho60 (Kd.R_lt (rq_ HO_1307002.out))) (below_size (hb_ HB.out))); replace HO_1307002 := Aside0.mk (Kd.R_elder' (rq_ HO_1307002.out) (Kd.R_base ho60) hb); replace BK1299 := cb_ BK1299 hb; replace BK1300 := cb_ BK1300 hb; replace BK1306 := cb_ BK1306 hb; replace HB := ch_ HB hb; clear hb ho60; have hcz61_0 : w59.cell? ⟨gb1306, 0, none⟩ = some (.int .i64 x1307000_2) := bc_ BK1306 0; have hcz61_1 : w59.cell? ⟨gb1306, 1, none⟩ = some (.int .i64 t1302) := bc_ BK1306 1; have hcz61_2 : w59.cell? ⟨gb1306, 2, none⟩ = some (.slice (some ad1308) x1307002_2.length co43) := bc_ BK1306 2; have hfz61_0 := blk_frozen BK1306.out 0; have hfz61_1 := blk_frozen BK1306.out 1; have hfz61_2 := blk_frozen BK1306.out 2; have q62 : (x9_3 : Int) ≤ ((x1307002_2.length : Int) : Int) := of_decide_eq_true dt_; obtain ⟨i062, hi062, _, hsz62, _⟩ := info_parts info69; have hroom62 : x1307002_2.length ≤ co43 := (Kd.R_reads' HO_1307002.out).2.1; have hC62 : Kd.C k_Item _ (some ad1308) x1307002_2.length x1307002_2 := (Kd.R_reads' HO_1307002.out).2.2; have q062 : (0 : Int) ≤ (x9_3 : Int) := of_decide_eq_true dt_; have hcut62 := cut_from (P := Try.prog) 55 69 .i64 Try.underlying55 hi062 5 hsz62 (some ad1308) x1307002_2.length co43 x9_3 q062 q62; have hr62 := Kd.C_drop (m := (x9_3 : Int).toNat) (c := co43) hC62 (by omega) hroom62; obtain ⟨A62, hA62⟩ : ∃ A1, A1 = (if co43 = (x9_3 : Int).toNat then (some ad1308) else ((some ad1308) : Option Addr).map (·.add ((x9_3 : Int).toNat * 5))) := ⟨_, rfl⟩; obtain ⟨c62, hc62⟩ : ∃ c1, c1 = co43 - (x9_3 : Int).toNat := ⟨_, rfl⟩; have hy62 : y1313.length = x1307002_2.length - (x9_3 : Int).toNat := (by rw [Ny1313.out, List.length_drop] <;> omega); rw [show (x1307002_2).drop (x9_3 : Int).toNat = y1313 from Ny1313.out.symm] at hr62; replace hr62 : Kd.C k_Item _ A62 y1313.length y1313 := (by rw [hA62]; exact hr62); rw [← hy62, ← hA62, ← hc62] at hcut62; have HR1316 := Aside0.mk hr62; have HC1316 := Aside0.mk (show y1313.length ≤ c62 from by rw [hy62, hc62]; exact Nat.sub_le_sub_right hroom62 _); clear hr62 hC62 hroom62 hi062 hsz62 hc62; have KY62 := Aside0.mk hy62; have KA62 := Aside0.mk hA62; clear hy62 hA62; have KL62 := Aside0.mk (show (x9_3 : Int).toNat ≤ x1307002_2.length from by omega); replace q62 := eq_true q62) | ((with_reducible refine gate_builtin (b := .append) (xs := #[.tmp 63, .tmp 67]) rfl ?_); at_builtin; refine Kd.R_append_rows k_Item (w0 := w) w.heap.size rfl (.tmp 63) (.tmp 67) 55 69 (.agg #[(.int .i64 0), (.string ⟨#[]⟩), (.string ⟨#[]⟩), (.int .i64 0), (.int .i64 0)]) 56 rfl Try.underlying55 info69 rfl (by decide) (by omega) v1311 y1310 y1313 _ _ _ (fun k_ => some k_ ≠ (.slice (some ad1308) x1307002_2.length co43 : Value).ownBlock) (fun _ => False) rfl rfl ?aO ?aR (fun _ _ h => h) (fun _ h => h.elim) ?aF ?aB ?aS ?aL ?_; (case aR => repeat (first | exact (by repeat (first | (with_reducible exact HR1316.out) | (with_reducible refine Kd.C_alloc ?_ _) | (with_reducible refine Kd.C_drewN ?_ _) | (with_reducible refine Kd.C_drew ?_) | exact HR1316.out)) | (with_reducible refine Kd.C_alloc ?_ _) | (with_reducible refine Kd.C_drewN ?_ _) | (with_reducible refine Kd.C_drew ?_))); (case aB => exact (hb_ HB.out)); (case aF => exact (fun k_ hk => Kd.fresh' (Kd.R_lt (rq_ HO_1307002.out)) k_ hk)); (case aO => exact (rm_ HO1312.out)); (case aS => exact (below_size (hb_ HB.out))); (case aL => have := LMc55.out; omega); intro v1318 w63 ho hb hg hat; rw [← Ny1317.out] at ho; have HO1319 := Aside0.mk (ho); replace BK1299 := Aside0.mk (blk_grown (g := gb1299) (o := .cells #[.int .i64 a0_0, .int .i64 a0_1, .slice A0_2 l0_2.length c0_2] 57 (0, 0)) (bq_ BK1299.out) hg (Kd.R_ne HO1312.out BK1299.out (by decide))); replace BK1300 := Aside0.mk (blk_grown (g := gb1300) (o := .cells #[.int .i64 x1301000_2, .int .i64 x1301001_2, .slice none 0 0] 57 (0, 0)) (bq_ BK1300.out) hg (Kd.R_ne HO1312.out BK1300.out (by decide))); replace BK1306 := Aside0.mk (blk_grown (g := gb1306) (o := .cells #[.int .i64 x1307000_2, .int .i64 t1302, .slice (some ad1308) x1307002_2.length co43] 57 (0, 0)) (bq_ BK1306.out) hg (Kd.R_ne HO1312.out BK1306.out (by decide))); replace HB := Aside0.mk (hb); replace HR1316 := Aside0.mk ((show Kd.C k_Item w63 A62 y1313.length y1313 from by rw [Ny1313.out, KA62.out]; exact Kd.C_drop (m := (x9_3 : Int).toNat) (c := co43) ((Kd.R_reads' (Kd.R_after (ok := (fun _ => True)) (rq_ HO_1307002.out) hg hat)).2.2) KL62.out ((Kd.R_reads' (Kd.R_after (ok := (fun _ => True)) (rq_ HO_1307002.out) hg hat)).2.1))); replace HO_1307002 := Aside0.mk (Kd.R_after (ok := (fun _ => True)) (rq_ HO_1307002.out) hg hat); clear HO1312; clear ho hb hg hat; obtain ⟨Ao64, co64, eo64⟩ := Kd.R_slice HO1319.out; subst eo64; have hcz65_0 : w63.cell? ⟨gb1306, 0, none⟩ = some (.int .i64 x1307000_2) := bc_ BK1306 0; have hcz65_1 : w63.cell? ⟨gb1306, 1, none⟩ = some (.int .i64 t1302) := bc_ BK1306 1; have hcz65_2 : w63.cell? ⟨gb1306, 2, none⟩ = some (.slice (some ad1308) x1307002_2.length co43) := bc_ BK1306 2; have hfz65_0 := blk_frozen BK1306.out 0; have hfz65_1 := blk_frozen BK1306.out 1; have hfz65_2 := blk_frozen BK1306.out 2))
                  go_roundg k3
                  case measure => have := HJ4.out; have := HK2.out; have := HK3.out; omega
                  case rel => exact ⟨(x1301000_2), (x1301001_2), (wrap64 ((wrap64 ((wrap64 (Int.tdiv ((rd_Item x1307002_2 0).f0) a1)) + 1)) * a1)), (y1317), (.slice Ao64 y1317.length co64), H', ⟨qd18_⟩, ⟨by (with_reducible repeat (first | apply Kd.R_alloc | apply Kd.R_drewN | apply Kd.R_drew)); exact Kd.R_mono (Kd.R_far (p := ⟨gb1306, 0, none⟩) (Kd.R_far (p := ⟨gb1306, 2, none⟩) (Kd.R_types HO1319.out BK1306.out (by decide)) (fun _ hk => hk.2) (.slice Ao64 y1317.length co64)) (fun _ hk => hk.2) (.int .i64 (wrap64 ((wrap64 ((wrap64 (Int.tdiv ((rd_Item x1307002_2 0).f0) a1)) + 1)) * a1)))) (fun _ hk => trivial)⟩, ⟨bf_ NB1299_1306.out BK1299.out⟩, ⟨bf_ NB1300_1306.out BK1300.out⟩, ⟨bp_ BK1306.out⟩, ⟨hb_ HB.out⟩⟩
                 ·
                  rw [if_neg c55] at H
                  exact absurd H (by simp)
                ·
                 rw [if_neg c54] at H
                 exact absurd H (by simp)
             ·
              rw [if_neg c47] at H
              exact absurd H (by simp)
            ·
             rw [if_neg c46] at H
             have c46b0 : decide (x9_3 < (x1307002_2.length : Int)) = false := decide_eq_false c46
             clear c46
             obtain ⟨y1320, hy1320⟩ : ∃ y_ : List (S_Item), y_ = (([] : List (S_Item))) := ⟨_, rfl⟩
             replace H : (if 0 ≤ x9_3 then (if x9_3 ≤ (x1307002_2.length : Int) then ((some (x1307002_2.drop (x9_3 : Int).toNat : List (S_Item))).bind fun y1323 => (if y1320.length + y1323.length < 2513169434916 then (spec_RowTrim.l0 k3 a1 a2 a0_0 a0_1 l0_2 (wrap64 ((wrap64 ((wrap64 (Int.tdiv ((rd_Item x1307002_2 0).f0) a1)) + 1)) * a1)) t1302 (y1320 ++ y1323)) else (none))) else (none)) else (none)) = some (r1, r2, r3) := by first | (rw [hy1320]; with_reducible exact H) | (have H2_ := (Option.bind_some _ _).symm.trans H; rw [hy1320]; with_reducible exact H2_) | (have H2_ := (Option.bind_some _ _).symm.trans H; with_reducible exact H2_) | with_reducible exact H | (rw [hy1320]; exact H) | exact H
             have Ny1320 := Aside0.mk hy1320
             clear hy1320
             by_cases c66 : 0 ≤ x9_3
             ·
              rw [if_pos c66] at H
              have c66b0 := eq_true c66
              have c66b1 : decide (0 ≤ x9_3) = true := decide_eq_true c66
              clear c66
              by_cases c67 : x9_3 ≤ (x1307002_2.length : Int)
              ·
               rw [if_pos c67] at H
               have c67b0 := eq_true c67
               have c67b1 : decide (x9_3 ≤ (x1307002_2.length : Int)) = true := decide_eq_true c67
               clear c67
               obtain ⟨y1323, hy1323⟩ : ∃ y_ : List (S_Item), y_ = (x1307002_2.drop (x9_3 : Int).toNat) := ⟨_, rfl⟩
               replace H : (if y1320.length + y1323.length < 2513169434916 then (spec_RowTrim.l0 k3 a1 a2 a0_0 a0_1 l0_2 (wrap64 ((wrap64 ((wrap64 (Int.tdiv ((rd_Item x1307002_2 0).f0) a1)) + 1)) * a1)) t1302 (y1320 ++ y1323)) else (none)) = some (r1, r2, r3) := by first | (rw [hy1323]; with_reducible exact H) | (have H2_ := (Option.bind_some _ _).symm.trans H; rw [hy1323]; with_reducible exact H2_) | (have H2_ := (Option.bind_some _ _).symm.trans H; with_reducible exact H2_) | with_reducible exact H | (rw [hy1323]; exact H) | exact H
               have Ny1323 := Aside0.mk hy1323
               clear hy1323
               by_cases c68 : y1320.length + y1323.length < 2513169434916
               ·
                rw [if_pos c68] at H
                have LMc68 := Aside0.mk c68
                clear c68
                obtain ⟨y1327, hy1327⟩ : ∃ y_ : List (S_Item), y_ = (y1320 ++ y1323) := ⟨_, rfl⟩
                replace H : (spec_RowTrim.l0 k3 a1 a2 a0_0 a0_1 l0_2 (wrap64 ((wrap64 ((wrap64 (Int.tdiv ((rd_Item x1307002_2 0).f0) a1)) + 1)) * a1)) t1302 y1327) = some (r1, r2, r3) := by first | (rw [hy1327]; with_reducible exact H) | (have H2_ := (Option.bind_some _ _).symm.trans H; rw [hy1327]; with_reducible exact H2_) | (have H2_ := (Option.bind_some _ _).symm.trans H; with_reducible exact H2_) | with_reducible exact H | (rw [hy1327]; exact H) | exact H
                have Ny1327 := Aside0.mk hy1327
                clear hy1327
                have H' := Aside0.mk H
                clear H
                have hnb69 := NB1306_1299.out
                have hnc69 := NB1299_1306.out
                have hnb70 := NB1306_1300.out
                have hnc70 := NB1300_1306.out
                have hcz71_0 : wr.cell? ⟨gb1306, 0, none⟩ = some (.int .i64 x1307000_2) := bc_ BK1306 0
                have hcz71_1 : wr.cell? ⟨gb1306, 1, none⟩ = some (.int .i64 t1302) := bc_ BK1306 1
                have hcz71_2 : wr.cell? ⟨gb1306, 2, none⟩ = some (.slice (some ad1308) x1307002_2.length co43) := bc_ BK1306 2
                have hfz71_0 := blk_frozen BK1306.out 0
                have hfz71_1 := blk_frozen BK1306.out 1
                have hfz71_2 := blk_frozen BK1306.out 2
                go_wp2_with (first | ((with_reducible refine gate_dst (N := 63) rfl ?_); refine Kd.R_lit k_Item _ 69 ?hg (N := 63) ?hd (xs := ([] : List (S_Item))) (inner := []) (ok := fun _ => True) (okp := fun _ => True) ?hr ?hp (fun _ hk => hk) trivial (Below.refl _ _) (Nat.le_refl _) (by simp) ?_; (case hd => rfl); (case hg => rfl); (case hr => first | (go_simp; done) | (go_simp; rfl)); (case hp => exact (Reps.none _ _)); intro v1321 w72 ho73 hb hg_ hnew_; clear hg_ hnew_; (first | rw [← Ny1320.out] at ho73 | (simp only [Int.reduceToNat] at ho73; rw [← Ny1320.out] at ho73)); have HO1322 := Aside0.mk (Kd.R_lower (Kd.R_new' ho73 (Kd.R_lt (rq_ HO_1307002.out))) (below_size (hb_ HB.out))); replace HO_1307002 := Aside0.mk (Kd.R_elder' (rq_ HO_1307002.out) (Kd.R_base ho73) hb); replace BK1299 := cb_ BK1299 hb; replace BK1300 := cb_ BK1300 hb; replace BK1306 := cb_ BK1306 hb; replace HB := ch_ HB hb; clear hb ho73; have hcz74_0 : w72.cell? ⟨gb1306, 0, none⟩ = some (.int .i64 x1307000_2) := bc_ BK1306 0; have hcz74_1 : w72.cell? ⟨gb1306, 1, none⟩ = some (.int .i64 t1302) := bc_ BK1306 1; have hcz74_2 : w72.cell? ⟨gb1306, 2, none⟩ = some (.slice (some ad1308) x1307002_2.length co43) := bc_ BK1306 2; have hfz74_0 := blk_frozen BK1306.out 0; have hfz74_1 := blk_frozen BK1306.out 1; have hfz74_2 := blk_frozen BK1306.out 2; have q75 : (x9_3 : Int) ≤ ((x1307002_2.length : Int) : Int) := of_decide_eq_true dt_; obtain ⟨i075, hi075, _, hsz75, _⟩ := info_parts info69; have hroom75 : x1307002_2.length ≤ co43 := (Kd.R_reads' HO_1307002.out).2.1; have hC75 : Kd.C k_Item _ (some ad1308) x1307002_2.length x1307002_2 := (Kd.R_reads' HO_1307002.out).2.2; have q075 : (0 : Int) ≤ (x9_3 : Int) := of_decide_eq_true dt_; have hcut75 := cut_from (P := Try.prog) 55 69 .i64 Try.underlying55 hi075 5 hsz75 (some ad1308) x1307002_2.length co43 x9_3 q075 q75; have hr75 := Kd.C_drop (m := (x9_3 : Int).toNat) (c := co43) hC75 (by omega) hroom75; obtain ⟨A75, hA75⟩ : ∃ A1, A1 = (if co43 = (x9_3 : Int).toNat then (some ad1308) else ((some ad1308) : Option Addr).map (·.add ((x9_3 : Int).toNat * 5))) := ⟨_, rfl⟩; obtain ⟨c75, hc75⟩ : ∃ c1, c1 = co43 - (x9_3 : Int).toNat := ⟨_, rfl⟩; have hy75 : y1323.length = x1307002_2.length - (x9_3 : Int).toNat := (by rw [Ny1323.out, List.length_drop] <;> omega); rw [show (x1307002_2).drop (x9_3 : Int).toNat = y1323 from Ny1323.out.symm] at hr75; replace hr75 : Kd.C k_Item _ A75 y1323.length y1323 := (by rw [hA75]; exact hr75); rw [← hy75, ← hA75, ← hc75] at hcut75; have HR1326 := Aside0.mk hr75; have HC1326 := Aside0.mk (show y1323.length ≤ c75 from by rw [hy75, hc75]; exact Nat.sub_le_sub_right hroom75 _); clear hr75 hC75 hroom75 hi075 hsz75 hc75; have KY75 := Aside0.mk hy75; have KA75 := Aside0.mk hA75; clear hy75 hA75; have KL75 := Aside0.mk (show (x9_3 : Int).toNat ≤ x1307002_2.length from by omega); replace q75 := eq_true q75) | ((with_reducible refine gate_builtin (b := .append) (xs := #[.tmp 63, .tmp 67]) rfl ?_); at_builtin; refine Kd.R_append_rows k_Item (w0 := w) w.heap.size rfl (.tmp 63) (.tmp 67) 55 69 (.agg #[(.int .i64 0), (.string ⟨#[]⟩), (.string ⟨#[]⟩), (.int .i64 0), (.int .i64 0)]) 56 rfl Try.underlying55 info69 rfl (by decide) (by omega) v1321 y1320 y1323 _ _ _ (fun k_ => some k_ ≠ (.slice (some ad1308) x1307002_2.length co43 : Value).ownBlock) (fun _ => False) rfl rfl ?aO ?aR (fun _ _ h => h) (fun _ h => h.elim) ?aF ?aB ?aS ?aL ?_; (case aR => repeat (first | exact (by repeat (first | (with_reducible exact HR1326.out) | (with_reducible refine Kd.C_alloc ?_ _) | (with_reducible refine Kd.C_drewN ?_ _) | (with_reducible refine Kd.C_drew ?_) | exact HR1326.out)) | (with_reducible refine Kd.C_alloc ?_ _) | (with_reducible refine Kd.C_drewN ?_ _) | (with_reducible refine Kd.C_drew ?_))); (case aB => exact (hb_ HB.out)); (case aF => exact (fun k_ hk => Kd.fresh' (Kd.R_lt (rq_ HO_1307002.out)) k_ hk)); (case aO => exact (rm_ HO1322.out)); (case aS => exact (below_size (hb_ HB.out))); (case aL => have := LMc68.out; omega); intro v1328 w76 ho hb hg hat; rw [← Ny1327.out] at ho; have HO1329 := Aside0.mk (ho); replace BK1299 := Aside0.mk (blk_grown (g := gb1299) (o := .cells #[.int .i64 a0_0, .int .i64 a0_1, .slice A0_2 l0_2.length c0_2] 57 (0, 0)) (bq_ BK1299.out) hg (Kd.R_ne HO1322.out BK1299.out (by decide))); replace BK1300 := Aside0.mk (blk_grown (g := gb1300) (o := .cells #[.int .i64 x1301000_2, .int .i64 x1301001_2, .slice none 0 0] 57 (0, 0)) (bq_ BK1300.out) hg (Kd.R_ne HO1322.out BK1300.out (by decide))); replace BK1306 := Aside0.mk (blk_grown (g := gb1306) (o := .cells #[.int .i64 x1307000_2, .int .i64 t1302, .slice (some ad1308) x1307002_2.length co43] 57 (0, 0)) (bq_ BK1306.out) hg (Kd.R_ne HO1322.out BK1306.out (by decide))); replace HB := Aside0.mk (hb); replace HR1326 := Aside0.mk ((show Kd.C k_Item w76 A75 y1323.length y1323 from by rw [Ny1323.out, KA75.out]; exact Kd.C_drop (m := (x9_3 : Int).toNat) (c := co43) ((Kd.R_reads' (Kd.R_after (ok := (fun _ => True)) (rq_ HO_1307002.out) hg hat)).2.2) KL75.out ((Kd.R_reads' (Kd.R_after (ok := (fun _ => True)) (rq_ HO_1307002.out) hg hat)).2.1))); replace HO_1307002 := Aside0.mk (Kd.R_after (ok := (fun _ => True)) (rq_ HO_1307002.out) hg hat); clear HO1322; clear ho hb hg hat; obtain ⟨Ao77, co77, eo77⟩ := Kd.R_slice HO1329.out; subst eo77; have hcz78_0 : w76.cell? ⟨gb1306, 0, none⟩ = some (.int .i64 x1307000_2) := bc_ BK1306 0; have hcz78_1 : w76.cell? ⟨gb1306, 1, none⟩ = some (.int .i64 t1302) := bc_ BK1306 1; have hcz78_2 : w76.cell? ⟨gb1306, 2, none⟩ = some (.slice (some ad1308) x1307002_2.length co43) := bc_ BK1306 2; have hfz78_0 := blk_frozen BK1306.out 0; have hfz78_1 := blk_frozen BK1306.out 1; have hfz78_2 := blk_frozen BK1306.out 2))
                go_roundg k3
                case measure => have := HJ4.out; have := HK2.out; have := HK3.out; omega
                case rel => exact ⟨(x1301000_2), (x1301001_2), (wrap64 ((wrap64 ((wrap64 (Int.tdiv ((rd_Item x1307002_2 0).f0) a1)) + 1)) * a1)), (y1327), (.slice Ao77 y1327.length co77), H', ⟨qd18_⟩, ⟨by (with_reducible repeat (first | apply Kd.R_alloc | apply Kd.R_drewN | apply Kd.R_drew)); exact Kd.R_mono (Kd.R_far (p := ⟨gb1306, 0, none⟩) (Kd.R_far (p := ⟨gb1306, 2, none⟩) (Kd.R_types HO1329.out BK1306.out (by decide)) (fun _ hk => hk.2) (.slice Ao77 y1327.length co77)) (fun _ hk => hk.2) (.int .i64 (wrap64 ((wrap64 ((wrap64 (Int.tdiv ((rd_Item x1307002_2 0).f0) a1)) + 1)) * a1)))) (fun _ hk => trivial)⟩, ⟨bf_ NB1299_1306.out BK1299.out⟩, ⟨bf_ NB1300_1306.out BK1300.out⟩, ⟨bp_ BK1306.out⟩, ⟨hb_ HB.out⟩⟩
               ·
                rw [if_neg c68] at H
                exact absurd H (by simp)
              ·
               rw [if_neg c67] at H
               exact absurd H (by simp)
             ·
              rw [if_neg c66] at H
              exact absurd H (by simp)
       ·
        rw [if_neg c30] at H
        exact absurd H (by simp)
      ·
       rw [if_neg c29] at H
       have c29b0 : decide (a2 < (x1307002_2.length : Int)) = false := decide_eq_false c29
       clear c29
       simp only [Option.some.injEq, Prod.mk.injEq] at H
       obtain ⟨rfl, rfl, rfl⟩ := H
       have hnb79 := NB1306_1299.out
       have hnc79 := NB1299_1306.out
       have hnb80 := NB1306_1300.out
       have hnc80 := NB1300_1306.out
       have hcz81_0 : wr.cell? ⟨gb1306, 0, none⟩ = some (.int .i64 x1307000_2) := bc_ BK1306 0
       have hcz81_1 : wr.cell? ⟨gb1306, 1, none⟩ = some (.int .i64 t1302) := bc_ BK1306 1
       have hcz81_2 : wr.cell? ⟨gb1306, 2, none⟩ = some (u1307002) := bc_ BK1306 2
       have hfz81_0 := blk_frozen BK1306.out 0
       have hfz81_1 := blk_frozen BK1306.out 1
       have hfz81_2 := blk_frozen BK1306.out 2
       obtain ⟨Ao82, co82, eo82⟩ := Kd.R_slice HO_1307002.out
       subst eo82
       have hnb83 := NB1300_1299.out
       have hnc83 := NB1299_1300.out
       have hcz84_0 : wr.cell? ⟨gb1300, 0, none⟩ = some (.int .i64 x1301000_2) := bc_ BK1300 0
       have hcz84_1 : wr.cell? ⟨gb1300, 1, none⟩ = some (.int .i64 x1301001_2) := bc_ BK1300 1
       have hcz84_2 : wr.cell? ⟨gb1300, 2, none⟩ = some (.slice none 0 0) := bc_ BK1300 2
       have hfz84_0 := blk_frozen BK1300.out 0
       have hfz84_1 := blk_frozen BK1300.out 1
       have hfz84_2 := blk_frozen BK1300.out 2
       go_wp2
       refine bodyPost_ret (results_cell_row rfl _ _ gb1300 57 #[.int .i64 x1307000_2, .int .i64 t1302, .slice Ao82 x1307002_2.length co82] (0, 0) _ rfl (bp_ BK1300.out) Try.underlying57 rfl (by kernel_rfl)) rfl ?_
       exact ⟨_, er_, by (with_reducible repeat (first | apply Kd.R_alloc | apply Kd.R_drewN | apply Kd.R_drew)); exact Kd.R_mono (Kd.R_far (p := ⟨gb1300, 2, none⟩) (Kd.R_far (p := ⟨gb1300, 1, none⟩) (Kd.R_far (p := ⟨gb1300, 0, none⟩) (Kd.R_types HO_1307002.out BK1300.out (by decide)) (fun _ hk => hk.2) (.int .i64 x1307000_2)) (fun _ hk => hk.2) (.int .i64 t1302)) (fun _ hk => hk.2) (.slice Ao82 x1307002_2.length co82)) (fun _ hk => trivial), hb_ HB.out⟩
end Go.Proofs.Ytiknkolclcdajaa.Q
