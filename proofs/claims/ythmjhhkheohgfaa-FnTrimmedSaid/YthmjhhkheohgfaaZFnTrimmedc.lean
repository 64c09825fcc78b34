/- Made by a program of ours out of the print of the loaded functions: for each of some functions a plain function, and the walk that shows that a call comes to what it says. No condition but those of each theorem. -/
import Derived.Test.YthmjhhkheohgfaaZFnTrimmed0
import Derived.Test.YthmjhhkheohgfaaZFnTrimmeda
namespace Go.Proofs.Ythmjhhkheohgfaa.Q
open Go.RowKit Go.Proofs.YthmjhhkheohgfaaW.PrintWords Go.Proofs.YthmjhhkheohgfaaW.PrintLast Go.Proofs.YthmjhhkheohgfaaW.PrintMore
attribute [local go_sem] max2_int min2_int max_two min_two max_three min_three max_four min_four   -- for this text's walks alone
set_option linter.unusedVariables false
set_option linter.unusedSimpArgs false
theorem qc0_ {P : Prop} (h : P := by repeat (first | (with_reducible first | exact HB.out | apply below_alloc | apply pw_below_drewN | apply below_drew1) | exact HB.out)) : P := h
theorem qc1_ {P : Prop} (h : P := by first | rfl | (simp; done) | (simp [*]; done)) : P := h
theorem qc2_ {P : Prop} (h : P := by repeat (first | (with_reducible first | exact HB.out | apply below_alloc | apply pw_below_drewN | apply below_drew1 | refine below_set ?_ GE565.out | refine below_set ?_ GE566.out) | exact HB.out)) : P := h
theorem qc3_ {P : Prop} (h : P := by repeat (first | exact Drawn0.refl _ | apply Drawn0.step)) : P := h
theorem qc4_ {P : Prop} (h : P := by repeat (first | (with_reducible first | exact HB.out | apply below_alloc | apply pw_below_drewN | apply below_drew1 | refine below_set ?_ GE573.out) | exact HB.out)) : P := h
theorem qc5_ {P : Prop} (h : P := by first | rfl | (simp [errW_none, errW_some] <;> rfl) | (simp [*, errW_none, errW_some] <;> rfl)) : P := h
theorem qc6_ {P : Prop} (h : P := by (try simp only [List.map_toArray, List.map_cons, List.map_nil]); first | done | rfl | (simp only [List.length_drop, List.length_take]; rfl)) : P := h
theorem qc7_ {P : Prop} (h : P := by (with_reducible repeat (first | apply Kd.R_alloc | apply Kd.R_drewN | apply Kd.R_drew)); exact Kd.R_mono (Kd.R_far (p := ⟨gb593, 2, none⟩) (Kd.R_far (p := ⟨gb593, 1, none⟩) (Kd.R_far (p := ⟨gb593, 0, none⟩) (Kd.R_types HO592.out BK593.out (by decide)) (fun _ hk => hk.2) (.int .i64 t588)) (fun _ hk => hk.2) (.int .i64 t589)) (fun _ hk => hk.2) (.slice Ao15 t590.length co15)) (fun _ hk => trivial)) : P := h
theorem qc8_ {P : Prop} (h : P := by repeat (first | (with_reducible first | exact HB.out | apply below_alloc | apply pw_below_drewN | apply below_drew1 | refine below_set ?_ GE560.out | refine below_set ?_ GE561.out) | exact HB.out)) : P := h
theorem qc9_ {P : Prop} (h : P := by repeat (first | (with_reducible first | exact HB.out | apply below_alloc | apply pw_below_drewN | apply below_drew1 | refine below_set ?_ GE565.out) | exact HB.out)) : P := h
theorem qc10_ {P : Prop} (h : P := by repeat (first | (with_reducible first | exact HB.out | apply below_alloc | apply pw_below_drewN | apply below_drew1 | refine below_set ?_ GE560.out) | exact HB.out)) : P := h
theorem qc11_ {P : Prop} (h : P := by have := HK1.out; have := HJ3.out; first | omega | exact Nat.le_refl _) : P := h
theorem qc12_ {P : Prop} (h : P := by have := HJ4.out; have := HK2.out; have := HK3.out; omega) : P := h
theorem qch0_ {P : Prop} (h : P := by repeat' first | (with_reducible exact ih0 _ _) | (with_reducible exact LeO.refl _) | (with_reducible exact LeO.none _) | (with_reducible refine LeO.ite ?_ ?_) | (with_reducible refine LeO.bind ?_ (fun _ => ?_)) | exact ih0 _ _ | exact LeO.none _ | refine LeO.ite ?_ ?_ | refine LeO.bind ?_ (fun _ => ?_)) : P := h
theorem qch1_ {P : Prop} (h : P := by repeat' first | (with_reducible exact ih0 _ _ _) | (with_reducible exact ih1 _ _ _ _) | (with_reducible exact ih2 _ _ _ _) | (with_reducible exact ih3 _ _ _ _ _) | (with_reducible exact spec_l3Item.mono _ _ _ _ _ _) | (with_reducible exact LeO.refl _) | (with_reducible exact LeO.none _) | (with_reducible refine LeO.ite ?_ ?_) | (with_reducible refine LeO.bind ?_ (fun _ => ?_)) | exact ih0 _ _ _ | exact ih1 _ _ _ _ | exact ih2 _ _ _ _ | exact ih3 _ _ _ _ _ | exact spec_l3Item.mono _ _ _ _ _ _ | exact LeO.none _ | refine LeO.ite ?_ ?_ | refine LeO.bind ?_ (fun _ => ?_)) : P := h
theorem qch2_ {P : Prop} (h : P := by repeat' first | (with_reducible exact ih0 _ _ _ _ _ _ _ _ _) | (with_reducible exact ih1 _ _ _ _ _ _ _ _) | (with_reducible exact ih2 _ _ _ _ _ _ _ _ _ _) | (with_reducible exact spec_RowOk.mono _ _ _ _) | (with_reducible exact LeO.refl _) | (with_reducible exact LeO.none _) | (with_reducible refine LeO.ite ?_ ?_) | (with_reducible refine LeO.bind ?_ (fun _ => ?_)) | exact ih0 _ _ _ _ _ _ _ _ _ | exact ih1 _ _ _ _ _ _ _ _ | exact ih2 _ _ _ _ _ _ _ _ _ _ | exact spec_RowOk.mono _ _ _ _ | exact LeO.none _ | refine LeO.ite ?_ ?_ | refine LeO.bind ?_ (fun _ => ?_)) : P := h

/-! ### impl_copyRow: function 53 -/
def impl_copyRow.f (a0_0 : Int) (a0_1 : Int) (l0_2 : List (S_Item)) : Option (Int × Int × (List (S_Item))) := if ([] : List (S_Item)).length + l0_2.length < 2513169434916 then (some (a0_0, a0_1, (([] : List (S_Item)) ++ l0_2))) else (none)
set_option maxHeartbeats 8000000 in
set_option maxRecDepth 100000 in
theorem impl_copyRow.calls (a0_0 : Int) (a0_1 : Int) (A0_2 : Option Addr) (c0_2 : Nat) (l0_2 : List (S_Item)) (r1 : Int) (r2 : Int) (r3 : List (S_Item)) (w : World) (hr0_2 : Kd.C k_Item w A0_2 l0_2.length l0_2) (hc0_2 : l0_2.length ≤ c0_2) (h : impl_copyRow.f a0_0 a0_1 l0_2 = some (r1, r2, r3)) :
    Calls Try.prog 53 #[.agg #[.int .i64 a0_0, .int .i64 a0_1, .slice A0_2 l0_2.length c0_2]] w fun e w' => ∃ v2_ : Value, e = .returned (.agg #[.int .i64 r1, .int .i64 r2, v2_]) ∧ Kd.R k_Item 33 w' w.heap.size (fun _ => True) v2_ r3 ∧ Below w.heap.size w w' := by
  have hu26 := Try.underlying26
  have HR0_2 := Aside0.mk hr0_2
  have HC0_2 := Aside0.mk hc0_2
  clear hr0_2 hc0_2
  have HB := Aside0.mk (Below.refl w.heap.size w)
  have H : (if ([] : List (S_Item)).length + l0_2.length < 2513169434916 then (some (a0_0, a0_1, (([] : List (S_Item)) ++ l0_2))) else (none)) = some (r1, r2, r3) := h
  clear h
  by_cases c2 : ([] : List (S_Item)).length + l0_2.length < 2513169434916
  · rw [if_pos c2] at H
    have LMc2 := Aside0.mk c2
    clear c2
    obtain ⟨y562, hy562⟩ : ∃ y_ : List (S_Item), y_ = (([] : List (S_Item)) ++ l0_2) := ⟨_, rfl⟩
    replace H : (some (a0_0, a0_1, y562)) = some (r1, r2, r3) := by first | (rw [hy562]; with_reducible exact H) | (have H2_ := (Option.bind_some _ _).symm.trans H; rw [hy562]; with_reducible exact H2_) | (have H2_ := (Option.bind_some _ _).symm.trans H; with_reducible exact H2_) | with_reducible exact H | (rw [hy562]; exact H) | exact H
    have Ny562 := Aside0.mk hy562
    clear hy562
    simp only [Option.some.injEq, Prod.mk.injEq] at H
    obtain ⟨rfl, rfl, rfl⟩ := H
    go_enter Try.func53, Try.ntmps53
    go_wp2_with (first | ((with_reducible refine gate_dst (N := 1) rfl ?_); refine box_event ?hg (N := 1) ?hd (cs := #[.int .i64 a0_0, .int .i64 a0_1, .slice A0_2 l0_2.length c0_2]) (t := 26) ?hr ?_; (case hd => rfl); (case hg => rfl); (case hr => first | (go_simp; done) | (go_simp; rfl)); intro gb560 hg w3 hbox hb; have BK560 := Aside0.mk (hbox); have GW560 := Aside0.mk ((by rw [hg]; exact (below_size (qc0_)) : w.heap.size ≤ gb560)); have GE560 := Aside0.mk ((by rw [hg]; exact (below_size (qc0_)) : w.heap.size ≤ gb560)); replace HB := Aside0.mk (below_step (qc0_) hb); clear hb hbox hg) | ((with_reducible refine gate_dst (N := 2) rfl ?_); refine box_event ?hg (N := 2) ?hd (cs := #[.int .i64 0, .int .i64 0, .slice none 0 0]) (t := 26) ?hr ?_; (case hd => rfl); (case hg => rfl); (case hr => first | (go_simp; done) | (go_simp; rfl)); intro gb561 hg w4 hbox hb; have BK561 := Aside0.mk (hbox); have GW561 := Aside0.mk ((by rw [hg]; exact (below_size (qc10_)) : w.heap.size ≤ gb561)); have GE561 := Aside0.mk ((by rw [hg]; exact (below_size (qc10_)) : w.heap.size ≤ gb561)); have NB560_561 := Aside0.mk ((by rw [hg]; exact Nat.ne_of_lt (blk_lt (g := gb560) (o := .cells #[.int .i64 a0_0, .int .i64 a0_1, .slice A0_2 l0_2.length c0_2] 26 (0, 0)) (bq_ BK560.out)) : gb560 ≠ gb561)); have NB561_560 := Aside0.mk ((by rw [hg]; exact Nat.ne_of_gt (blk_lt (g := gb560) (o := .cells #[.int .i64 a0_0, .int .i64 a0_1, .slice A0_2 l0_2.length c0_2] 26 (0, 0)) (bq_ BK560.out)) : gb561 ≠ gb560)); replace BK560 := Aside0.mk (blk_below (g := gb560) (o := .cells #[.int .i64 a0_0, .int .i64 a0_1, .slice A0_2 l0_2.length c0_2] 26 (0, 0)) (bq_ BK560.out) hb); replace HB := Aside0.mk (below_step (qc10_) hb); clear hb hbox hg; have hnb5 := NB560_561.out; have hnc5 := NB561_560.out; have hcz6_0 : w4.cell? ⟨gb560, 0, none⟩ = some (.int .i64 a0_0) := bc_ BK560 0; have hcz6_1 : w4.cell? ⟨gb560, 1, none⟩ = some (.int .i64 a0_1) := bc_ BK560 1; have hcz6_2 : w4.cell? ⟨gb560, 2, none⟩ = some (.slice A0_2 l0_2.length c0_2) := bc_ BK560 2; have hfz6_0 := blk_frozen BK560.out 0; have hfz6_1 := blk_frozen BK560.out 1; have hfz6_2 := blk_frozen BK560.out 2) | ((with_reducible refine gate_builtin (b := .append) (xs := #[.const (.slice none 0 0), .tmp 4]) rfl ?_); at_builtin; refine Kd.R_append_rows k_Item (w0 := w) w.heap.size rfl (.const (.slice none 0 0)) (.tmp 4) 24 33 (.agg #[(.int .i64 0), (.string ⟨#[]⟩), (.string ⟨#[]⟩), (.int .i64 0), (.int .i64 0)]) 56 rfl Try.underlying24 info33 rfl (by decide) (by omega) (.slice none 0 0) ([] : List (S_Item)) l0_2 _ _ _ (fun _ => True) (fun _ => False) rfl rfl ?aO ?aR (fun _ _ h => h) (fun _ h => h.elim) ?aF ?aB ?aS ?aL ?_; (case aR => repeat (first | exact (Kd.C_below HR0_2.out HB.out) | (with_reducible refine Kd.C_alloc ?_ _) | (with_reducible refine Kd.C_drewN ?_ _) | (with_reducible refine Kd.C_drew ?_))); (case aB => exact (qc8_)); (case aF => exact (fun _ _ => trivial)); (case aO => exact ((Kd.R_nil _ _ _ _ (fun _ => True)))); (case aS => exact (below_size (qc8_))); (case aL => have := LMc2.out; omega); intro v563 w7 ho hb hg hat; rw [← Ny562.out] at ho; have HO564 := Aside0.mk (ho); replace BK560 := Aside0.mk (blk_grown (g := gb560) (o := .cells #[.int .i64 a0_0, .int .i64 a0_1, .slice A0_2 l0_2.length c0_2] 26 (0, 0)) (bq_ BK560.out) hg (by simp [Value.ownBlock])); replace BK561 := Aside0.mk (blk_grown (g := gb561) (o := .cells #[.int .i64 0, .int .i64 0, .slice none 0 0] 26 (0, 0)) (bq_ BK561.out) hg (by simp [Value.ownBlock])); replace HB := Aside0.mk (hb); clear ho hb hg hat; obtain ⟨Ao8, co8, eo8⟩ := Kd.R_slice HO564.out; subst eo8; have hcz9_0 : w7.cell? ⟨gb560, 0, none⟩ = some (.int .i64 a0_0) := bc_ BK560 0; have hcz9_1 : w7.cell? ⟨gb560, 1, none⟩ = some (.int .i64 a0_1) := bc_ BK560 1; have hcz9_2 : w7.cell? ⟨gb560, 2, none⟩ = some (.slice A0_2 l0_2.length c0_2) := bc_ BK560 2; have hfz9_0 := blk_frozen BK560.out 0; have hfz9_1 := blk_frozen BK560.out 1; have hfz9_2 := blk_frozen BK560.out 2; have hcz10_0 : w7.cell? ⟨gb561, 0, none⟩ = some (.int .i64 0) := bc_ BK561 0; have hcz10_1 : w7.cell? ⟨gb561, 1, none⟩ = some (.int .i64 0) := bc_ BK561 1; have hcz10_2 : w7.cell? ⟨gb561, 2, none⟩ = some (.slice none 0 0) := bc_ BK561 2; have hfz10_0 := blk_frozen BK561.out 0; have hfz10_1 := blk_frozen BK561.out 1; have hfz10_2 := blk_frozen BK561.out 2))
    refine bodyPost_ret (results_cell_row rfl _ _ gb561 26 #[.int .i64 a0_0, .int .i64 a0_1, .slice Ao8 y562.length co8] (0, 0) _ rfl (by_ BK561.out) Try.underlying26 rfl (by kernel_rfl)) rfl ?_
    exact ⟨_, qc5_, by (with_reducible repeat (first | apply Kd.R_alloc | apply Kd.R_drewN | apply Kd.R_drew)); exact Kd.R_mono (Kd.R_far (p := ⟨gb561, 2, none⟩) (Kd.R_far (p := ⟨gb561, 1, none⟩) (Kd.R_far (p := ⟨gb561, 0, none⟩) (Kd.R_far (p := ⟨gb560, 2, none⟩) (Kd.R_types (Kd.R_types HO564.out BK560.out (by decide)) BK561.out (by decide)) (fun _ hk => hk.1.2) (.slice Ao8 y562.length co8)) (fun _ hk => hk.2) (.int .i64 a0_0)) (fun _ hk => hk.2) (.int .i64 a0_1)) (fun _ hk => hk.2) (.slice Ao8 y562.length co8)) (fun _ hk => trivial), qc8_⟩
  · rw [if_neg c2] at H
    exact absurd H (by simp)

/-! ### spec_l3Copy: function 56 -/
def spec_l3Copy.f (a0_0 : Int) (a0_1 : Int) (l0_2 : List (S_Item)) : Option (Int × Int × (List (S_Item))) := (some (([] : List (S_Item)) : List (S_Item))).bind fun y567 => (if y567.length + l0_2.length < 2513169434916 then (some (a0_0, a0_1, (y567 ++ l0_2))) else (none))
def spec_l3Copy.T1 : Bool × List (List Nat × List Nat) := (true, [([], []), ([0], [0]), ([], []), ([2], [2]), ([], []), ([], []), ([5], [5]), ([4, 6], [4, 6]), ([1, 3, 7], [1, 3, 7]), ([8, 7, 0, 1, 2, 3, 4, 5, 6, 7, 8], [8])])
def spec_l3Copy.B1 : List Nat := [0, 1, 0, 4, 0, 0, 32, 112, 255, 511]
theorem spec_l3Copy.tab1 : rtab .any (opsOf Try.f56 1) = spec_l3Copy.T1 := by kernel_rfl
theorem spec_l3Copy.bits1 : waitsOk spec_l3Copy.T1.2 spec_l3Copy.B1 = true := by kernel_rfl
set_option maxHeartbeats 8000000 in
set_option maxRecDepth 100000 in
theorem spec_l3Copy.calls (a0_0 : Int) (a0_1 : Int) (A0_2 : Option Addr) (c0_2 : Nat) (l0_2 : List (S_Item)) (r1 : Int) (r2 : Int) (r3 : List (S_Item)) (w : World) (hr0_2 : Kd.C k_Item w A0_2 l0_2.length l0_2) (hc0_2 : l0_2.length ≤ c0_2) (h : spec_l3Copy.f a0_0 a0_1 l0_2 = some (r1, r2, r3)) :
    Calls Try.prog 56 #[.agg #[.int .i64 a0_0, .int .i64 a0_1, .slice A0_2 l0_2.length c0_2]] w fun e w' => ∃ v2_ : Value, e = .returned (.agg #[.int .i64 r1, .int .i64 r2, v2_]) ∧ Kd.R k_Item 33 w' w.heap.size (fun _ => True) v2_ r3 ∧ Below w.heap.size w w' := by
  have hu26 := Try.underlying26
  have HR0_2 := Aside0.mk hr0_2
  have HC0_2 := Aside0.mk hc0_2
  clear hr0_2 hc0_2
  have HB := Aside0.mk (Below.refl w.heap.size w)
  have H : ((some (([] : List (S_Item)) : List (S_Item))).bind fun y567 => (if y567.length + l0_2.length < 2513169434916 then (some (a0_0, a0_1, (y567 ++ l0_2))) else (none))) = some (r1, r2, r3) := h
  clear h
  obtain ⟨y567, hy567⟩ : ∃ y_ : List (S_Item), y_ = (([] : List (S_Item))) := ⟨_, rfl⟩
  replace H : (if y567.length + l0_2.length < 2513169434916 then (some (a0_0, a0_1, (y567 ++ l0_2))) else (none)) = some (r1, r2, r3) := by first | (rw [hy567]; with_reducible exact H) | (have H2_ := (Option.bind_some _ _).symm.trans H; rw [hy567]; with_reducible exact H2_) | (have H2_ := (Option.bind_some _ _).symm.trans H; with_reducible exact H2_) | with_reducible exact H | (rw [hy567]; exact H) | exact H
  have Ny567 := Aside0.mk hy567
  clear hy567
  by_cases c2 : y567.length + l0_2.length < 2513169434916
  · rw [if_pos c2] at H
    have LMc2 := Aside0.mk c2
    clear c2
    obtain ⟨y570, hy570⟩ : ∃ y_ : List (S_Item), y_ = (y567 ++ l0_2) := ⟨_, rfl⟩
    replace H : (some (a0_0, a0_1, y570)) = some (r1, r2, r3) := by first | (rw [hy570]; with_reducible exact H) | (have H2_ := (Option.bind_some _ _).symm.trans H; rw [hy570]; with_reducible exact H2_) | (have H2_ := (Option.bind_some _ _).symm.trans H; with_reducible exact H2_) | with_reducible exact H | (rw [hy570]; exact H) | exact H
    have Ny570 := Aside0.mk hy570
    clear hy570
    simp only [Option.some.injEq, Prod.mk.injEq] at H
    obtain ⟨rfl, rfl, rfl⟩ := H
    go_enter Try.func56, Try.ntmps56
    try go_wp2_with (first | ((with_reducible refine gate_dst (N := 1) rfl ?_); refine box_event ?hg (N := 1) ?hd (cs := #[.int .i64 a0_0, .int .i64 a0_1, .slice A0_2 l0_2.length c0_2]) (t := 26) ?hr ?_; (case hd => rfl); (case hg => rfl); (case hr => first | (go_simp; done) | (go_simp; rfl)); intro gb565 hg w3 hbox hb; have BK565 := Aside0.mk (hbox); have GW565 := Aside0.mk ((by rw [hg]; exact (below_size (qc0_)) : w.heap.size ≤ gb565)); have GE565 := Aside0.mk ((by rw [hg]; exact (below_size (qc0_)) : w.heap.size ≤ gb565)); replace HB := Aside0.mk (below_step (qc0_) hb); clear hb hbox hg) | ((with_reducible refine gate_dst (N := 2) rfl ?_); refine box_event ?hg (N := 2) ?hd (cs := #[.int .i64 0, .int .i64 0, .slice none 0 0]) (t := 26) ?hr ?_; (case hd => rfl); (case hg => rfl); (case hr => first | (go_simp; done) | (go_simp; rfl)); intro gb566 hg w4 hbox hb; have BK566 := Aside0.mk (hbox); have GW566 := Aside0.mk ((by rw [hg]; exact (below_size (qc9_)) : w.heap.size ≤ gb566)); have GE566 := Aside0.mk ((by rw [hg]; exact (below_size (qc9_)) : w.heap.size ≤ gb566)); have NB565_566 := Aside0.mk ((by rw [hg]; exact Nat.ne_of_lt (blk_lt (g := gb565) (o := .cells #[.int .i64 a0_0, .int .i64 a0_1, .slice A0_2 l0_2.length c0_2] 26 (0, 0)) (bq_ BK565.out)) : gb565 ≠ gb566)); have NB566_565 := Aside0.mk ((by rw [hg]; exact Nat.ne_of_gt (blk_lt (g := gb565) (o := .cells #[.int .i64 a0_0, .int .i64 a0_1, .slice A0_2 l0_2.length c0_2] 26 (0, 0)) (bq_ BK565.out)) : gb566 ≠ gb565)); replace BK565 := Aside0.mk (blk_below (g := gb565) (o := .cells #[.int .i64 a0_0, .int .i64 a0_1, .slice A0_2 l0_2.length c0_2] 26 (0, 0)) (bq_ BK565.out) hb); replace HB := Aside0.mk (below_step (qc9_) hb); clear hb hbox hg))
    replace BK565 := Aside0.mk (blk_drew BK565.out)
    replace BK566 := Aside0.mk (blk_drew BK566.out)
    replace HB := Aside0.mk (below_drew1 HB.out)
    refine start_ (n := 10) (S := fun w' => w'.cell? ⟨gb565, 0, none⟩ = some (.int .i64 a0_0) ∧ w'.cell? ⟨gb565, 1, none⟩ = some (.int .i64 a0_1) ∧ w'.cell? ⟨gb565, 2, none⟩ = some (.slice A0_2 l0_2.length c0_2)) (ds := []) #[false, false, false, false, false, false, false, false, false, false] (by kernel_rfl) rfl rfl ⟨bc_ BK565 0, bc_ BK565 1, bc_ BK565 2⟩ (fun hHeld => ?_); refine with_tabW spec_l3Copy.tab1 spec_l3Copy.bits1 (fun HT_ HW_ => ?_)
    generalize w4.drew = w5 at BK565 BK566 HB hHeld ⊢
    refine pure_ (i := 0) (N := some 3) (v := ?_) (a' := ?_) #[true, false, false, false, false, false, false, false, false, false] rfl rfl (any_of HT_.out (by kernel_rfl)) (fun _ _ _ h => h) (Or.inl ⟨by rfl, ?_⟩) ?_ ?_
    rotate_left
    · intro w'
      go_simp
      with_reducible rfl
    rotate_left
    · simp only [Act.put, List.setIfInBounds_toArray, List.set_cons_zero, List.set_cons_succ, i64_w, i32_w]
      rfl
    refine pure_ (i := 2) (N := some 5) (v := ?_) (a' := ?_) #[true, false, true, false, false, false, false, false, false, false] rfl rfl (any_of HT_.out (by kernel_rfl)) (fun _ _ _ h => h) (Or.inl ⟨by rfl, ?_⟩) ?_ ?_
    rotate_left
    · intro w'
      go_simp
      with_reducible rfl
    rotate_left
    · simp only [Act.put, List.setIfInBounds_toArray, List.set_cons_zero, List.set_cons_succ, i64_w, i32_w]
      rfl
    refine pure_ (i := 5) (N := some 8) (v := ?_) (a' := ?_) #[true, false, true, false, false, true, false, false, false, false] rfl rfl (any_of HT_.out (by kernel_rfl)) (fun _ _ _ h => h) (Or.inl ⟨by rfl, ?_⟩) ?_ ?_
    rotate_left
    · intro w'
      go_simp
      with_reducible rfl
    rotate_left
    · simp only [Act.put, List.setIfInBounds_toArray, List.set_cons_zero, List.set_cons_succ, i64_w, i32_w]
      rfl
    refine take_ (i := 1) (N := some 4) (v := ?_) (a' := ?_) #[true, true, true, false, false, true, false, false, false, false] rfl rfl (take_ofW HT_.out HW_.out (by kernel_rfl)) (fun _ _ _ h => h) (Or.inl ⟨by rfl, ?_⟩) hHeld ?_ ?_
    rotate_left
    · rintro w' ⟨s0, s1, s2⟩
      go_simp
      with_reducible rfl
    rotate_left
    · simp only [Act.put, List.setIfInBounds_toArray, List.set_cons_zero, List.set_cons_succ, i64_w, i32_w]
      rfl
    refine take_ (i := 3) (N := some 6) (v := ?_) (a' := ?_) #[true, true, true, true, false, true, false, false, false, false] rfl rfl (take_ofW HT_.out HW_.out (by kernel_rfl)) (fun _ _ _ h => h) (Or.inl ⟨by rfl, ?_⟩) hHeld ?_ ?_
    rotate_left
    · rintro w' ⟨s0, s1, s2⟩
      go_simp
      with_reducible rfl
    rotate_left
    · simp only [Act.put, List.setIfInBounds_toArray, List.set_cons_zero, List.set_cons_succ, i64_w, i32_w]
      rfl
    refine take_ (i := 6) (N := some 9) (v := ?_) (a' := ?_) #[true, true, true, true, false, true, true, false, false, false] rfl rfl (take_ofW HT_.out HW_.out (by kernel_rfl)) (fun _ _ _ h => h) (Or.inl ⟨by rfl, ?_⟩) hHeld ?_ ?_
    rotate_left
    · rintro w' ⟨s0, s1, s2⟩
      go_simp
      with_reducible rfl
    rotate_left
    · simp only [Act.put, List.setIfInBounds_toArray, List.set_cons_zero, List.set_cons_succ, i64_w, i32_w]
      rfl
    refine on_ 4 7 HT_ #[true, true, true, true, true, true, true, false, false, false] rfl rfl (fun K hK => ?_)
    refine Kd.R_lit_step k_Item _ 33 ?hg (N := 7) ?hd (xs := ([] : List (S_Item))) (inner := []) (ok := fun _ => True) (okp := fun _ => True) ?hr ?hp (fun _ hk => hk) trivial (Below.refl _ _) (Nat.le_refl _) (by simp) ?_; (case hd => rfl); (case hg => rfl); (case hr => first | (go_simp; done) | (go_simp; rfl)); (case hp => exact (Reps.none _ _))
    intro v568 w6 ho7 hb hg_ hnew_
    clear hg_ hnew_
    (first | rw [← Ny567.out] at ho7 | (simp only [Int.reduceToNat] at ho7; rw [← Ny567.out] at ho7))
    have HO569 := Aside0.mk (Kd.R_lower ho7 (below_size (qc2_)))
    replace BK565 := Aside0.mk (blk_below (g := gb565) (o := .cells #[.int .i64 a0_0, .int .i64 a0_1, .slice A0_2 l0_2.length c0_2] 26 (0, 0)) (bq_ BK565.out) hb)
    replace BK566 := Aside0.mk (blk_below (g := gb566) (o := .cells #[.int .i64 0, .int .i64 0, .slice none 0 0] 26 (0, 0)) (bq_ BK566.out) hb)
    replace HB := Aside0.mk (below_step (qc2_) hb)
    clear hb ho7
    refine hK.out _ _ ⟨bc_ BK565 0, bc_ BK565 1, bc_ BK565 2⟩ (fun hHeld => ?_)
    clear hK K
    refine norm_ (a' := ?_) ?_ ?_
    rotate_left
    · show Act.put _ (some 7) _ = _
      simp only [Act.put, List.setIfInBounds_toArray, List.set_cons_zero, List.set_cons_succ, i64_w, i32_w]
      rfl
    refine on_ 7 10 HT_ #[true, true, true, true, true, true, true, true, false, false] rfl rfl (fun K hK => ?_)
    refine Kd.R_append_rows_step k_Item (w0 := w) w.heap.size (by rfl) (.tmp 7) (.tmp 9) 24 33 (.agg #[(.int .i64 0), (.string ⟨#[]⟩), (.string ⟨#[]⟩), (.int .i64 0), (.int .i64 0)]) 56 rfl Try.underlying24 info33 rfl (by decide) (by omega) v568 y567 l0_2 _ _ _ (fun _ => True) (fun _ => False) rfl rfl ?aO ?aR (fun _ _ h => h) (fun _ h => h.elim) ?aF ?aB ?aS ?aL ?_
    (case aR => repeat (first | exact (Kd.C_below HR0_2.out HB.out) | (with_reducible refine Kd.C_alloc ?_ _) | (with_reducible refine Kd.C_drewN ?_ _) | (with_reducible refine Kd.C_drew ?_)))
    (case aB => exact (qc2_))
    (case aF => exact (fun _ _ => trivial))
    (case aO => exact (by (with_reducible repeat (first | apply Kd.R_alloc | apply Kd.R_drewN | apply Kd.R_drew)); exact HO569.out))
    (case aS => exact (below_size (qc2_)))
    (case aL => have := LMc2.out; omega)
    intro v571 w8 ho hb hg hat
    rw [← Ny570.out] at ho
    have HO572 := Aside0.mk (ho)
    replace BK565 := Aside0.mk (blk_grown (g := gb565) (o := .cells #[.int .i64 a0_0, .int .i64 a0_1, .slice A0_2 l0_2.length c0_2] 26 (0, 0)) (bq_ BK565.out) hg (Kd.R_ne HO569.out BK565.out (by decide)))
    replace BK566 := Aside0.mk (blk_grown (g := gb566) (o := .cells #[.int .i64 0, .int .i64 0, .slice none 0 0] 26 (0, 0)) (bq_ BK566.out) hg (Kd.R_ne HO569.out BK566.out (by decide)))
    replace HB := Aside0.mk (hb)
    clear HO569
    clear ho hb hg hat
    obtain ⟨Ao9, co9, eo9⟩ := Kd.R_slice HO572.out
    (first | subst eo9 | (injection eo9 with f1_ f2_ f3_; have f4_ := f1_.symm; have f5_ := f3_.symm; clear f1_ f2_ f3_; subst f4_; subst f5_))
    refine hK.out _ _ ⟨bc_ BK565 0, bc_ BK565 1, bc_ BK565 2⟩ (fun hHeld => ?_)
    clear hK K
    refine norm_ (a' := ?_) ?_ ?_
    rotate_left
    · show Act.put _ (some 10) _ = _
      simp only [Act.put, List.setIfInBounds_toArray, List.set_cons_zero, List.set_cons_succ, i64_w, i32_w]
      rfl
    refine pure_ (i := 8) (N := some 11) (v := ?_) (a' := ?_) #[true, true, true, true, true, true, true, true, true, false] rfl rfl (any_of HT_.out (by kernel_rfl)) (fun _ _ _ h => h) (Or.inl ⟨by rfl, ?_⟩) ?_ ?_
    rotate_left
    · intro w'
      go_simp
      with_reducible rfl
    rotate_left
    · simp only [Act.put, List.setIfInBounds_toArray, List.set_cons_zero, List.set_cons_succ, i64_w, i32_w]
      rfl
    refine one_ (i := 9) (N := none) #[true, true, true, true, true, true, true, true, true, true] rfl rfl (one_of HT_.out (by kernel_rfl)) (by decide) (fun K hK => ?_)
    have hs10 : w8.cell? ⟨gb566, 0, none⟩ = some (.int .i64 0) := bc_ BK566 0
    have hfs10 := blk_frozen BK566.out 0
    have hns10_0 := NB565_566.out
    have hms10_0 := NB566_565.out
    have hs11 : w8.cell? ⟨gb566, 1, none⟩ = some (.int .i64 0) := bc_ BK566 1
    have hfs11 := blk_frozen BK566.out 1
    have hns11_0 := NB565_566.out
    have hms11_0 := NB566_565.out
    have hs12 : w8.cell? ⟨gb566, 2, none⟩ = some (.slice none 0 0) := bc_ BK566 2
    have hfs12 := blk_frozen BK566.out 2
    have hns12_0 := NB565_566.out
    have hms12_0 := NB566_565.out
    refine skip_ (w1 := ?_) (by rfl) rfl ?_ ?_
    rotate_left
    · go_simp
      rfl
    refine hK.out _ _ ⟨(cfs_ NB565_566.out (hHeld.1)), (cfs_ NB565_566.out (hHeld.2.1)), (cfs_ NB565_566.out (hHeld.2.2))⟩ (fun hHeld => ?_)
    clear hK K
    refine done_ (done_of HT_.out (by kernel_rfl)) ?_
    try go_wp2
    refine bodyPost_ret (results_cell_row rfl _ _ gb566 26 #[.int .i64 a0_0, .int .i64 a0_1, .slice Ao9 y570.length co9] (0, 0) _ rfl (bp_ BK566.out) Try.underlying26 rfl (by kernel_rfl)) rfl ?_
    exact ⟨_, qc5_, by (with_reducible repeat (first | apply Kd.R_alloc | apply Kd.R_drewN | apply Kd.R_drew)); exact Kd.R_mono (Kd.R_far (p := ⟨gb566, 2, none⟩) (Kd.R_far (p := ⟨gb566, 1, none⟩) (Kd.R_far (p := ⟨gb566, 0, none⟩) (Kd.R_types HO572.out BK566.out (by decide)) (fun _ hk => hk.2) (.int .i64 a0_0)) (fun _ hk => hk.2) (.int .i64 a0_1)) (fun _ hk => hk.2) (.slice Ao9 y570.length co9)) (fun _ hk => trivial), qc2_⟩
  · rw [if_neg c2] at H
    exact absurd H (by simp)

/-! ### spec_l2Text: function 113 -/
def spec_l2Text.l0 : Nat → ByteArray → Int → Option (Bool)
  | 0, _, _ => none
  | k + 1, x0, x3 => if x3 < (x0.size : Int) then (if 0 ≤ x3 then (if (bt x0 x3) ≥ 97 then (if (bt x0 x3) ≤ 122 then (spec_l2Text.l0 k x0 (wrap64 (x3 + 1))) else (if (bt x0 x3) ≥ 48 then (if (bt x0 x3) ≤ 57 then (spec_l2Text.l0 k x0 (wrap64 (x3 + 1))) else (if ((bt x0 x3) = 32) then (spec_l2Text.l0 k x0 (wrap64 (x3 + 1))) else (some false))) else (if ((bt x0 x3) = 32) then (spec_l2Text.l0 k x0 (wrap64 (x3 + 1))) else (some false)))) else (if (bt x0 x3) ≥ 48 then (if (bt x0 x3) ≤ 57 then (spec_l2Text.l0 k x0 (wrap64 (x3 + 1))) else (if ((bt x0 x3) = 32) then (spec_l2Text.l0 k x0 (wrap64 (x3 + 1))) else (some false))) else (if ((bt x0 x3) = 32) then (spec_l2Text.l0 k x0 (wrap64 (x3 + 1))) else (some false)))) else (none)) else (some (decide ((x0.size : Int) ≤ 30)))
def spec_l2Text.f (k : Nat) (a0 : ByteArray) : Option (Bool) := spec_l2Text.l0 k a0 0
theorem spec_l2Text.mono_l : ∀ k, (∀ y0 y1, LeO (spec_l2Text.l0 k y0 y1) (spec_l2Text.l0 (k + 1) y0 y1))
  | 0 => fun _ _ r h => by simp [spec_l2Text.l0] at h
  | k + 1 => by
    have ih0 := spec_l2Text.mono_l k
    · intro y0 y1
      unfold spec_l2Text.l0
      exact qch0_
theorem spec_l2Text.mono : ∀ a0 k, LeO (spec_l2Text.f k a0) (spec_l2Text.f (k + 1) a0) := by
  intro a0 k
  have ih0 := spec_l2Text.mono_l k
  unfold spec_l2Text.f
  exact qch0_
set_option maxHeartbeats 8000000 in
set_option maxRecDepth 100000 in
theorem spec_l2Text.calls (k : Nat) (a0 : ByteArray) (r : Bool) (w : World) (h : spec_l2Text.f k a0 = some r) :
    Calls Try.prog 113 #[.string a0] w fun e w' => e = .returned (.bool r) ∧ Drawn0 w w' := by
  have H : (spec_l2Text.l0 k a0 0) = some r := h
  clear h
  have H' := Aside0.mk H
  clear H
  go_enter Try.func113, Try.ntmps113
  go_wp2
  go_loopg [3] k (fun kq v3 w' => ∃ (x3_1 : Int), v3 = .int .i64 x3_1 ∧ Aside0 (spec_l2Text.l0 kq a0 x3_1 = some r) ∧ Aside0 (kq ≤ k) ∧ Drawn0 w w')
  case atStart => exact ⟨(0), (qc1_), H', ⟨Nat.le_refl _⟩, qc3_⟩
  case round =>
    clear H'
    try clear c1
    obtain ⟨x3_1, rfl, HA, HK1, ⟨m1, rfl⟩⟩ := hrel
    cases gk with
    | zero => exact absurd HA.out (by simp [spec_l2Text.l0])
    | succ k1 =>
      have H := HA.out
      clear HA
      simp only [spec_l2Text.l0] at H
      by_cases c2 : x3_1 < (a0.size : Int)
      · rw [if_pos c2] at H
        have c2b0 : decide (x3_1 < (a0.size : Int)) = true := decide_eq_true c2
        clear c2
        by_cases c3 : 0 ≤ x3_1
        · rw [if_pos c3] at H
          have c3b0 : decide (0 ≤ x3_1) = true := decide_eq_true c3
          clear c3
          by_cases c5 : (bt a0 x3_1) ≥ 97
          · rw [if_pos c5] at H
            have c5b0 : decide (97 ≤ (bt a0 x3_1)) = true := decide_eq_true c5
            clear c5
            by_cases c6 : (bt a0 x3_1) ≤ 122
            · rw [if_pos c6] at H
              have c6b0 : decide ((bt a0 x3_1) ≤ 122) = true := decide_eq_true c6
              clear c6
              have H' := Aside0.mk H
              clear H
              have p4 : 0 ≤ (x3_1 : Int) := of_decide_eq_true dt_
              have q4 : x3_1 < (a0.size : Int) := of_decide_eq_true dt_
              have hx4 := bt_at a0 x3_1
              replace p4 := eq_true p4
              replace q4 := eq_true q4
              go_wp2
              go_roundg k1
              case measure => have := HK1.out; omega
              case rel => exact ⟨(wrap64 (x3_1 + 1)), (qc1_), H', ⟨by have := HK1.out; omega⟩, qc3_⟩
            · rw [if_neg c6] at H
              have c6b0 : decide ((bt a0 x3_1) ≤ 122) = false := decide_eq_false c6
              clear c6
              by_cases c7 : (bt a0 x3_1) ≥ 48
              · rw [if_pos c7] at H
                have c7b0 : decide (48 ≤ (bt a0 x3_1)) = true := decide_eq_true c7
                clear c7
                by_cases c8 : (bt a0 x3_1) ≤ 57
                · rw [if_pos c8] at H
                  have c8b0 : decide ((bt a0 x3_1) ≤ 57) = true := decide_eq_true c8
                  clear c8
                  have H' := Aside0.mk H
                  clear H
                  have p4 : 0 ≤ (x3_1 : Int) := of_decide_eq_true dt_
                  have q4 : x3_1 < (a0.size : Int) := of_decide_eq_true dt_
                  have hx4 := bt_at a0 x3_1
                  replace p4 := eq_true p4
                  replace q4 := eq_true q4
                  go_wp2
                  go_roundg k1
                  case measure => have := HK1.out; omega
                  case rel => exact ⟨(wrap64 (x3_1 + 1)), (qc1_), H', ⟨by have := HK1.out; omega⟩, qc3_⟩
                · rw [if_neg c8] at H
                  have c8b0 : decide ((bt a0 x3_1) ≤ 57) = false := decide_eq_false c8
                  clear c8
                  by_cases c9 : ((bt a0 x3_1) = 32)
                  · rw [if_pos c9] at H
                    have c9b0 : ((bt a0 x3_1) == 32) = true := beq_iff_eq.mpr c9
                    have c9b1 : ((bt a0 x3_1) != 32) = false := bne_eq_false_iff_eq.mpr c9
                    clear c9
                    have H' := Aside0.mk H
                    clear H
                    have p4 : 0 ≤ (x3_1 : Int) := of_decide_eq_true dt_
                    have q4 : x3_1 < (a0.size : Int) := of_decide_eq_true dt_
                    have hx4 := bt_at a0 x3_1
                    replace p4 := eq_true p4
                    replace q4 := eq_true q4
                    go_wp2
                    go_roundg k1
                    case measure => have := HK1.out; omega
                    case rel => exact ⟨(wrap64 (x3_1 + 1)), (qc1_), H', ⟨by have := HK1.out; omega⟩, qc3_⟩
                  · rw [if_neg c9] at H
                    have c9b0 : ((bt a0 x3_1) == 32) = false := beq_eq_false_iff_ne.mpr c9
                    have c9b1 : ((bt a0 x3_1) != 32) = true := bne_iff_ne.mpr c9
                    obtain rfl := Option.some.inj H
                    have p4 : 0 ≤ (x3_1 : Int) := of_decide_eq_true dt_
                    have q4 : x3_1 < (a0.size : Int) := of_decide_eq_true dt_
                    have hx4 := bt_at a0 x3_1
                    replace p4 := eq_true p4
                    replace q4 := eq_true q4
                    go_wp2
                    go_ret
                    exact ⟨qc1_, qc3_⟩
              · rw [if_neg c7] at H
                have c7b0 : decide (48 ≤ (bt a0 x3_1)) = false := decide_eq_false c7
                clear c7
                by_cases c10 : ((bt a0 x3_1) = 32)
                · rw [if_pos c10] at H
                  have c10b0 : ((bt a0 x3_1) == 32) = true := beq_iff_eq.mpr c10
                  have c10b1 : ((bt a0 x3_1) != 32) = false := bne_eq_false_iff_eq.mpr c10
                  clear c10
                  have H' := Aside0.mk H
                  clear H
                  have p4 : 0 ≤ (x3_1 : Int) := of_decide_eq_true dt_
                  have q4 : x3_1 < (a0.size : Int) := of_decide_eq_true dt_
                  have hx4 := bt_at a0 x3_1
                  replace p4 := eq_true p4
                  replace q4 := eq_true q4
                  go_wp2
                  go_roundg k1
                  case measure => have := HK1.out; omega
                  case rel => exact ⟨(wrap64 (x3_1 + 1)), (qc1_), H', ⟨by have := HK1.out; omega⟩, qc3_⟩
                · rw [if_neg c10] at H
                  have c10b0 : ((bt a0 x3_1) == 32) = false := beq_eq_false_iff_ne.mpr c10
                  have c10b1 : ((bt a0 x3_1) != 32) = true := bne_iff_ne.mpr c10
                  obtain rfl := Option.some.inj H
                  have p4 : 0 ≤ (x3_1 : Int) := of_decide_eq_true dt_
                  have q4 : x3_1 < (a0.size : Int) := of_decide_eq_true dt_
                  have hx4 := bt_at a0 x3_1
                  replace p4 := eq_true p4
                  replace q4 := eq_true q4
                  go_wp2
                  go_ret
                  exact ⟨qc1_, qc3_⟩
          · rw [if_neg c5] at H
            have c5b0 : decide (97 ≤ (bt a0 x3_1)) = false := decide_eq_false c5
            clear c5
            by_cases c11 : (bt a0 x3_1) ≥ 48
            · rw [if_pos c11] at H
              have c11b0 : decide (48 ≤ (bt a0 x3_1)) = true := decide_eq_true c11
              clear c11
              by_cases c12 : (bt a0 x3_1) ≤ 57
              · rw [if_pos c12] at H
                have c12b0 : decide ((bt a0 x3_1) ≤ 57) = true := decide_eq_true c12
                clear c12
                have H' := Aside0.mk H
                clear H
                have p4 : 0 ≤ (x3_1 : Int) := of_decide_eq_true dt_
                have q4 : x3_1 < (a0.size : Int) := of_decide_eq_true dt_
                have hx4 := bt_at a0 x3_1
                replace p4 := eq_true p4
                replace q4 := eq_true q4
                go_wp2
                go_roundg k1
                case measure => have := HK1.out; omega
                case rel => exact ⟨(wrap64 (x3_1 + 1)), (qc1_), H', ⟨by have := HK1.out; omega⟩, qc3_⟩
              · rw [if_neg c12] at H
                have c12b0 : decide ((bt a0 x3_1) ≤ 57) = false := decide_eq_false c12
                clear c12
                by_cases c13 : ((bt a0 x3_1) = 32)
                · rw [if_pos c13] at H
                  have c13b0 : ((bt a0 x3_1) == 32) = true := beq_iff_eq.mpr c13
                  have c13b1 : ((bt a0 x3_1) != 32) = false := bne_eq_false_iff_eq.mpr c13
                  clear c13
                  have H' := Aside0.mk H
                  clear H
                  have p4 : 0 ≤ (x3_1 : Int) := of_decide_eq_true dt_
                  have q4 : x3_1 < (a0.size : Int) := of_decide_eq_true dt_
                  have hx4 := bt_at a0 x3_1
                  replace p4 := eq_true p4
                  replace q4 := eq_true q4
                  go_wp2
                  go_roundg k1
                  case measure => have := HK1.out; omega
                  case rel => exact ⟨(wrap64 (x3_1 + 1)), (qc1_), H', ⟨by have := HK1.out; omega⟩, qc3_⟩
                · rw [if_neg c13] at H
                  have c13b0 : ((bt a0 x3_1) == 32) = false := beq_eq_false_iff_ne.mpr c13
                  have c13b1 : ((bt a0 x3_1) != 32) = true := bne_iff_ne.mpr c13
                  obtain rfl := Option.some.inj H
                  have p4 : 0 ≤ (x3_1 : Int) := of_decide_eq_true dt_
                  have q4 : x3_1 < (a0.size : Int) := of_decide_eq_true dt_
                  have hx4 := bt_at a0 x3_1
                  replace p4 := eq_true p4
                  replace q4 := eq_true q4
                  go_wp2
                  go_ret
                  exact ⟨qc1_, qc3_⟩
            · rw [if_neg c11] at H
              have c11b0 : decide (48 ≤ (bt a0 x3_1)) = false := decide_eq_false c11
              clear c11
              by_cases c14 : ((bt a0 x3_1) = 32)
              · rw [if_pos c14] at H
                have c14b0 : ((bt a0 x3_1) == 32) = true := beq_iff_eq.mpr c14
                have c14b1 : ((bt a0 x3_1) != 32) = false := bne_eq_false_iff_eq.mpr c14
                clear c14
                have H' := Aside0.mk H
                clear H
                have p4 : 0 ≤ (x3_1 : Int) := of_decide_eq_true dt_
                have q4 : x3_1 < (a0.size : Int) := of_decide_eq_true dt_
                have hx4 := bt_at a0 x3_1
                replace p4 := eq_true p4
                replace q4 := eq_true q4
                go_wp2
                go_roundg k1
                case measure => have := HK1.out; omega
                case rel => exact ⟨(wrap64 (x3_1 + 1)), (qc1_), H', ⟨by have := HK1.out; omega⟩, qc3_⟩
              · rw [if_neg c14] at H
                have c14b0 : ((bt a0 x3_1) == 32) = false := beq_eq_false_iff_ne.mpr c14
                have c14b1 : ((bt a0 x3_1) != 32) = true := bne_iff_ne.mpr c14
                obtain rfl := Option.some.inj H
                have p4 : 0 ≤ (x3_1 : Int) := of_decide_eq_true dt_
                have q4 : x3_1 < (a0.size : Int) := of_decide_eq_true dt_
                have hx4 := bt_at a0 x3_1
                replace p4 := eq_true p4
                replace q4 := eq_true q4
                go_wp2
                go_ret
                exact ⟨qc1_, qc3_⟩
        · rw [if_neg c3] at H
          exact absurd H (by simp)
      · rw [if_neg c2] at H
        have c2b0 : decide (x3_1 < (a0.size : Int)) = false := decide_eq_false c2
        clear c2
        obtain rfl := Option.some.inj H
        go_wp2
        go_ret
        exact ⟨qc1_, qc3_⟩
/-! ### spec_l3Item: function 100 -/
def spec_l3Item.f (k : Nat) (a0_0 : Int) (a0_1 : ByteArray) (a0_2 : ByteArray) (a0_3 : Int) (a0_4 : Int) : Option (Bool) := (spec_l2Text.f k a0_1).bind fun t574 => (if t574 = true then ((spec_l2Text.f k a0_2).bind fun t575 => (if t575 = true then ((spec_l1In.f a0_3 0 3).bind fun t576 => (if t576 = true then ((spec_l1In.f a0_4 0 100000).bind fun t577 => (some t577)) else (some false))) else (some false))) else (some false))
theorem spec_l3Item.mono : ∀ a0 a1 a2 a3 a4 k, LeO (spec_l3Item.f k a0 a1 a2 a3 a4) (spec_l3Item.f (k + 1) a0 a1 a2 a3 a4) := by
  intro a0 a1 a2 a3 a4 k
  unfold spec_l3Item.f
  repeat' first
      | (with_reducible exact spec_l2Text.mono _ _)
      | (with_reducible exact LeO.refl _)
      | (with_reducible exact LeO.none _)
      | (with_reducible refine LeO.ite ?_ ?_)
      | (with_reducible refine LeO.bind ?_ (fun _ => ?_))
      | exact spec_l2Text.mono _ _
      | exact LeO.none _
      | refine LeO.ite ?_ ?_
      | refine LeO.bind ?_ (fun _ => ?_)
set_option maxHeartbeats 8000000 in
set_option maxRecDepth 100000 in
theorem spec_l3Item.calls (k : Nat) (a0_0 : Int) (a0_1 : ByteArray) (a0_2 : ByteArray) (a0_3 : Int) (a0_4 : Int) (r : Bool) (w : World) (h : spec_l3Item.f k a0_0 a0_1 a0_2 a0_3 a0_4 = some r) :
    Calls Try.prog 100 #[.agg #[.int .i64 a0_0, .string a0_1, .string a0_2, .int .i64 a0_3, .int .i64 a0_4]] w fun e w' => e = .returned (.bool r) ∧ Below w.heap.size w w' := by
  have hu33 := Try.underlying33
  have HB := Aside0.mk (Below.refl w.heap.size w)
  have H : ((spec_l2Text.f k a0_1).bind fun t574 => (if t574 = true then ((spec_l2Text.f k a0_2).bind fun t575 => (if t575 = true then ((spec_l1In.f a0_3 0 3).bind fun t576 => (if t576 = true then ((spec_l1In.f a0_4 0 100000).bind fun t577 => (some t577)) else (some false))) else (some false))) else (some false))) = some r := h
  clear h
  replace H := Option.bind_eq_some_iff.mp H
  obtain ⟨t574, A20, H⟩ := H
  replace H : (if t574 = true then ((spec_l2Text.f k a0_2).bind fun t575 => (if t575 = true then ((spec_l1In.f a0_3 0 3).bind fun t576 => (if t576 = true then ((spec_l1In.f a0_4 0 100000).bind fun t577 => (some t577)) else (some false))) else (some false))) else (some false)) = some r := H
  have A2 := Aside0.mk A20
  clear A20
  by_cases c3 : t574 = true
  · subst c3
    have H1 : ((spec_l2Text.f k a0_2).bind fun t575 => (if t575 = true then ((spec_l1In.f a0_3 0 3).bind fun t576 => (if t576 = true then ((spec_l1In.f a0_4 0 100000).bind fun t577 => (some t577)) else (some false))) else (some false))) = some r := by rw [if_pos rfl] at H; exact H
    clear H
    have H := H1
    clear H1
    replace H := Option.bind_eq_some_iff.mp H
    obtain ⟨t575, A40, H⟩ := H
    replace H : (if t575 = true then ((spec_l1In.f a0_3 0 3).bind fun t576 => (if t576 = true then ((spec_l1In.f a0_4 0 100000).bind fun t577 => (some t577)) else (some false))) else (some false)) = some r := H
    have A4 := Aside0.mk A40
    clear A40
    by_cases c5 : t575 = true
    · subst c5
      have H1 : ((spec_l1In.f a0_3 0 3).bind fun t576 => (if t576 = true then ((spec_l1In.f a0_4 0 100000).bind fun t577 => (some t577)) else (some false))) = some r := by rw [if_pos rfl] at H; exact H
      clear H
      have H := H1
      clear H1
      replace H := Option.bind_eq_some_iff.mp H
      obtain ⟨t576, A60, H⟩ := H
      replace H : (if t576 = true then ((spec_l1In.f a0_4 0 100000).bind fun t577 => (some t577)) else (some false)) = some r := H
      have A6 := Aside0.mk A60
      clear A60
      by_cases c7 : t576 = true
      · subst c7
        have H1 : ((spec_l1In.f a0_4 0 100000).bind fun t577 => (some t577)) = some r := by rw [if_pos rfl] at H; exact H
        clear H
        have H := H1
        clear H1
        replace H := Option.bind_eq_some_iff.mp H
        obtain ⟨t577, A80, H⟩ := H
        replace H : (some t577) = some r := H
        have A8 := Aside0.mk A80
        clear A80
        obtain rfl := Option.some.inj H
        go_enter Try.func100, Try.ntmps100
        go_wp2_with (first | ((with_reducible refine gate_dst (N := 1) rfl ?_); refine box_event ?hg (N := 1) ?hd (cs := #[.int .i64 a0_0, .string a0_1, .string a0_2, .int .i64 a0_3, .int .i64 a0_4]) (t := 33) ?hr ?_; (case hd => rfl); (case hg => rfl); (case hr => first | (go_simp; done) | (go_simp; rfl)); intro gb573 hg w9 hbox hb; have BK573 := Aside0.mk (hbox); have GW573 := Aside0.mk ((by rw [hg]; exact (below_size (qc0_)) : w.heap.size ≤ gb573)); have GE573 := Aside0.mk ((by rw [hg]; exact (below_size (qc0_)) : w.heap.size ≤ gb573)); replace HB := Aside0.mk (below_step (qc0_) hb); clear hb hbox hg; have hcz10_0 : w9.cell? ⟨gb573, 0, none⟩ = some (.int .i64 a0_0) := bc_ BK573 0; have hcz10_1 : w9.cell? ⟨gb573, 1, none⟩ = some (.string a0_1) := bc_ BK573 1; have hcz10_2 : w9.cell? ⟨gb573, 2, none⟩ = some (.string a0_2) := bc_ BK573 2; have hcz10_3 : w9.cell? ⟨gb573, 3, none⟩ = some (.int .i64 a0_3) := bc_ BK573 3; have hcz10_4 : w9.cell? ⟨gb573, 4, none⟩ = some (.int .i64 a0_4) := bc_ BK573 4; have hfz10_0 := blk_frozen BK573.out 0; have hfz10_1 := blk_frozen BK573.out 1; have hfz10_2 := blk_frozen BK573.out 2; have hfz10_3 := blk_frozen BK573.out 3; have hfz10_4 := blk_frozen BK573.out 4) | ((with_reducible refine gate_callee (f := 113) rfl ?_); refine goesL_ (some 5) rfl rfl Try.func113 (by kernel_rfl) rfl #[.string a0_1] rfl (qc6_) ?_; (with_reducible refine (spec_l2Text.calls k a0_1 true _ A2.out).mono ?_); rintro e w' ⟨rfl, ⟨nd, rfl⟩⟩; refine ⟨_, rfl, ?_⟩) | (go_at_call 113; (with_reducible refine (spec_l2Text.calls k a0_2 true _ A4.out).mono ?_); rintro e w' ⟨rfl, ⟨nd, rfl⟩⟩) | (go_at_call 74; (with_reducible refine (spec_l1In.calls a0_3 0 3 true _ A6.out).mono ?_); rintro e w' ⟨rfl, ⟨nd, rfl⟩⟩) | (go_at_call 74; (with_reducible refine (spec_l1In.calls a0_4 0 100000 t577 _ A8.out).mono ?_); rintro e w' ⟨rfl, ⟨nd, rfl⟩⟩))
        go_ret
        exact ⟨qc5_, qc4_⟩
      · replace c7 := Bool.eq_false_iff.mpr c7
        subst c7
        have H1 : (some false) = some r := by rw [if_neg (show ¬ (false = true) by decide)] at H; exact H
        clear H
        have H := H1
        clear H1
        obtain rfl := Option.some.inj H
        go_enter Try.func100, Try.ntmps100
        go_wp2_with (first | ((with_reducible refine gate_dst (N := 1) rfl ?_); refine box_event ?hg (N := 1) ?hd (cs := #[.int .i64 a0_0, .string a0_1, .string a0_2, .int .i64 a0_3, .int .i64 a0_4]) (t := 33) ?hr ?_; (case hd => rfl); (case hg => rfl); (case hr => first | (go_simp; done) | (go_simp; rfl)); intro gb573 hg w11 hbox hb; have BK573 := Aside0.mk (hbox); have GW573 := Aside0.mk ((by rw [hg]; exact (below_size (qc0_)) : w.heap.size ≤ gb573)); have GE573 := Aside0.mk ((by rw [hg]; exact (below_size (qc0_)) : w.heap.size ≤ gb573)); replace HB := Aside0.mk (below_step (qc0_) hb); clear hb hbox hg; have hcz12_0 : w11.cell? ⟨gb573, 0, none⟩ = some (.int .i64 a0_0) := bc_ BK573 0; have hcz12_1 : w11.cell? ⟨gb573, 1, none⟩ = some (.string a0_1) := bc_ BK573 1; have hcz12_2 : w11.cell? ⟨gb573, 2, none⟩ = some (.string a0_2) := bc_ BK573 2; have hcz12_3 : w11.cell? ⟨gb573, 3, none⟩ = some (.int .i64 a0_3) := bc_ BK573 3; have hcz12_4 : w11.cell? ⟨gb573, 4, none⟩ = some (.int .i64 a0_4) := bc_ BK573 4; have hfz12_0 := blk_frozen BK573.out 0; have hfz12_1 := blk_frozen BK573.out 1; have hfz12_2 := blk_frozen BK573.out 2; have hfz12_3 := blk_frozen BK573.out 3; have hfz12_4 := blk_frozen BK573.out 4) | ((with_reducible refine gate_callee (f := 113) rfl ?_); refine goesL_ (some 5) rfl rfl Try.func113 (by kernel_rfl) rfl #[.string a0_1] rfl (qc6_) ?_; (with_reducible refine (spec_l2Text.calls k a0_1 true _ A2.out).mono ?_); rintro e w' ⟨rfl, ⟨nd, rfl⟩⟩; refine ⟨_, rfl, ?_⟩) | (go_at_call 113; (with_reducible refine (spec_l2Text.calls k a0_2 true _ A4.out).mono ?_); rintro e w' ⟨rfl, ⟨nd, rfl⟩⟩) | (go_at_call 74; (with_reducible refine (spec_l1In.calls a0_3 0 3 false _ A6.out).mono ?_); rintro e w' ⟨rfl, ⟨nd, rfl⟩⟩))
        go_ret
        exact ⟨qc5_, qc4_⟩
    · replace c5 := Bool.eq_false_iff.mpr c5
      subst c5
      have H1 : (some false) = some r := by rw [if_neg (show ¬ (false = true) by decide)] at H; exact H
      clear H
      have H := H1
      clear H1
      obtain rfl := Option.some.inj H
      go_enter Try.func100, Try.ntmps100
      go_wp2_with (first | ((with_reducible refine gate_dst (N := 1) rfl ?_); refine box_event ?hg (N := 1) ?hd (cs := #[.int .i64 a0_0, .string a0_1, .string a0_2, .int .i64 a0_3, .int .i64 a0_4]) (t := 33) ?hr ?_; (case hd => rfl); (case hg => rfl); (case hr => first | (go_simp; done) | (go_simp; rfl)); intro gb573 hg w13 hbox hb; have BK573 := Aside0.mk (hbox); have GW573 := Aside0.mk ((by rw [hg]; exact (below_size (qc0_)) : w.heap.size ≤ gb573)); have GE573 := Aside0.mk ((by rw [hg]; exact (below_size (qc0_)) : w.heap.size ≤ gb573)); replace HB := Aside0.mk (below_step (qc0_) hb); clear hb hbox hg; have hcz14_0 : w13.cell? ⟨gb573, 0, none⟩ = some (.int .i64 a0_0) := bc_ BK573 0; have hcz14_1 : w13.cell? ⟨gb573, 1, none⟩ = some (.string a0_1) := bc_ BK573 1; have hcz14_2 : w13.cell? ⟨gb573, 2, none⟩ = some (.string a0_2) := bc_ BK573 2; have hcz14_3 : w13.cell? ⟨gb573, 3, none⟩ = some (.int .i64 a0_3) := bc_ BK573 3; have hcz14_4 : w13.cell? ⟨gb573, 4, none⟩ = some (.int .i64 a0_4) := bc_ BK573 4; have hfz14_0 := blk_frozen BK573.out 0; have hfz14_1 := blk_frozen BK573.out 1; have hfz14_2 := blk_frozen BK573.out 2; have hfz14_3 := blk_frozen BK573.out 3; have hfz14_4 := blk_frozen BK573.out 4) | ((with_reducible refine gate_callee (f := 113) rfl ?_); refine goesL_ (some 5) rfl rfl Try.func113 (by kernel_rfl) rfl #[.string a0_1] rfl (qc6_) ?_; (with_reducible refine (spec_l2Text.calls k a0_1 true _ A2.out).mono ?_); rintro e w' ⟨rfl, ⟨nd, rfl⟩⟩; refine ⟨_, rfl, ?_⟩) | (go_at_call 113; (with_reducible refine (spec_l2Text.calls k a0_2 false _ A4.out).mono ?_); rintro e w' ⟨rfl, ⟨nd, rfl⟩⟩))
      go_ret
      exact ⟨qc5_, qc4_⟩
  · replace c3 := Bool.eq_false_iff.mpr c3
    subst c3
    have H1 : (some false) = some r := by rw [if_neg (show ¬ (false = true) by decide)] at H; exact H
    clear H
    have H := H1
    clear H1
    obtain rfl := Option.some.inj H
    go_enter Try.func100, Try.ntmps100
    go_wp2_with (first | ((with_reducible refine gate_dst (N := 1) rfl ?_); refine box_event ?hg (N := 1) ?hd (cs := #[.int .i64 a0_0, .string a0_1, .string a0_2, .int .i64 a0_3, .int .i64 a0_4]) (t := 33) ?hr ?_; (case hd => rfl); (case hg => rfl); (case hr => first | (go_simp; done) | (go_simp; rfl)); intro gb573 hg w15 hbox hb; have BK573 := Aside0.mk (hbox); have GW573 := Aside0.mk ((by rw [hg]; exact (below_size (qc0_)) : w.heap.size ≤ gb573)); have GE573 := Aside0.mk ((by rw [hg]; exact (below_size (qc0_)) : w.heap.size ≤ gb573)); replace HB := Aside0.mk (below_step (qc0_) hb); clear hb hbox hg; have hcz16_0 : w15.cell? ⟨gb573, 0, none⟩ = some (.int .i64 a0_0) := bc_ BK573 0; have hcz16_1 : w15.cell? ⟨gb573, 1, none⟩ = some (.string a0_1) := bc_ BK573 1; have hcz16_2 : w15.cell? ⟨gb573, 2, none⟩ = some (.string a0_2) := bc_ BK573 2; have hcz16_3 : w15.cell? ⟨gb573, 3, none⟩ = some (.int .i64 a0_3) := bc_ BK573 3; have hcz16_4 : w15.cell? ⟨gb573, 4, none⟩ = some (.int .i64 a0_4) := bc_ BK573 4; have hfz16_0 := blk_frozen BK573.out 0; have hfz16_1 := blk_frozen BK573.out 1; have hfz16_2 := blk_frozen BK573.out 2; have hfz16_3 := blk_frozen BK573.out 3; have hfz16_4 := blk_frozen BK573.out 4) | ((with_reducible refine gate_callee (f := 113) rfl ?_); refine goesL_ (some 5) rfl rfl Try.func113 (by kernel_rfl) rfl #[.string a0_1] rfl (qc6_) ?_; (with_reducible refine (spec_l2Text.calls k a0_1 false _ A2.out).mono ?_); rintro e w' ⟨rfl, ⟨nd, rfl⟩⟩; refine ⟨_, rfl, ?_⟩))
    go_ret
    exact ⟨qc5_, qc4_⟩
/-! ### spec_RowOk: function 57 -/
abbrev spec_RowOk.m0 : Array Bool := #[f_,f_,f_,f_,f_,f_,f_,f_,f_,f_,f_,f_,f_,f_,f_,f_,f_,f_,f_,f_,f_,f_,f_,f_,f_,f_,f_,f_,f_,f_,f_,f_,f_,f_,f_,f_,f_,f_,f_,f_,f_,f_]
abbrev spec_RowOk.m1 : Array Bool := #[t_,f_,f_,f_,f_,f_,f_,f_,f_,f_,f_,f_,f_,f_,f_,f_,f_,f_,f_,f_,f_,f_,f_,f_,f_,f_,f_,f_,f_,f_,f_,f_,f_,f_,f_,f_,f_,f_,f_,f_,f_,f_]
abbrev spec_RowOk.m2 : Array Bool := #[t_,f_,t_,f_,f_,f_,f_,f_,f_,f_,f_,f_,f_,f_,f_,f_,f_,f_,f_,f_,f_,f_,f_,f_,f_,f_,f_,f_,f_,f_,f_,f_,f_,f_,f_,f_,f_,f_,f_,f_,f_,f_]
abbrev spec_RowOk.m3 : Array Bool := #[t_,t_,t_,f_,f_,f_,f_,f_,f_,f_,f_,f_,f_,f_,f_,f_,f_,f_,f_,f_,f_,f_,f_,f_,f_,f_,f_,f_,f_,f_,f_,f_,f_,f_,f_,f_,f_,f_,f_,f_,f_,f_]
abbrev spec_RowOk.m4 : Array Bool := #[t_,t_,t_,t_,f_,f_,f_,f_,f_,f_,f_,f_,f_,f_,f_,f_,f_,f_,f_,f_,f_,f_,f_,f_,f_,f_,f_,f_,f_,f_,f_,f_,f_,f_,f_,f_,f_,f_,f_,f_,f_,f_]
abbrev spec_RowOk.m5 : Array Bool := #[t_,t_,t_,t_,t_,f_,f_,f_,f_,f_,f_,f_,f_,f_,f_,f_,f_,f_,f_,f_,f_,f_,f_,f_,f_,f_,f_,f_,f_,f_,f_,f_,f_,f_,f_,f_,f_,f_,f_,f_,f_,f_]
abbrev spec_RowOk.m6 : Array Bool := #[t_,t_,t_,t_,t_,t_,f_,f_,f_,f_,f_,f_,f_,f_,f_,f_,f_,f_,f_,f_,f_,f_,f_,f_,f_,f_,f_,f_,f_,f_,f_,f_,f_,f_,f_,f_,f_,f_,f_,f_,f_,f_]
abbrev spec_RowOk.m7 : Array Bool := #[t_,t_,t_,t_,t_,t_,t_,f_,f_,f_,f_,f_,f_,f_,f_,f_,f_,f_,f_,f_,f_,f_,f_,f_,f_,f_,f_,f_,f_,f_,f_,f_,f_,f_,f_,f_,f_,f_,f_,f_,f_,f_]
abbrev spec_RowOk.m8 : Array Bool := #[t_,t_,t_,t_,t_,t_,t_,t_,f_,f_,f_,f_,f_,f_,f_,f_,f_,f_,f_,f_,f_,f_,f_,f_,f_,f_,f_,f_,f_,f_,f_,f_,f_,f_,f_,f_,f_,f_,f_,f_,f_,f_]
abbrev spec_RowOk.m9 : Array Bool := #[t_,t_,t_,t_,t_,t_,t_,t_,t_,f_,f_,f_,f_,f_,f_,f_,f_,f_,f_,f_,f_,f_,f_,f_,f_,f_,f_,f_,f_,f_,f_,f_,f_,f_,f_,f_,f_,f_,f_,f_,f_,f_]
abbrev spec_RowOk.m10 : Array Bool := #[t_,t_,t_,t_,t_,t_,t_,t_,t_,f_,t_,f_,f_,f_,f_,f_,f_,f_,f_,f_,f_,f_,f_,f_,f_,f_,f_,f_,f_,f_,f_,f_,f_,f_,f_,f_,f_,f_,f_,f_,f_,f_]
abbrev spec_RowOk.m11 : Array Bool := #[t_,t_,t_,t_,t_,t_,t_,t_,t_,f_,t_,f_,f_,f_,t_,f_,f_,f_,f_,f_,f_,f_,f_,f_,f_,f_,f_,f_,f_,f_,f_,f_,f_,f_,f_,f_,f_,f_,f_,f_,f_,f_]
abbrev spec_RowOk.m12 : Array Bool := #[t_,t_,t_,t_,t_,t_,t_,t_,t_,f_,t_,f_,f_,f_,t_,f_,t_,f_,f_,f_,f_,f_,f_,f_,f_,f_,f_,f_,f_,f_,f_,f_,f_,f_,f_,f_,f_,f_,f_,f_,f_,f_]
abbrev spec_RowOk.m13 : Array Bool := #[t_,t_,t_,t_,t_,t_,t_,t_,t_,t_,t_,f_,f_,f_,t_,f_,t_,f_,f_,f_,f_,f_,f_,f_,f_,f_,f_,f_,f_,f_,f_,f_,f_,f_,f_,f_,f_,f_,f_,f_,f_,f_]
abbrev spec_RowOk.m14 : Array Bool := #[t_,t_,t_,t_,t_,t_,t_,t_,t_,t_,t_,t_,f_,f_,t_,f_,t_,f_,f_,f_,f_,f_,f_,f_,f_,f_,f_,f_,f_,f_,f_,f_,f_,f_,f_,f_,f_,f_,f_,f_,f_,f_]
abbrev spec_RowOk.m15 : Array Bool := #[t_,t_,t_,t_,t_,t_,t_,t_,t_,t_,t_,t_,t_,f_,t_,f_,t_,f_,f_,f_,f_,f_,f_,f_,f_,f_,f_,f_,f_,f_,f_,f_,f_,f_,f_,f_,f_,f_,f_,f_,f_,f_]
abbrev spec_RowOk.m16 : Array Bool := #[t_,t_,t_,t_,t_,t_,t_,t_,t_,t_,t_,t_,t_,t_,t_,f_,t_,f_,f_,f_,f_,f_,f_,f_,f_,f_,f_,f_,f_,f_,f_,f_,f_,f_,f_,f_,f_,f_,f_,f_,f_,f_]
abbrev spec_RowOk.m17 : Array Bool := #[t_,t_,t_,t_,t_,t_,t_,t_,t_,t_,t_,t_,t_,t_,t_,t_,t_,f_,f_,f_,f_,f_,f_,f_,f_,f_,f_,f_,f_,f_,f_,f_,f_,f_,f_,f_,f_,f_,f_,f_,f_,f_]
abbrev spec_RowOk.m18 : Array Bool := #[t_,t_,t_,t_,t_,t_,t_,t_,t_,t_,t_,t_,t_,t_,t_,t_,t_,t_,f_,f_,f_,f_,f_,f_,f_,f_,f_,f_,f_,f_,f_,f_,f_,f_,f_,f_,f_,f_,f_,f_,f_,f_]
abbrev spec_RowOk.m19 : Array Bool := #[t_,t_,t_,t_,t_,t_,t_,t_,t_,t_,t_,t_,t_,t_,t_,t_,t_,t_,t_,f_,f_,f_,f_,f_,f_,f_,f_,f_,f_,f_,f_,f_,f_,f_,f_,f_,f_,f_,f_,f_,f_,f_]
abbrev spec_RowOk.m20 : Array Bool := #[t_,t_,t_,t_,t_,t_,t_,t_,t_,t_,t_,t_,t_,t_,t_,t_,t_,t_,t_,t_,f_,f_,f_,f_,f_,f_,f_,f_,f_,f_,f_,f_,f_,f_,f_,f_,f_,f_,f_,f_,f_,f_]
abbrev spec_RowOk.m21 : Array Bool := #[t_,t_,t_,t_,t_,t_,t_,t_,t_,t_,t_,t_,t_,t_,t_,t_,t_,t_,t_,t_,t_,f_,f_,f_,f_,f_,f_,f_,f_,f_,f_,f_,f_,f_,f_,f_,f_,f_,f_,f_,f_,f_]
abbrev spec_RowOk.m22 : Array Bool := #[t_,t_,t_,t_,t_,t_,t_,t_,t_,t_,t_,t_,t_,t_,t_,t_,t_,t_,t_,t_,t_,t_,f_,f_,f_,f_,f_,f_,f_,f_,f_,f_,f_,f_,f_,f_,f_,f_,f_,f_,f_,f_]
abbrev spec_RowOk.m23 : Array Bool := #[t_,t_,t_,t_,t_,t_,t_,t_,t_,t_,t_,t_,t_,t_,t_,t_,t_,t_,t_,t_,t_,t_,t_,f_,f_,f_,f_,f_,f_,f_,f_,f_,f_,f_,f_,f_,f_,f_,f_,f_,f_,f_]
abbrev spec_RowOk.m24 : Array Bool := #[t_,t_,t_,t_,t_,t_,t_,t_,t_,t_,t_,t_,t_,t_,t_,t_,t_,t_,t_,t_,t_,t_,t_,t_,f_,f_,f_,f_,f_,f_,f_,f_,f_,f_,f_,f_,f_,f_,f_,f_,f_,f_]
abbrev spec_RowOk.m25 : Array Bool := #[t_,t_,t_,t_,t_,t_,t_,t_,t_,t_,t_,t_,t_,t_,t_,t_,t_,t_,t_,t_,t_,t_,t_,t_,t_,f_,f_,f_,f_,f_,f_,f_,f_,f_,f_,f_,f_,f_,f_,f_,f_,f_]
abbrev spec_RowOk.m26 : Array Bool := #[t_,t_,t_,t_,t_,t_,t_,t_,t_,t_,t_,t_,t_,t_,t_,t_,t_,t_,t_,t_,t_,t_,t_,t_,t_,t_,f_,f_,f_,f_,f_,f_,f_,f_,f_,f_,f_,f_,f_,f_,f_,f_]
abbrev spec_RowOk.m27 : Array Bool := #[t_,t_,t_,t_,t_,t_,t_,t_,t_,t_,t_,t_,t_,t_,t_,t_,t_,t_,t_,t_,t_,t_,t_,t_,t_,t_,t_,f_,f_,f_,f_,f_,f_,f_,f_,f_,f_,f_,f_,f_,f_,f_]
abbrev spec_RowOk.m28 : Array Bool := #[t_,t_,t_,t_,t_,t_,t_,t_,t_,t_,t_,t_,t_,t_,t_,t_,t_,t_,t_,t_,t_,t_,t_,t_,t_,t_,t_,t_,t_,t_,t_,t_,t_,t_,t_,t_,f_,f_,f_,f_,f_,f_]
abbrev spec_RowOk.m29 : Array Bool := #[t_,t_,t_,t_,t_,t_,t_,t_,t_,t_,t_,t_,t_,t_,t_,t_,t_,t_,t_,t_,t_,t_,t_,t_,t_,t_,t_,t_,t_,t_,t_,t_,t_,t_,t_,t_,t_,f_,f_,f_,f_,f_]
abbrev spec_RowOk.m30 : Array Bool := #[t_,t_,t_,t_,t_,t_,t_,t_,t_,t_,t_,t_,t_,t_,t_,t_,t_,t_,t_,t_,t_,t_,t_,t_,t_,t_,t_,t_,t_,t_,t_,t_,t_,t_,t_,t_,t_,t_,f_,f_,f_,f_]
abbrev spec_RowOk.m31 : Array Bool := #[t_,t_,t_,t_,t_,t_,t_,t_,t_,t_,t_,t_,t_,t_,t_,t_,t_,t_,t_,t_,t_,t_,t_,t_,t_,t_,t_,t_,t_,t_,t_,t_,t_,t_,t_,t_,t_,t_,t_,f_,f_,f_]
abbrev spec_RowOk.m32 : Array Bool := #[t_,t_,t_,t_,t_,t_,t_,t_,t_,t_,t_,t_,t_,t_,t_,t_,t_,t_,t_,t_,t_,t_,t_,t_,t_,t_,t_,t_,t_,t_,t_,t_,t_,t_,t_,t_,t_,t_,t_,t_,f_,f_]
abbrev spec_RowOk.m33 : Array Bool := #[t_,t_,t_,t_,t_,t_,t_,t_,t_,t_,t_,t_,t_,t_,t_,t_,t_,t_,t_,t_,t_,t_,t_,t_,t_,t_,t_,t_,t_,t_,t_,t_,t_,t_,t_,t_,t_,t_,t_,t_,t_,f_]
abbrev spec_RowOk.m34 : Array Bool := #[t_,t_,t_,t_,t_,t_,t_,t_,t_,t_,t_,t_,t_,t_,t_,t_,t_,t_,t_,t_,t_,t_,t_,t_,t_,t_,t_,t_,t_,t_,t_,t_,t_,t_,t_,t_,t_,t_,t_,t_,t_,t_]
abbrev spec_RowOk.m35 : Array Bool := #[t_,t_,t_,t_,t_,t_,t_,t_,t_,t_,t_,t_,t_,t_,t_,t_,t_,t_,t_,t_,t_,t_,t_,t_,t_,t_,t_,t_,f_,f_,f_,f_,f_,f_,f_,f_,f_,f_,f_,f_,f_,f_]
abbrev spec_RowOk.m36 : Array Bool := #[t_,t_,t_,t_,t_,t_,t_,t_,t_,t_,t_,t_,t_,t_,t_,t_,t_,t_,t_,t_,t_,t_,t_,t_,t_,t_,t_,t_,t_,f_,f_,f_,f_,f_,f_,f_,f_,f_,f_,f_,f_,f_]
abbrev spec_RowOk.m37 : Array Bool := #[t_,t_,t_,t_,t_,t_,t_,t_,t_,t_,t_,t_,t_,t_,t_,t_,t_,t_,t_,t_,t_,t_,t_,t_,t_,t_,t_,t_,t_,t_,f_,f_,f_,f_,f_,f_,f_,f_,f_,f_,f_,f_]
abbrev spec_RowOk.m38 : Array Bool := #[t_,t_,t_,t_,t_,t_,t_,t_,t_,t_,t_,t_,t_,t_,t_,t_,t_,t_,t_,t_,t_,t_,t_,t_,t_,t_,t_,t_,t_,t_,t_,f_,f_,f_,f_,f_,f_,f_,f_,f_,f_,f_]
abbrev spec_RowOk.m39 : Array Bool := #[t_,t_,t_,t_,t_,t_,t_,t_,t_,t_,t_,t_,t_,t_,t_,t_,t_,t_,t_,t_,t_,t_,t_,t_,t_,t_,t_,t_,t_,t_,t_,t_,f_,f_,f_,f_,f_,f_,f_,f_,f_,f_]
abbrev spec_RowOk.m40 : Array Bool := #[t_,t_,t_,t_,t_,t_,t_,t_,t_,t_,t_,t_,t_,t_,t_,t_,t_,t_,t_,t_,t_,t_,t_,t_,t_,t_,t_,t_,t_,t_,t_,t_,t_,f_,f_,f_,f_,f_,f_,f_,f_,f_]
abbrev spec_RowOk.m41 : Array Bool := #[t_,t_,t_,t_,t_,t_,t_,t_,t_,t_,t_,t_,t_,t_,t_,t_,t_,t_,t_,t_,t_,t_,t_,t_,t_,t_,t_,t_,t_,t_,t_,t_,t_,t_,f_,f_,f_,f_,f_,f_,f_,f_]
abbrev spec_RowOk.m42 : Array Bool := #[t_,t_,t_,t_,t_,t_,t_,t_,t_,t_,t_,t_,t_,t_,t_,t_,t_,t_,t_,t_,t_,t_,t_,t_,t_,t_,t_,t_,t_,t_,t_,t_,t_,t_,t_,f_,f_,f_,f_,f_,f_,f_]
mutual
def spec_RowOk.j3 : Nat → Int → Int → List (S_Item) → Option (Bool)
 | 0, _, _, _ => none
 | k + 1, x579000, x579001, x579002 => (spec_l1In.f x579000 0 x579001).bind fun t585 => (if t585 = true then (if x579001 ≤ 100000 then (some (decide ((x579002.length : Int) ≤ 80))) else (some false)) else (some false))
def spec_RowOk.l0 : Nat → Int → Int → Int → List (S_Item) → Option (Bool)
 | 0, _, _, _, _ => none
 | k + 1, x3, x579000, x579001, x579002 => if x3 < (x579002.length : Int) then (spec_RowOk.j1 k x3 x579000 x579001 x579002) else (spec_RowOk.j3 k x579000 x579001 x579002)
def spec_RowOk.j1 : Nat → Int → Int → Int → List (S_Item) → Option (Bool)
 | 0, _, _, _, _ => none
 | k + 1, x3, x579000, x579001, x579002 => if 0 ≤ x3 then (if x3 < (x579002.length : Int) then ((spec_l3Item.f k ((rd_Item x579002 x3).f0) ((rd_Item x579002 x3).f1) ((rd_Item x579002 x3).f2) ((rd_Item x579002 x3).f3) ((rd_Item x579002 x3).f4)).bind fun t580 => (if t580 = true then ((spec_l1In.f ((rd_Item x579002 x3).f0) x579000 (wrap64 (x579001 - 1))).bind fun t582 => (if t582 = true then (if x3 > 0 then (if 0 ≤ (wrap64 (x3 - 1)) then (if (wrap64 (x3 - 1)) < (x579002.length : Int) then (spec_RowOk.j2 k x3 (decide (((rd_Item x579002 (wrap64 (x3 - 1))).f0) ≥ ((rd_Item x579002 x3).f0))) x579000 x579001 x579002) else (none)) else (none)) else (spec_RowOk.j2 k x3 false x579000 x579001 x579002)) else (spec_RowOk.j2 k x3 true x579000 x579001 x579002))) else (spec_RowOk.j2 k x3 true x579000 x579001 x579002))) else (none)) else (none)
def spec_RowOk.j2 : Nat → Int → Bool → Int → Int → List (S_Item) → Option (Bool)
 | 0, _, _, _, _, _ => none
 | k + 1, x3, x52, x579000, x579001, x579002 => if x52 = true then (some false) else (spec_RowOk.l0 k (wrap64 (x3 + 1)) x579000 x579001 x579002)
end
def spec_RowOk.f (k : Nat) (a0_0 : Int) (a0_1 : Int) (l0_2 : List (S_Item)) : Option (Bool) := spec_RowOk.l0 k 0 a0_0 a0_1 l0_2
theorem spec_RowOk.mono_l : ∀ k, (∀ y0 y1 y2, LeO (spec_RowOk.j3 k y0 y1 y2) (spec_RowOk.j3 (k + 1) y0 y1 y2)) ∧ (∀ y0 y1 y2 y3, LeO (spec_RowOk.l0 k y0 y1 y2 y3) (spec_RowOk.l0 (k + 1) y0 y1 y2 y3)) ∧ (∀ y0 y1 y2 y3, LeO (spec_RowOk.j1 k y0 y1 y2 y3) (spec_RowOk.j1 (k + 1) y0 y1 y2 y3)) ∧ (∀ y0 y1 y2 y3 y4, LeO (spec_RowOk.j2 k y0 y1 y2 y3 y4) (spec_RowOk.j2 (k + 1) y0 y1 y2 y3 y4))
 | 0 => ⟨fun _ _ _ r h => by simp [spec_RowOk.j3] at h, fun _ _ _ _ r h => by simp [spec_RowOk.l0] at h, fun _ _ _ _ r h => by simp [spec_RowOk.j1] at h, fun _ _ _ _ _ r h => by simp [spec_RowOk.j2] at h⟩
 | k + 1 => by
  obtain ⟨ih0, ih1, ih2, ih3⟩ := spec_RowOk.mono_l k
  refine ⟨?_, ?_, ?_, ?_⟩
  ·
   intro y0 y1 y2
   unfold spec_RowOk.j3
   exact qch1_
  ·
   intro y0 y1 y2 y3
   unfold spec_RowOk.l0
   exact qch1_
  ·
   intro y0 y1 y2 y3
   unfold spec_RowOk.j1
   exact qch1_
  ·
   intro y0 y1 y2 y3 y4
   unfold spec_RowOk.j2
   exact qch1_
theorem spec_RowOk.mono : ∀ a0 a1 a2 k, LeO (spec_RowOk.f k a0 a1 a2) (spec_RowOk.f (k + 1) a0 a1 a2) := by
 intro a0 a1 a2 k
 obtain ⟨ih0, ih1, ih2, ih3⟩ := spec_RowOk.mono_l k
 unfold spec_RowOk.f
 exact qch1_
def spec_RowOk.T4 : Bool × List (List Nat × List Nat) := (true, [([], []), ([0], [0]), ([], []), ([1, 2], [1, 2]), ([3], [3]), ([4], [4]), ([5], [5]), ([6, 5], [6]), ([7], [7]), ([8, 7], [7, 8]), ([7], [7]), ([9, 10, 7], [7, 9, 10]), ([11, 7], [7, 11]), ([12, 7], [7, 12]), ([7], [7]), ([14, 7], [7, 14]), ([7], [7]), ([16, 7], [7, 16]), ([17, 7], [7, 17]), ([13, 15, 18, 7, 7], [7, 13, 15, 18]), ([19, 7], [7, 19]), ([7, 20], [7, 20]), ([21, 19], [21]), ([22], [22]), ([23, 22], [22, 23]), ([24, 22, 22], [22, 24]), ([25], [25]), ([26, 25], [25, 26]), ([25], [25]), ([28, 25], [25, 28]), ([27, 29, 25], [25, 27, 29]), ([30, 25], [25, 30]), ([31, 25], [25, 31]), ([25], [25]), ([33, 25], [25, 33]), ([25], [25]), ([34, 35, 25], [25, 34, 35]), ([36, 25], [25, 36]), ([37, 25], [25, 37]), ([32, 38, 25], [25, 32, 38]), ([25, 39, 22], [22, 25, 39]), ([22, 40], [22, 40])])
def spec_RowOk.B4 : List Nat := [0, 1, 0, 7, 15, 31, 63, 127, 255, 511, 255, 2047, 4095, 8191, 255, 16639, 255, 65791, 196863, 524287, 1048575, 2097151, 4194303, 8388607, 16777215, 33554431, 67108863, 134217727, 67108863, 335544319, 1073741823, 2147483647, 4294967295, 67108863, 8657043455, 67108863, 60196651007, 128916127743, 266355081215, 549755813887, 1099511627775, 2199023255551]
theorem spec_RowOk.tab4 : rtab .any (opsOf Try.f57 4) = spec_RowOk.T4 := by kernel_rfl
theorem spec_RowOk.bits4 : waitsOk spec_RowOk.T4.2 spec_RowOk.B4 = true := by kernel_rfl
set_option maxHeartbeats 8000000 in
set_option maxRecDepth 100000 in
theorem spec_RowOk.calls (k : Nat) (a0_0 : Int) (a0_1 : Int) (A0_2 : Option Addr) (c0_2 : Nat) (l0_2 : List (S_Item)) (r : Bool) (w : World) (hr0_2 : Kd.C k_Item w A0_2 l0_2.length l0_2) (hc0_2 : l0_2.length ≤ c0_2) (h : spec_RowOk.f k a0_0 a0_1 l0_2 = some r) :
 Calls Try.prog 57 #[.agg #[.int .i64 a0_0, .int .i64 a0_1, .slice A0_2 l0_2.length c0_2]] w fun e w' => e = .returned (.bool r) ∧ Below w.heap.size w w' := by
 have hu26 := Try.underlying26
 have hu33 := Try.underlying33
 have HR0_2 := Aside0.mk hr0_2
 have HC0_2 := Aside0.mk hc0_2
 clear hr0_2 hc0_2
 have HB := Aside0.mk (Below.refl w.heap.size w)
 have H : (spec_RowOk.l0 k 0 a0_0 a0_1 l0_2) = some r := h
 clear h
 have HC2 := Aside0.mk H
 clear H
 go_enter Try.func57, Try.ntmps57
 go_upto_block 0 with (first | ((with_reducible refine gate_dst (N := 1) rfl ?_); (try (refine gate_guard (by rfl) ?_; dsimp only)); refine box_event ?hg (N := 1) ?hd (cs := #[.int .i64 a0_0, .int .i64 a0_1, .slice A0_2 l0_2.length c0_2]) (t := 26) ?hr ?_; (case hd => rfl); (case hg => rfl); (case hr => first | (go_simp; done) | (go_simp; rfl)); intro gb578 hg w3 hbox hb; have BK578 := Aside0.mk (hbox); have GW578 := cz_ HB hg; have GE578 := cz_ HB hg; replace HB := ch_ HB hb; clear hb hbox hg))
 (try simp only [Act.put, List.setIfInBounds_toArray, List.set_cons_zero, List.set_cons_succ])
 go_cut [] (fun wc => ∃ (kq : Nat), Aside0 (spec_RowOk.j3 kq a0_0 a0_1 l0_2 = some r) ∧ Aside0 (kq ≤ k) ∧ Aside0 (wc.heap[gb578]? = some (.cells #[.int .i64 a0_0, .int .i64 a0_1, (.slice A0_2 l0_2.length c0_2)] 26 (0, 0))) ∧ Aside0 (Below w.heap.size w wc))
 case first =>
  have H := HC2.out
  clear HC2
  have H' := Aside0.mk H
  clear H
  go_wp2
  go_loopg [3] k (fun kq v3 w' => ∃ (x3_1 : Int), v3 = .int .i64 x3_1 ∧ Aside0 (spec_RowOk.l0 kq x3_1 a0_0 a0_1 l0_2 = some r) ∧ Aside0 (kq ≤ k) ∧ Aside0 (w'.heap[gb578]? = some (.cells #[.int .i64 a0_0, .int .i64 a0_1, (.slice A0_2 l0_2.length c0_2)] 26 (0, 0))) ∧ Aside0 (Below w.heap.size w w'))
  case atStart => exact ⟨(0), (qc1_), H', ⟨Nat.le_refl _⟩, ⟨bq_ BK578.out⟩, ⟨hb_ HB.out⟩⟩
  case round =>
   clear H'
   try clear p2
   obtain ⟨x3_1, rfl, HA, HK1, BK578, HB⟩ := hrel
   cases gk with
   | zero => exact absurd HA.out (by simp [spec_RowOk.l0])
   | succ k1 =>
    have H := HA.out
    clear HA
    simp only [spec_RowOk.l0] at H
    have HC4 := Aside0.mk H
    clear H
    have hcz5_0 : wr.cell? ⟨gb578, 0, none⟩ = some (.int .i64 a0_0) := bc_ BK578 0
    have hcz5_1 : wr.cell? ⟨gb578, 1, none⟩ = some (.int .i64 a0_1) := bc_ BK578 1
    have hcz5_2 : wr.cell? ⟨gb578, 2, none⟩ = some (.slice A0_2 l0_2.length c0_2) := bc_ BK578 2
    have hfz5_0 := blk_frozen BK578.out 0
    have hfz5_1 := blk_frozen BK578.out 1
    have hfz5_2 := blk_frozen BK578.out 2
    go_upto_if 8 with (fail)
    go_cut [] (fun wc => ∃ (kq : Nat), Aside0 (spec_RowOk.j1 kq x3_1 a0_0 a0_1 l0_2 = some r) ∧ Aside0 (kq ≤ k1) ∧ Aside0 (wc.heap[gb578]? = some (.cells #[.int .i64 a0_0, .int .i64 a0_1, (.slice A0_2 l0_2.length c0_2)] 26 (0, 0))) ∧ Aside0 (Below w.heap.size w wc))
    case first =>
     have H := HC4.out
     clear HC4
     by_cases c6 : x3_1 < (l0_2.length : Int)
     ·
      rw [if_pos c6] at H
      have c6b0 : decide (x3_1 < (l0_2.length : Int)) = true := decide_eq_true c6
      clear c6
      (first | rw [c6b0] | (simp only [i64_w, i32_w]; rw [c6b0]) | rw [c6b4] | rw [c6b3] | skip)
      have H' := Aside0.mk H
      clear H
      go_wp2
      go_meet
      case rel => exact ⟨_, H', ⟨by have := HK1.out; first | omega | exact Nat.le_refl _⟩, ⟨bq_ BK578.out⟩, ⟨hb_ HB.out⟩⟩
     ·
      rw [if_neg c6] at H
      have c6b0 : decide (x3_1 < (l0_2.length : Int)) = false := decide_eq_false c6
      clear c6
      (first | rw [c6b0] | (simp only [i64_w, i32_w]; rw [c6b0]) | rw [c6b4] | rw [c6b3] | skip)
      have H' := Aside0.mk H
      clear H
      go_wp2
      go_meet
      case rel => exact ⟨_, H', ⟨by have := HK1.out; first | omega | exact Nat.le_refl _⟩, ⟨bq_ BK578.out⟩, ⟨hb_ HB.out⟩⟩
    case rest =>
     clear HC4
     (try clear p2); (try clear hcz5_0); (try clear hcz5_1); (try clear hcz5_2); (try clear hfz5_0); (try clear hfz5_1); (try clear hfz5_2)
     obtain ⟨kq, HA, HJ3, BK578, HB⟩ := hcut
     cases kq with
     | zero => exact absurd HA.out (by simp [spec_RowOk.j1])
     | succ kj3 =>
      have H := HA.out
      clear HA
      simp only [spec_RowOk.j1] at H
      have HC7 := Aside0.mk H
      clear H
      go_upto_region 4 with (fail)
      go_cut [52] (fun v52 wc => ∃ (kq : Nat) (x52_6 : Bool), v52 = .bool x52_6 ∧ Aside0 (spec_RowOk.j2 kq x3_1 x52_6 a0_0 a0_1 l0_2 = some r) ∧ Aside0 (kq ≤ kj3) ∧ Aside0 (wc.heap[gb578]? = some (.cells #[.int .i64 a0_0, .int .i64 a0_1, (.slice A0_2 l0_2.length c0_2)] 26 (0, 0))) ∧ Aside0 (Below w.heap.size w wc))
      case first =>
       have H := HC7.out
       clear HC7
       by_cases c8 : 0 ≤ x3_1
       ·
        rw [if_pos c8] at H
        have c8b0 : decide (0 ≤ x3_1) = true := decide_eq_true c8
        clear c8
        (first | rw [c8b0] | (simp only [i64_w, i32_w]; rw [c8b0]) | rw [c8b4] | rw [c8b3] | skip)
        by_cases c9 : x3_1 < (l0_2.length : Int)
        ·
         rw [if_pos c9] at H
         have c9b0 : decide (x3_1 < (l0_2.length : Int)) = true := decide_eq_true c9
         clear c9
         replace H := Option.bind_eq_some_iff.mp H
         obtain ⟨t580, A100, H⟩ := H
         replace H : (if t580 = true then ((spec_l1In.f ((rd_Item l0_2 x3_1).f0) a0_0 (wrap64 (a0_1 - 1))).bind fun t582 => (if t582 = true then (if x3_1 > 0 then (if 0 ≤ (wrap64 (x3_1 - 1)) then (if (wrap64 (x3_1 - 1)) < (l0_2.length : Int) then (spec_RowOk.j2 kj3 x3_1 (decide (((rd_Item l0_2 (wrap64 (x3_1 - 1))).f0) ≥ ((rd_Item l0_2 x3_1).f0))) a0_0 a0_1 l0_2) else (none)) else (none)) else (spec_RowOk.j2 kj3 x3_1 false a0_0 a0_1 l0_2)) else (spec_RowOk.j2 kj3 x3_1 true a0_0 a0_1 l0_2))) else (spec_RowOk.j2 kj3 x3_1 true a0_0 a0_1 l0_2)) = some r := H
         have A10 := Aside0.mk A100
         clear A100
         by_cases c11 : t580 = true
         ·
          subst c11
          have H1 : ((spec_l1In.f ((rd_Item l0_2 x3_1).f0) a0_0 (wrap64 (a0_1 - 1))).bind fun t582 => (if t582 = true then (if x3_1 > 0 then (if 0 ≤ (wrap64 (x3_1 - 1)) then (if (wrap64 (x3_1 - 1)) < (l0_2.length : Int) then (spec_RowOk.j2 kj3 x3_1 (decide (((rd_Item l0_2 (wrap64 (x3_1 - 1))).f0) ≥ ((rd_Item l0_2 x3_1).f0))) a0_0 a0_1 l0_2) else (none)) else (none)) else (spec_RowOk.j2 kj3 x3_1 false a0_0 a0_1 l0_2)) else (spec_RowOk.j2 kj3 x3_1 true a0_0 a0_1 l0_2))) = some r := by rw [if_pos rfl] at H; exact H
          clear H
          have H := H1
          clear H1
          replace H := Option.bind_eq_some_iff.mp H
          obtain ⟨t582, A120, H⟩ := H
          replace H : (if t582 = true then (if x3_1 > 0 then (if 0 ≤ (wrap64 (x3_1 - 1)) then (if (wrap64 (x3_1 - 1)) < (l0_2.length : Int) then (spec_RowOk.j2 kj3 x3_1 (decide (((rd_Item l0_2 (wrap64 (x3_1 - 1))).f0) ≥ ((rd_Item l0_2 x3_1).f0))) a0_0 a0_1 l0_2) else (none)) else (none)) else (spec_RowOk.j2 kj3 x3_1 false a0_0 a0_1 l0_2)) else (spec_RowOk.j2 kj3 x3_1 true a0_0 a0_1 l0_2)) = some r := H
          have A12 := Aside0.mk A120
          clear A120
          by_cases c13 : t582 = true
          ·
           subst c13
           have H1 : (if x3_1 > 0 then (if 0 ≤ (wrap64 (x3_1 - 1)) then (if (wrap64 (x3_1 - 1)) < (l0_2.length : Int) then (spec_RowOk.j2 kj3 x3_1 (decide (((rd_Item l0_2 (wrap64 (x3_1 - 1))).f0) ≥ ((rd_Item l0_2 x3_1).f0))) a0_0 a0_1 l0_2) else (none)) else (none)) else (spec_RowOk.j2 kj3 x3_1 false a0_0 a0_1 l0_2)) = some r := by rw [if_pos rfl] at H; exact H
           clear H
           have H := H1
           clear H1
           by_cases c14 : x3_1 > 0
           ·
            rw [if_pos c14] at H
            have c14b0 : decide (0 < x3_1) = true := decide_eq_true c14
            clear c14
            obtain ⟨ji15, hji15⟩ : ∃ j_ : Int, (wrap64 (x3_1 - 1)) = j_ := ⟨_, rfl⟩
            replace H : (if 0 ≤ (ji15) then (if (ji15) < (l0_2.length : Int) then (spec_RowOk.j2 kj3 x3_1 (decide (((rd_Item l0_2 (ji15)).f0) ≥ ((rd_Item l0_2 x3_1).f0))) a0_0 a0_1 l0_2) else (none)) else (none)) = some r := by first | (rw [hji15] at H; exact H) | (simp only [hji15] at H ⊢; exact H)
            (try rw [hji15] at A10)
            (try rw [hji15] at A12)
            have hji15w : (IntKind.i64.wrap (x3_1 - 1)) = ji15 := (i64_w _).trans hji15
            by_cases c16 : 0 ≤ (ji15)
            ·
             rw [if_pos c16] at H
             have c16b0 : decide (0 ≤ (ji15)) = true := decide_eq_true c16
             clear c16
             by_cases c17 : (ji15) < (l0_2.length : Int)
             ·
              rw [if_pos c17] at H
              have c17b0 : decide ((ji15) < (l0_2.length : Int)) = true := decide_eq_true c17
              clear c17
              have H' := Aside0.mk H
              clear H
              try go_wp2
              replace BK578 := Aside0.mk (blk_drew BK578.out)
              replace HB := Aside0.mk (below_drew1 HB.out)
              have p579 : 0 ≤ (x3_1 : Int) := of_decide_eq_true dt_
              have q579 : x3_1 < (l0_2.length : Int) := of_decide_eq_true dt_
              obtain ⟨ad579, e579, hx579_0, hx579_1, hx579_2, hx579_3, hx579_4⟩ := at_Item HR0_2.out x3_1 p579 q579
              have hw579_4 := hx579_4
              have hw579_3 := hx579_3
              have hw579_2 := hx579_2
              have hw579_1 := hx579_1
              have hw579_0 := hx579_0
              cases e579
              replace hx579_0 := hc_ HB hx579_0
              replace hx579_1 := hc_ HB hx579_1
              replace hx579_2 := hc_ HB hx579_2
              replace hx579_3 := hc_ HB hx579_3
              replace hx579_4 := hc_ HB hx579_4
              replace p579 := eq_true p579
              replace q579 := eq_true q579
              have p581 : 0 ≤ (x3_1 : Int) := of_decide_eq_true dt_
              have q581 : x3_1 < (l0_2.length : Int) := of_decide_eq_true dt_
              obtain ⟨ad581, e581, hx581_0, hx581_1, hx581_2, hx581_3, hx581_4⟩ := at_Item HR0_2.out x3_1 p581 q581
              have hw581_4 := hx581_4
              have hw581_3 := hx581_3
              have hw581_2 := hx581_2
              have hw581_1 := hx581_1
              have hw581_0 := hx581_0
              obtain rfl : ad579 = ad581 := (by injection e581)
              replace hx581_0 := hc_ HB hx581_0
              replace hx581_1 := hc_ HB hx581_1
              replace hx581_2 := hc_ HB hx581_2
              replace hx581_3 := hc_ HB hx581_3
              replace hx581_4 := hc_ HB hx581_4
              replace p581 := eq_true p581
              replace q581 := eq_true q581
              have p583 : 0 ≤ ((ji15) : Int) := of_decide_eq_true dt_
              have q583 : (ji15) < (l0_2.length : Int) := of_decide_eq_true dt_
              obtain ⟨ad583, e583, hx583_0, hx583_1, hx583_2, hx583_3, hx583_4⟩ := at_Item HR0_2.out (ji15) p583 q583
              have hw583_4 := hx583_4
              have hw583_3 := hx583_3
              have hw583_2 := hx583_2
              have hw583_1 := hx583_1
              have hw583_0 := hx583_0
              obtain rfl : ad579 = ad583 := (by injection e583)
              replace hx583_0 := hc_ HB hx583_0
              replace hx583_1 := hc_ HB hx583_1
              replace hx583_2 := hc_ HB hx583_2
              replace hx583_3 := hc_ HB hx583_3
              replace hx583_4 := hc_ HB hx583_4
              replace p583 := eq_true p583
              replace q583 := eq_true q583
              have p584 : 0 ≤ (x3_1 : Int) := of_decide_eq_true dt_
              have q584 : x3_1 < (l0_2.length : Int) := of_decide_eq_true dt_
              obtain ⟨ad584, e584, hx584_0, hx584_1, hx584_2, hx584_3, hx584_4⟩ := at_Item HR0_2.out x3_1 p584 q584
              have hw584_4 := hx584_4
              have hw584_3 := hx584_3
              have hw584_2 := hx584_2
              have hw584_1 := hx584_1
              have hw584_0 := hx584_0
              obtain rfl : ad579 = ad584 := (by injection e584)
              replace hx584_0 := hc_ HB hx584_0
              replace hx584_1 := hc_ HB hx584_1
              replace hx584_2 := hc_ HB hx584_2
              replace hx584_3 := hc_ HB hx584_3
              replace hx584_4 := hc_ HB hx584_4
              replace p584 := eq_true p584
              replace q584 := eq_true q584
              refine start_ (n := 42) (S := fun w' => w'.cell? ⟨gb578, 0, none⟩ = some (.int .i64 a0_0) ∧ w'.cell? ⟨gb578, 1, none⟩ = some (.int .i64 a0_1) ∧ w'.cell? ⟨gb578, 2, none⟩ = some (.slice (some ad579) l0_2.length c0_2) ∧ w'.cell? (ad579.add ((x3_1).toNat * 5)) = some (.int .i64 ((rd_Item l0_2 x3_1).f0)) ∧ w'.cell? ⟨(ad579.add ((x3_1).toNat * 5)).block, (ad579.add ((x3_1).toNat * 5)).off + 1, none⟩ = some (.string ((rd_Item l0_2 x3_1).f1)) ∧ w'.cell? ⟨(ad579.add ((x3_1).toNat * 5)).block, (ad579.add ((x3_1).toNat * 5)).off + 2, none⟩ = some (.string ((rd_Item l0_2 x3_1).f2)) ∧ w'.cell? ⟨(ad579.add ((x3_1).toNat * 5)).block, (ad579.add ((x3_1).toNat * 5)).off + 3, none⟩ = some (.int .i64 ((rd_Item l0_2 x3_1).f3)) ∧ w'.cell? ⟨(ad579.add ((x3_1).toNat * 5)).block, (ad579.add ((x3_1).toNat * 5)).off + 4, none⟩ = some (.int .i64 ((rd_Item l0_2 x3_1).f4)) ∧ w'.cell? (ad579.add ((x3_1).toNat * 5)) = some (.int .i64 ((rd_Item l0_2 x3_1).f0)) ∧ w'.cell? ⟨(ad579.add ((x3_1).toNat * 5)).block, (ad579.add ((x3_1).toNat * 5)).off + 1, none⟩ = some (.string ((rd_Item l0_2 x3_1).f1)) ∧ w'.cell? ⟨(ad579.add ((x3_1).toNat * 5)).block, (ad579.add ((x3_1).toNat * 5)).off + 2, none⟩ = some (.string ((rd_Item l0_2 x3_1).f2)) ∧ w'.cell? ⟨(ad579.add ((x3_1).toNat * 5)).block, (ad579.add ((x3_1).toNat * 5)).off + 3, none⟩ = some (.int .i64 ((rd_Item l0_2 x3_1).f3)) ∧ w'.cell? ⟨(ad579.add ((x3_1).toNat * 5)).block, (ad579.add ((x3_1).toNat * 5)).off + 4, none⟩ = some (.int .i64 ((rd_Item l0_2 x3_1).f4)) ∧ w'.cell? (ad579.add (((ji15)).toNat * 5)) = some (.int .i64 ((rd_Item l0_2 (ji15)).f0)) ∧ w'.cell? ⟨(ad579.add (((ji15)).toNat * 5)).block, (ad579.add (((ji15)).toNat * 5)).off + 1, none⟩ = some (.string ((rd_Item l0_2 (ji15)).f1)) ∧ w'.cell? ⟨(ad579.add (((ji15)).toNat * 5)).block, (ad579.add (((ji15)).toNat * 5)).off + 2, none⟩ = some (.string ((rd_Item l0_2 (ji15)).f2)) ∧ w'.cell? ⟨(ad579.add (((ji15)).toNat * 5)).block, (ad579.add (((ji15)).toNat * 5)).off + 3, none⟩ = some (.int .i64 ((rd_Item l0_2 (ji15)).f3)) ∧ w'.cell? ⟨(ad579.add (((ji15)).toNat * 5)).block, (ad579.add (((ji15)).toNat * 5)).off + 4, none⟩ = some (.int .i64 ((rd_Item l0_2 (ji15)).f4)) ∧ w'.cell? (ad579.add ((x3_1).toNat * 5)) = some (.int .i64 ((rd_Item l0_2 x3_1).f0)) ∧ w'.cell? ⟨(ad579.add ((x3_1).toNat * 5)).block, (ad579.add ((x3_1).toNat * 5)).off + 1, none⟩ = some (.string ((rd_Item l0_2 x3_1).f1)) ∧ w'.cell? ⟨(ad579.add ((x3_1).toNat * 5)).block, (ad579.add ((x3_1).toNat * 5)).off + 2, none⟩ = some (.string ((rd_Item l0_2 x3_1).f2)) ∧ w'.cell? ⟨(ad579.add ((x3_1).toNat * 5)).block, (ad579.add ((x3_1).toNat * 5)).off + 3, none⟩ = some (.int .i64 ((rd_Item l0_2 x3_1).f3)) ∧ w'.cell? ⟨(ad579.add ((x3_1).toNat * 5)).block, (ad579.add ((x3_1).toNat * 5)).off + 4, none⟩ = some (.int .i64 ((rd_Item l0_2 x3_1).f4))) (ds := []) spec_RowOk.m0 (by kernel_rfl) rfl rfl ⟨bc_ BK578 0, bc_ BK578 1, bc_ BK578 2, (hd_ HB hw579_0), (hd_ HB hw579_1), (hd_ HB hw579_2), (hd_ HB hw579_3), (hd_ HB hw579_4), (hd_ HB hw581_0), (hd_ HB hw581_1), (hd_ HB hw581_2), (hd_ HB hw581_3), (hd_ HB hw581_4), (hd_ HB hw583_0), (hd_ HB hw583_1), (hd_ HB hw583_2), (hd_ HB hw583_3), (hd_ HB hw583_4), (hd_ HB hw584_0), (hd_ HB hw584_1), (hd_ HB hw584_2), (hd_ HB hw584_3), (hd_ HB hw584_4)⟩ (fun hHeld => ?_); refine with_tabW spec_RowOk.tab4 spec_RowOk.bits4 (fun HT_ HW_ => ?_)
              generalize wc.drew = w18 at BK578 HB hx579_0 hx579_1 hx579_2 hx579_3 hx579_4 hx581_0 hx581_1 hx581_2 hx581_3 hx581_4 hx583_0 hx583_1 hx583_2 hx583_3 hx583_4 hx584_0 hx584_1 hx584_2 hx584_3 hx584_4 hHeld ⊢
              refine pI_ 0 11 HT_ spec_RowOk.m1 rfl rfl ?_
              refine pI_ 2 13 HT_ spec_RowOk.m2 rfl rfl ?_
              refine tk_ 1 12 HT_ HW_ spec_RowOk.m3 rfl rfl hHeld ?_
              refine pI_ 3 14 HT_ spec_RowOk.m4 rfl rfl ?_
              refine tk_ 4 15 HT_ HW_ spec_RowOk.m5 rfl rfl hHeld ?_
              refine on_ 5 16 HT_ spec_RowOk.m6 rfl rfl (fun K hK => ?_)
              refine goes_ Try.func100 (by kernel_rfl) rfl #[.agg #[.int .i64 ((rd_Item l0_2 x3_1).f0), .string ((rd_Item l0_2 x3_1).f1), .string ((rd_Item l0_2 x3_1).f2), .int .i64 ((rd_Item l0_2 x3_1).f3), .int .i64 ((rd_Item l0_2 x3_1).f4)]] (by rfl) rfl rfl sm_ ?_
              with_reducible refine (spec_l3Item.calls kj3 ((rd_Item l0_2 x3_1).f0) ((rd_Item l0_2 x3_1).f1) ((rd_Item l0_2 x3_1).f2) ((rd_Item l0_2 x3_1).f3) ((rd_Item l0_2 x3_1).f4) true _ A10.out).mono ?_
              rintro e w19 ⟨rfl, hb⟩
              refine ⟨_, rfl, ?_⟩
              replace BK578 := cb_ BK578 hb
              replace HB := ch_ HB hb
              (try clear hb)
              refine hK.out _ _ ⟨bc_ BK578 0, bc_ BK578 1, bc_ BK578 2, (hd_ HB hw579_0), (hd_ HB hw579_1), (hd_ HB hw579_2), (hd_ HB hw579_3), (hd_ HB hw579_4), (hd_ HB hw581_0), (hd_ HB hw581_1), (hd_ HB hw581_2), (hd_ HB hw581_3), (hd_ HB hw581_4), (hd_ HB hw583_0), (hd_ HB hw583_1), (hd_ HB hw583_2), (hd_ HB hw583_3), (hd_ HB hw583_4), (hd_ HB hw584_0), (hd_ HB hw584_1), (hd_ HB hw584_2), (hd_ HB hw584_3), (hd_ HB hw584_4)⟩ (fun hHeld => ?_)
              clear hK K
              refine nm_ ?_
              refine pI_ 6 17 HT_ spec_RowOk.m7 rfl rfl ?_
              refine pI_ 7 18 HT_ spec_RowOk.m8 rfl rfl ?_
              refine pI_ 8 19 HT_ spec_RowOk.m9 rfl rfl ?_
              refine pI_ 10 21 HT_ spec_RowOk.m10 rfl rfl ?_
              refine pI_ 14 25 HT_ spec_RowOk.m11 rfl rfl ?_
              refine pI_ 16 27 HT_ spec_RowOk.m12 rfl rfl ?_
              refine tk_ 9 20 HT_ HW_ spec_RowOk.m13 rfl rfl hHeld ?_
              refine pI_ 11 22 HT_ spec_RowOk.m14 rfl rfl ?_
              refine pI_ 12 23 HT_ spec_RowOk.m15 rfl rfl ?_
              refine tk_ 13 24 HT_ HW_ spec_RowOk.m16 rfl rfl hHeld ?_
              refine tk_ 15 26 HT_ HW_ spec_RowOk.m17 rfl rfl hHeld ?_
              refine tk_ 17 28 HT_ HW_ spec_RowOk.m18 rfl rfl hHeld ?_
              refine pI_ 18 29 HT_ spec_RowOk.m19 rfl rfl ?_
              refine on_ 19 30 HT_ spec_RowOk.m20 rfl rfl (fun K hK => ?_)
              refine goes_ Try.func74 (by kernel_rfl) rfl #[.int .i64 ((rd_Item l0_2 x3_1).f0), .int .i64 a0_0, .int .i64 (wrap64 (a0_1 - 1))] (by rfl) rfl rfl sm_ ?_
              with_reducible refine (spec_l1In.calls ((rd_Item l0_2 x3_1).f0) a0_0 (wrap64 (a0_1 - 1)) true _ A12.out).mono ?_
              rintro e w' ⟨rfl, ⟨nd, rfl⟩⟩
              refine ⟨_, rfl, ?_⟩
              refine hK.out _ _ ⟨bc_ BK578 0, bc_ BK578 1, bc_ BK578 2, (hd_ HB hw579_0), (hd_ HB hw579_1), (hd_ HB hw579_2), (hd_ HB hw579_3), (hd_ HB hw579_4), (hd_ HB hw581_0), (hd_ HB hw581_1), (hd_ HB hw581_2), (hd_ HB hw581_3), (hd_ HB hw581_4), (hd_ HB hw583_0), (hd_ HB hw583_1), (hd_ HB hw583_2), (hd_ HB hw583_3), (hd_ HB hw583_4), (hd_ HB hw584_0), (hd_ HB hw584_1), (hd_ HB hw584_2), (hd_ HB hw584_3), (hd_ HB hw584_4)⟩ (fun hHeld => ?_)
              clear hK K
              refine nm_ ?_
              refine pI_ 20 31 HT_ spec_RowOk.m21 rfl rfl ?_
              refine pI_ 21 32 HT_ spec_RowOk.m22 rfl rfl ?_
              refine pI_ 22 33 HT_ spec_RowOk.m23 rfl rfl ?_
              refine pI_ 23 34 HT_ spec_RowOk.m24 rfl rfl ?_
              refine pI_ 24 35 HT_ spec_RowOk.m25 rfl rfl ?_
              refine pI_ 25 36 HT_ spec_RowOk.m26 rfl rfl ?_
              refine pI_ 26 37 HT_ spec_RowOk.m27 rfl rfl ?_
              refine pI_ 28 39 HT_ #[true, true, true, true, true, true, true, true, true, true, true, true, true, true, true, true, true, true, true, true, true, true, true, true, true, true, true, false, true, false, false, false, false, false, false, false, false, false, false, false, false, false] rfl rfl ?_
              refine pI_ 29 40 HT_ #[true, true, true, true, true, true, true, true, true, true, true, true, true, true, true, true, true, true, true, true, true, true, true, true, true, true, true, false, true, true, false, false, false, false, false, false, false, false, false, false, false, false] rfl rfl ?_
              refine pI_ 33 44 HT_ #[true, true, true, true, true, true, true, true, true, true, true, true, true, true, true, true, true, true, true, true, true, true, true, true, true, true, true, false, true, true, false, false, false, true, false, false, false, false, false, false, false, false] rfl rfl ?_
              refine pI_ 35 46 HT_ #[true, true, true, true, true, true, true, true, true, true, true, true, true, true, true, true, true, true, true, true, true, true, true, true, true, true, true, false, true, true, false, false, false, true, false, true, false, false, false, false, false, false] rfl rfl ?_
              refine tk_ 27 38 HT_ HW_ #[true, true, true, true, true, true, true, true, true, true, true, true, true, true, true, true, true, true, true, true, true, true, true, true, true, true, true, true, true, true, false, false, false, true, false, true, false, false, false, false, false, false] rfl rfl hHeld ?_
              refine pI_ 30 41 HT_ #[true, true, true, true, true, true, true, true, true, true, true, true, true, true, true, true, true, true, true, true, true, true, true, true, true, true, true, true, true, true, true, false, false, true, false, true, false, false, false, false, false, false] rfl rfl ?_
              refine pI_ 31 42 HT_ #[true, true, true, true, true, true, true, true, true, true, true, true, true, true, true, true, true, true, true, true, true, true, true, true, true, true, true, true, true, true, true, true, false, true, false, true, false, false, false, false, false, false] rfl rfl ?_
              refine tk_ 32 43 HT_ HW_ #[true, true, true, true, true, true, true, true, true, true, true, true, true, true, true, true, true, true, true, true, true, true, true, true, true, true, true, true, true, true, true, true, true, true, false, true, false, false, false, false, false, false] rfl rfl hHeld ?_
              refine tk_ 34 45 HT_ HW_ spec_RowOk.m28 rfl rfl hHeld ?_
              refine pI_ 36 47 HT_ spec_RowOk.m29 rfl rfl ?_
              refine pI_ 37 48 HT_ spec_RowOk.m30 rfl rfl ?_
              refine tk_ 38 49 HT_ HW_ spec_RowOk.m31 rfl rfl hHeld ?_
              refine pI_ 39 50 HT_ spec_RowOk.m32 rfl rfl ?_
              refine pI_ 40 51 HT_ spec_RowOk.m33 rfl rfl ?_
              refine pI_ 41 52 HT_ spec_RowOk.m34 rfl rfl ?_
              refine done_ (done_of HT_.out (by kernel_rfl)) ?_
              try go_wp2
              go_meet
              case rel => exact ⟨_, (decide (((rd_Item l0_2 (ji15)).f0) ≥ ((rd_Item l0_2 x3_1).f0))), (by first | rfl | (simp; done) | (simp only [← hji15] <;> (first | rfl | simp)) | (simp [*]; done)), H', ⟨qc11_⟩, ⟨bq_ BK578.out⟩, ⟨hb_ HB.out⟩⟩
             ·
              rw [if_neg c17] at H
              exact absurd H (by simp)
            ·
             rw [if_neg c16] at H
             exact absurd H (by simp)
           ·
            rw [if_neg c14] at H
            have c14b0 : decide (0 < x3_1) = false := decide_eq_false c14
            clear c14
            have H' := Aside0.mk H
            clear H
            try go_wp2
            replace BK578 := Aside0.mk (blk_drew BK578.out)
            replace HB := Aside0.mk (below_drew1 HB.out)
            have p579 : 0 ≤ (x3_1 : Int) := of_decide_eq_true dt_
            have q579 : x3_1 < (l0_2.length : Int) := of_decide_eq_true dt_
            obtain ⟨ad579, e579, hx579_0, hx579_1, hx579_2, hx579_3, hx579_4⟩ := at_Item HR0_2.out x3_1 p579 q579
            have hw579_4 := hx579_4
            have hw579_3 := hx579_3
            have hw579_2 := hx579_2
            have hw579_1 := hx579_1
            have hw579_0 := hx579_0
            cases e579
            replace hx579_0 := hc_ HB hx579_0
            replace hx579_1 := hc_ HB hx579_1
            replace hx579_2 := hc_ HB hx579_2
            replace hx579_3 := hc_ HB hx579_3
            replace hx579_4 := hc_ HB hx579_4
            replace p579 := eq_true p579
            replace q579 := eq_true q579
            have p581 : 0 ≤ (x3_1 : Int) := of_decide_eq_true dt_
            have q581 : x3_1 < (l0_2.length : Int) := of_decide_eq_true dt_
            obtain ⟨ad581, e581, hx581_0, hx581_1, hx581_2, hx581_3, hx581_4⟩ := at_Item HR0_2.out x3_1 p581 q581
            have hw581_4 := hx581_4
            have hw581_3 := hx581_3
            have hw581_2 := hx581_2
            have hw581_1 := hx581_1
            have hw581_0 := hx581_0
            obtain rfl : ad579 = ad581 := (by injection e581)
            replace hx581_0 := hc_ HB hx581_0
            replace hx581_1 := hc_ HB hx581_1
            replace hx581_2 := hc_ HB hx581_2
            replace hx581_3 := hc_ HB hx581_3
            replace hx581_4 := hc_ HB hx581_4
            replace p581 := eq_true p581
            replace q581 := eq_true q581
            refine start_ (n := 42) (S := fun w' => w'.cell? ⟨gb578, 0, none⟩ = some (.int .i64 a0_0) ∧ w'.cell? ⟨gb578, 1, none⟩ = some (.int .i64 a0_1) ∧ w'.cell? ⟨gb578, 2, none⟩ = some (.slice (some ad579) l0_2.length c0_2) ∧ w'.cell? (ad579.add ((x3_1).toNat * 5)) = some (.int .i64 ((rd_Item l0_2 x3_1).f0)) ∧ w'.cell? ⟨(ad579.add ((x3_1).toNat * 5)).block, (ad579.add ((x3_1).toNat * 5)).off + 1, none⟩ = some (.string ((rd_Item l0_2 x3_1).f1)) ∧ w'.cell? ⟨(ad579.add ((x3_1).toNat * 5)).block, (ad579.add ((x3_1).toNat * 5)).off + 2, none⟩ = some (.string ((rd_Item l0_2 x3_1).f2)) ∧ w'.cell? ⟨(ad579.add ((x3_1).toNat * 5)).block, (ad579.add ((x3_1).toNat * 5)).off + 3, none⟩ = some (.int .i64 ((rd_Item l0_2 x3_1).f3)) ∧ w'.cell? ⟨(ad579.add ((x3_1).toNat * 5)).block, (ad579.add ((x3_1).toNat * 5)).off + 4, none⟩ = some (.int .i64 ((rd_Item l0_2 x3_1).f4)) ∧ w'.cell? (ad579.add ((x3_1).toNat * 5)) = some (.int .i64 ((rd_Item l0_2 x3_1).f0)) ∧ w'.cell? ⟨(ad579.add ((x3_1).toNat * 5)).block, (ad579.add ((x3_1).toNat * 5)).off + 1, none⟩ = some (.string ((rd_Item l0_2 x3_1).f1)) ∧ w'.cell? ⟨(ad579.add ((x3_1).toNat * 5)).block, (ad579.add ((x3_1).toNat * 5)).off + 2, none⟩ = some (.string ((rd_Item l0_2 x3_1).f2)) ∧ w'.cell? ⟨(ad579.add ((x3_1).toNat * 5)).block, (ad579.add ((x3_1).toNat * 5)).off + 3, none⟩ = some (.int .i64 ((rd_Item l0_2 x3_1).f3)) ∧ w'.cell? ⟨(ad579.add ((x3_1).toNat * 5)).block, (ad579.add ((x3_1).toNat * 5)).off + 4, none⟩ = some (.int .i64 ((rd_Item l0_2 x3_1).f4))) (ds := []) spec_RowOk.m0 (by kernel_rfl) rfl rfl ⟨bc_ BK578 0, bc_ BK578 1, bc_ BK578 2, (hd_ HB hw579_0), (hd_ HB hw579_1), (hd_ HB hw579_2), (hd_ HB hw579_3), (hd_ HB hw579_4), (hd_ HB hw581_0), (hd_ HB hw581_1), (hd_ HB hw581_2), (hd_ HB hw581_3), (hd_ HB hw581_4)⟩ (fun hHeld => ?_); refine with_tabW spec_RowOk.tab4 spec_RowOk.bits4 (fun HT_ HW_ => ?_)
            generalize wc.drew = w20 at BK578 HB hx579_0 hx579_1 hx579_2 hx579_3 hx579_4 hx581_0 hx581_1 hx581_2 hx581_3 hx581_4 hHeld ⊢
            refine pI_ 0 11 HT_ spec_RowOk.m1 rfl rfl ?_
            refine pI_ 2 13 HT_ spec_RowOk.m2 rfl rfl ?_
            refine tk_ 1 12 HT_ HW_ spec_RowOk.m3 rfl rfl hHeld ?_
            refine pI_ 3 14 HT_ spec_RowOk.m4 rfl rfl ?_
            refine tk_ 4 15 HT_ HW_ spec_RowOk.m5 rfl rfl hHeld ?_
            refine on_ 5 16 HT_ spec_RowOk.m6 rfl rfl (fun K hK => ?_)
            refine goes_ Try.func100 (by kernel_rfl) rfl #[.agg #[.int .i64 ((rd_Item l0_2 x3_1).f0), .string ((rd_Item l0_2 x3_1).f1), .string ((rd_Item l0_2 x3_1).f2), .int .i64 ((rd_Item l0_2 x3_1).f3), .int .i64 ((rd_Item l0_2 x3_1).f4)]] (by rfl) rfl rfl sm_ ?_
            with_reducible refine (spec_l3Item.calls kj3 ((rd_Item l0_2 x3_1).f0) ((rd_Item l0_2 x3_1).f1) ((rd_Item l0_2 x3_1).f2) ((rd_Item l0_2 x3_1).f3) ((rd_Item l0_2 x3_1).f4) true _ A10.out).mono ?_
            rintro e w21 ⟨rfl, hb⟩
            refine ⟨_, rfl, ?_⟩
            replace BK578 := cb_ BK578 hb
            replace HB := ch_ HB hb
            (try clear hb)
            refine hK.out _ _ ⟨bc_ BK578 0, bc_ BK578 1, bc_ BK578 2, (hd_ HB hw579_0), (hd_ HB hw579_1), (hd_ HB hw579_2), (hd_ HB hw579_3), (hd_ HB hw579_4), (hd_ HB hw581_0), (hd_ HB hw581_1), (hd_ HB hw581_2), (hd_ HB hw581_3), (hd_ HB hw581_4)⟩ (fun hHeld => ?_)
            clear hK K
            refine nm_ ?_
            refine pI_ 6 17 HT_ spec_RowOk.m7 rfl rfl ?_
            refine pI_ 7 18 HT_ spec_RowOk.m8 rfl rfl ?_
            refine pI_ 8 19 HT_ spec_RowOk.m9 rfl rfl ?_
            refine pI_ 10 21 HT_ spec_RowOk.m10 rfl rfl ?_
            refine pI_ 14 25 HT_ spec_RowOk.m11 rfl rfl ?_
            refine pI_ 16 27 HT_ spec_RowOk.m12 rfl rfl ?_
            refine tk_ 9 20 HT_ HW_ spec_RowOk.m13 rfl rfl hHeld ?_
            refine pI_ 11 22 HT_ spec_RowOk.m14 rfl rfl ?_
            refine pI_ 12 23 HT_ spec_RowOk.m15 rfl rfl ?_
            refine tk_ 13 24 HT_ HW_ spec_RowOk.m16 rfl rfl hHeld ?_
            refine tk_ 15 26 HT_ HW_ spec_RowOk.m17 rfl rfl hHeld ?_
            refine tk_ 17 28 HT_ HW_ spec_RowOk.m18 rfl rfl hHeld ?_
            refine pI_ 18 29 HT_ spec_RowOk.m19 rfl rfl ?_
            refine on_ 19 30 HT_ spec_RowOk.m20 rfl rfl (fun K hK => ?_)
            refine goes_ Try.func74 (by kernel_rfl) rfl #[.int .i64 ((rd_Item l0_2 x3_1).f0), .int .i64 a0_0, .int .i64 (wrap64 (a0_1 - 1))] (by rfl) rfl rfl sm_ ?_
            with_reducible refine (spec_l1In.calls ((rd_Item l0_2 x3_1).f0) a0_0 (wrap64 (a0_1 - 1)) true _ A12.out).mono ?_
            rintro e w' ⟨rfl, ⟨nd, rfl⟩⟩
            refine ⟨_, rfl, ?_⟩
            refine hK.out _ _ ⟨bc_ BK578 0, bc_ BK578 1, bc_ BK578 2, (hd_ HB hw579_0), (hd_ HB hw579_1), (hd_ HB hw579_2), (hd_ HB hw579_3), (hd_ HB hw579_4), (hd_ HB hw581_0), (hd_ HB hw581_1), (hd_ HB hw581_2), (hd_ HB hw581_3), (hd_ HB hw581_4)⟩ (fun hHeld => ?_)
            clear hK K
            refine nm_ ?_
            refine pI_ 20 31 HT_ spec_RowOk.m21 rfl rfl ?_
            refine pI_ 21 32 HT_ spec_RowOk.m22 rfl rfl ?_
            refine pI_ 22 33 HT_ spec_RowOk.m23 rfl rfl ?_
            refine pI_ 23 34 HT_ spec_RowOk.m24 rfl rfl ?_
            refine pI_ 24 35 HT_ spec_RowOk.m25 rfl rfl ?_
            refine pI_ 25 36 HT_ spec_RowOk.m26 rfl rfl ?_
            refine pU_ 26 37 HT_ spec_RowOk.m27 rfl rfl ?_
            refine pU_ 27 38 HT_ spec_RowOk.m35 rfl rfl ?_
            refine pU_ 28 39 HT_ spec_RowOk.m36 rfl rfl ?_
            refine pU_ 29 40 HT_ spec_RowOk.m37 rfl rfl ?_
            refine pU_ 30 41 HT_ spec_RowOk.m38 rfl rfl ?_
            refine pU_ 31 42 HT_ spec_RowOk.m39 rfl rfl ?_
            refine pU_ 32 43 HT_ spec_RowOk.m40 rfl rfl ?_
            refine pU_ 33 44 HT_ spec_RowOk.m41 rfl rfl ?_
            refine pU_ 34 45 HT_ spec_RowOk.m42 rfl rfl ?_
            refine pU_ 35 46 HT_ spec_RowOk.m28 rfl rfl ?_
            refine pU_ 36 47 HT_ spec_RowOk.m29 rfl rfl ?_
            refine pU_ 37 48 HT_ spec_RowOk.m30 rfl rfl ?_
            refine pU_ 38 49 HT_ spec_RowOk.m31 rfl rfl ?_
            refine pU_ 39 50 HT_ spec_RowOk.m32 rfl rfl ?_
            refine pI_ 40 51 HT_ spec_RowOk.m33 rfl rfl ?_
            refine pI_ 41 52 HT_ spec_RowOk.m34 rfl rfl ?_
            refine done_ (done_of HT_.out (by kernel_rfl)) ?_
            try go_wp2
            go_meet
            case rel => exact ⟨_, (false), (qc1_), H', ⟨qc11_⟩, ⟨bq_ BK578.out⟩, ⟨hb_ HB.out⟩⟩
          ·
           replace c13 := Bool.eq_false_iff.mpr c13
           subst c13
           have H1 : (spec_RowOk.j2 kj3 x3_1 true a0_0 a0_1 l0_2) = some r := by rw [if_neg (show ¬ (false = true) by decide)] at H; exact H
           clear H
           have H := H1
           clear H1
           have H' := Aside0.mk H
           clear H
           try go_wp2
           replace BK578 := Aside0.mk (blk_drew BK578.out)
           replace HB := Aside0.mk (below_drew1 HB.out)
           have p579 : 0 ≤ (x3_1 : Int) := of_decide_eq_true dt_
           have q579 : x3_1 < (l0_2.length : Int) := of_decide_eq_true dt_
           obtain ⟨ad579, e579, hx579_0, hx579_1, hx579_2, hx579_3, hx579_4⟩ := at_Item HR0_2.out x3_1 p579 q579
           have hw579_4 := hx579_4
           have hw579_3 := hx579_3
           have hw579_2 := hx579_2
           have hw579_1 := hx579_1
           have hw579_0 := hx579_0
           cases e579
           replace hx579_0 := hc_ HB hx579_0
           replace hx579_1 := hc_ HB hx579_1
           replace hx579_2 := hc_ HB hx579_2
           replace hx579_3 := hc_ HB hx579_3
           replace hx579_4 := hc_ HB hx579_4
           replace p579 := eq_true p579
           replace q579 := eq_true q579
           have p581 : 0 ≤ (x3_1 : Int) := of_decide_eq_true dt_
           have q581 : x3_1 < (l0_2.length : Int) := of_decide_eq_true dt_
           obtain ⟨ad581, e581, hx581_0, hx581_1, hx581_2, hx581_3, hx581_4⟩ := at_Item HR0_2.out x3_1 p581 q581
           have hw581_4 := hx581_4
           have hw581_3 := hx581_3
           have hw581_2 := hx581_2
           have hw581_1 := hx581_1
           have hw581_0 := hx581_0
           obtain rfl : ad579 = ad581 := (by injection e581)
           replace hx581_0 := hc_ HB hx581_0
           replace hx581_1 := hc_ HB hx581_1
           replace hx581_2 := hc_ HB hx581_2
           replace hx581_3 := hc_ HB hx581_3
           replace hx581_4 := hc_ HB hx581_4
           replace p581 := eq_true p581
           replace q581 := eq_true q581
           refine start_ (n := 42) (S := fun w' => w'.cell? ⟨gb578, 0, none⟩ = some (.int .i64 a0_0) ∧ w'.cell? ⟨gb578, 1, none⟩ = some (.int .i64 a0_1) ∧ w'.cell? ⟨gb578, 2, none⟩ = some (.slice (some ad579) l0_2.length c0_2) ∧ w'.cell? (ad579.add ((x3_1).toNat * 5)) = some (.int .i64 ((rd_Item l0_2 x3_1).f0)) ∧ w'.cell? ⟨(ad579.add ((x3_1).toNat * 5)).block, (ad579.add ((x3_1).toNat * 5)).off + 1, none⟩ = some (.string ((rd_Item l0_2 x3_1).f1)) ∧ w'.cell? ⟨(ad579.add ((x3_1).toNat * 5)).block, (ad579.add ((x3_1).toNat * 5)).off + 2, none⟩ = some (.string ((rd_Item l0_2 x3_1).f2)) ∧ w'.cell? ⟨(ad579.add ((x3_1).toNat * 5)).block, (ad579.add ((x3_1).toNat * 5)).off + 3, none⟩ = some (.int .i64 ((rd_Item l0_2 x3_1).f3)) ∧ w'.cell? ⟨(ad579.add ((x3_1).toNat * 5)).block, (ad579.add ((x3_1).toNat * 5)).off + 4, none⟩ = some (.int .i64 ((rd_Item l0_2 x3_1).f4)) ∧ w'.cell? (ad579.add ((x3_1).toNat * 5)) = some (.int .i64 ((rd_Item l0_2 x3_1).f0)) ∧ w'.cell? ⟨(ad579.add ((x3_1).toNat * 5)).block, (ad579.add ((x3_1).toNat * 5)).off + 1, none⟩ = some (.string ((rd_Item l0_2 x3_1).f1)) ∧ w'.cell? ⟨(ad579.add ((x3_1).toNat * 5)).block, (ad579.add ((x3_1).toNat * 5)).off + 2, none⟩ = some (.string ((rd_Item l0_2 x3_1).f2)) ∧ w'.cell? ⟨(ad579.add ((x3_1).toNat * 5)).block, (ad579.add ((x3_1).toNat * 5)).off + 3, none⟩ = some (.int .i64 ((rd_Item l0_2 x3_1).f3)) ∧ w'.cell? ⟨(ad579.add ((x3_1).toNat * 5)).block, (ad579.add ((x3_1).toNat * 5)).off + 4, none⟩ = some (.int .i64 ((rd_Item l0_2 x3_1).f4))) (ds := []) spec_RowOk.m0 (by kernel_rfl) rfl rfl ⟨bc_ BK578 0, bc_ BK578 1, bc_ BK578 2, (hd_ HB hw579_0), (hd_ HB hw579_1), (hd_ HB hw579_2), (hd_ HB hw579_3), (hd_ HB hw579_4), (hd_ HB hw581_0), (hd_ HB hw581_1), (hd_ HB hw581_2), (hd_ HB hw581_3), (hd_ HB hw581_4)⟩ (fun hHeld => ?_); refine with_tabW spec_RowOk.tab4 spec_RowOk.bits4 (fun HT_ HW_ => ?_)
           generalize wc.drew = w22 at BK578 HB hx579_0 hx579_1 hx579_2 hx579_3 hx579_4 hx581_0 hx581_1 hx581_2 hx581_3 hx581_4 hHeld ⊢
           refine pI_ 0 11 HT_ spec_RowOk.m1 rfl rfl ?_
           refine pI_ 2 13 HT_ spec_RowOk.m2 rfl rfl ?_
           refine tk_ 1 12 HT_ HW_ spec_RowOk.m3 rfl rfl hHeld ?_
           refine pI_ 3 14 HT_ spec_RowOk.m4 rfl rfl ?_
           refine tk_ 4 15 HT_ HW_ spec_RowOk.m5 rfl rfl hHeld ?_
           refine on_ 5 16 HT_ spec_RowOk.m6 rfl rfl (fun K hK => ?_)
           refine goes_ Try.func100 (by kernel_rfl) rfl #[.agg #[.int .i64 ((rd_Item l0_2 x3_1).f0), .string ((rd_Item l0_2 x3_1).f1), .string ((rd_Item l0_2 x3_1).f2), .int .i64 ((rd_Item l0_2 x3_1).f3), .int .i64 ((rd_Item l0_2 x3_1).f4)]] (by rfl) rfl rfl sm_ ?_
           with_reducible refine (spec_l3Item.calls kj3 ((rd_Item l0_2 x3_1).f0) ((rd_Item l0_2 x3_1).f1) ((rd_Item l0_2 x3_1).f2) ((rd_Item l0_2 x3_1).f3) ((rd_Item l0_2 x3_1).f4) true _ A10.out).mono ?_
           rintro e w23 ⟨rfl, hb⟩
           refine ⟨_, rfl, ?_⟩
           replace BK578 := cb_ BK578 hb
           replace HB := ch_ HB hb
           (try clear hb)
           refine hK.out _ _ ⟨bc_ BK578 0, bc_ BK578 1, bc_ BK578 2, (hd_ HB hw579_0), (hd_ HB hw579_1), (hd_ HB hw579_2), (hd_ HB hw579_3), (hd_ HB hw579_4), (hd_ HB hw581_0), (hd_ HB hw581_1), (hd_ HB hw581_2), (hd_ HB hw581_3), (hd_ HB hw581_4)⟩ (fun hHeld => ?_)
           clear hK K
           refine nm_ ?_
           refine pI_ 6 17 HT_ spec_RowOk.m7 rfl rfl ?_
           refine pI_ 7 18 HT_ spec_RowOk.m8 rfl rfl ?_
           refine pI_ 8 19 HT_ spec_RowOk.m9 rfl rfl ?_
           refine pI_ 10 21 HT_ spec_RowOk.m10 rfl rfl ?_
           refine pI_ 14 25 HT_ spec_RowOk.m11 rfl rfl ?_
           refine pI_ 16 27 HT_ spec_RowOk.m12 rfl rfl ?_
           refine tk_ 9 20 HT_ HW_ spec_RowOk.m13 rfl rfl hHeld ?_
           refine pI_ 11 22 HT_ spec_RowOk.m14 rfl rfl ?_
           refine pI_ 12 23 HT_ spec_RowOk.m15 rfl rfl ?_
           refine tk_ 13 24 HT_ HW_ spec_RowOk.m16 rfl rfl hHeld ?_
           refine tk_ 15 26 HT_ HW_ spec_RowOk.m17 rfl rfl hHeld ?_
           refine tk_ 17 28 HT_ HW_ spec_RowOk.m18 rfl rfl hHeld ?_
           refine pI_ 18 29 HT_ spec_RowOk.m19 rfl rfl ?_
           refine on_ 19 30 HT_ spec_RowOk.m20 rfl rfl (fun K hK => ?_)
           refine goes_ Try.func74 (by kernel_rfl) rfl #[.int .i64 ((rd_Item l0_2 x3_1).f0), .int .i64 a0_0, .int .i64 (wrap64 (a0_1 - 1))] (by rfl) rfl rfl sm_ ?_
           with_reducible refine (spec_l1In.calls ((rd_Item l0_2 x3_1).f0) a0_0 (wrap64 (a0_1 - 1)) false _ A12.out).mono ?_
           rintro e w' ⟨rfl, ⟨nd, rfl⟩⟩
           refine ⟨_, rfl, ?_⟩
           refine hK.out _ _ ⟨bc_ BK578 0, bc_ BK578 1, bc_ BK578 2, (hd_ HB hw579_0), (hd_ HB hw579_1), (hd_ HB hw579_2), (hd_ HB hw579_3), (hd_ HB hw579_4), (hd_ HB hw581_0), (hd_ HB hw581_1), (hd_ HB hw581_2), (hd_ HB hw581_3), (hd_ HB hw581_4)⟩ (fun hHeld => ?_)
           clear hK K
           refine nm_ ?_
           refine pI_ 20 31 HT_ spec_RowOk.m21 rfl rfl ?_
           refine pI_ 21 32 HT_ spec_RowOk.m22 rfl rfl ?_
           refine pI_ 22 33 HT_ spec_RowOk.m23 rfl rfl ?_
           refine pU_ 23 34 HT_ spec_RowOk.m24 rfl rfl ?_
           refine pU_ 24 35 HT_ spec_RowOk.m25 rfl rfl ?_
           refine pU_ 25 36 HT_ spec_RowOk.m26 rfl rfl ?_
           refine pU_ 26 37 HT_ spec_RowOk.m27 rfl rfl ?_
           refine pU_ 27 38 HT_ spec_RowOk.m35 rfl rfl ?_
           refine pU_ 28 39 HT_ spec_RowOk.m36 rfl rfl ?_
           refine pU_ 29 40 HT_ spec_RowOk.m37 rfl rfl ?_
           refine pU_ 30 41 HT_ spec_RowOk.m38 rfl rfl ?_
           refine pU_ 31 42 HT_ spec_RowOk.m39 rfl rfl ?_
           refine pU_ 32 43 HT_ spec_RowOk.m40 rfl rfl ?_
           refine pU_ 33 44 HT_ spec_RowOk.m41 rfl rfl ?_
           refine pU_ 34 45 HT_ spec_RowOk.m42 rfl rfl ?_
           refine pU_ 35 46 HT_ spec_RowOk.m28 rfl rfl ?_
           refine pU_ 36 47 HT_ spec_RowOk.m29 rfl rfl ?_
           refine pU_ 37 48 HT_ spec_RowOk.m30 rfl rfl ?_
           refine pU_ 38 49 HT_ spec_RowOk.m31 rfl rfl ?_
           refine pU_ 39 50 HT_ spec_RowOk.m32 rfl rfl ?_
           refine pU_ 40 51 HT_ spec_RowOk.m33 rfl rfl ?_
           refine pI_ 41 52 HT_ spec_RowOk.m34 rfl rfl ?_
           refine done_ (done_of HT_.out (by kernel_rfl)) ?_
           try go_wp2
           go_meet
           case rel => exact ⟨_, (true), (qc1_), H', ⟨qc11_⟩, ⟨bq_ BK578.out⟩, ⟨hb_ HB.out⟩⟩
         ·
          replace c11 := Bool.eq_false_iff.mpr c11
          subst c11
          have H1 : (spec_RowOk.j2 kj3 x3_1 true a0_0 a0_1 l0_2) = some r := by rw [if_neg (show ¬ (false = true) by decide)] at H; exact H
          clear H
          have H := H1
          clear H1
          have H' := Aside0.mk H
          clear H
          try go_wp2
          replace BK578 := Aside0.mk (blk_drew BK578.out)
          replace HB := Aside0.mk (below_drew1 HB.out)
          have p579 : 0 ≤ (x3_1 : Int) := of_decide_eq_true dt_
          have q579 : x3_1 < (l0_2.length : Int) := of_decide_eq_true dt_
          obtain ⟨ad579, e579, hx579_0, hx579_1, hx579_2, hx579_3, hx579_4⟩ := at_Item HR0_2.out x3_1 p579 q579
          have hw579_4 := hx579_4
          have hw579_3 := hx579_3
          have hw579_2 := hx579_2
          have hw579_1 := hx579_1
          have hw579_0 := hx579_0
          cases e579
          replace hx579_0 := hc_ HB hx579_0
          replace hx579_1 := hc_ HB hx579_1
          replace hx579_2 := hc_ HB hx579_2
          replace hx579_3 := hc_ HB hx579_3
          replace hx579_4 := hc_ HB hx579_4
          replace p579 := eq_true p579
          replace q579 := eq_true q579
          refine start_ (n := 42) (S := fun w' => w'.cell? ⟨gb578, 0, none⟩ = some (.int .i64 a0_0) ∧ w'.cell? ⟨gb578, 1, none⟩ = some (.int .i64 a0_1) ∧ w'.cell? ⟨gb578, 2, none⟩ = some (.slice (some ad579) l0_2.length c0_2) ∧ w'.cell? (ad579.add ((x3_1).toNat * 5)) = some (.int .i64 ((rd_Item l0_2 x3_1).f0)) ∧ w'.cell? ⟨(ad579.add ((x3_1).toNat * 5)).block, (ad579.add ((x3_1).toNat * 5)).off + 1, none⟩ = some (.string ((rd_Item l0_2 x3_1).f1)) ∧ w'.cell? ⟨(ad579.add ((x3_1).toNat * 5)).block, (ad579.add ((x3_1).toNat * 5)).off + 2, none⟩ = some (.string ((rd_Item l0_2 x3_1).f2)) ∧ w'.cell? ⟨(ad579.add ((x3_1).toNat * 5)).block, (ad579.add ((x3_1).toNat * 5)).off + 3, none⟩ = some (.int .i64 ((rd_Item l0_2 x3_1).f3)) ∧ w'.cell? ⟨(ad579.add ((x3_1).toNat * 5)).block, (ad579.add ((x3_1).toNat * 5)).off + 4, none⟩ = some (.int .i64 ((rd_Item l0_2 x3_1).f4))) (ds := []) spec_RowOk.m0 (by kernel_rfl) rfl rfl ⟨bc_ BK578 0, bc_ BK578 1, bc_ BK578 2, (hd_ HB hw579_0), (hd_ HB hw579_1), (hd_ HB hw579_2), (hd_ HB hw579_3), (hd_ HB hw579_4)⟩ (fun hHeld => ?_); refine with_tabW spec_RowOk.tab4 spec_RowOk.bits4 (fun HT_ HW_ => ?_)
          generalize wc.drew = w24 at BK578 HB hx579_0 hx579_1 hx579_2 hx579_3 hx579_4 hHeld ⊢
          refine pI_ 0 11 HT_ spec_RowOk.m1 rfl rfl ?_
          refine pI_ 2 13 HT_ spec_RowOk.m2 rfl rfl ?_
          refine tk_ 1 12 HT_ HW_ spec_RowOk.m3 rfl rfl hHeld ?_
          refine pI_ 3 14 HT_ spec_RowOk.m4 rfl rfl ?_
          refine tk_ 4 15 HT_ HW_ spec_RowOk.m5 rfl rfl hHeld ?_
          refine on_ 5 16 HT_ spec_RowOk.m6 rfl rfl (fun K hK => ?_)
          refine goes_ Try.func100 (by kernel_rfl) rfl #[.agg #[.int .i64 ((rd_Item l0_2 x3_1).f0), .string ((rd_Item l0_2 x3_1).f1), .string ((rd_Item l0_2 x3_1).f2), .int .i64 ((rd_Item l0_2 x3_1).f3), .int .i64 ((rd_Item l0_2 x3_1).f4)]] (by rfl) rfl rfl sm_ ?_
          with_reducible refine (spec_l3Item.calls kj3 ((rd_Item l0_2 x3_1).f0) ((rd_Item l0_2 x3_1).f1) ((rd_Item l0_2 x3_1).f2) ((rd_Item l0_2 x3_1).f3) ((rd_Item l0_2 x3_1).f4) false _ A10.out).mono ?_
          rintro e w25 ⟨rfl, hb⟩
          refine ⟨_, rfl, ?_⟩
          replace BK578 := cb_ BK578 hb
          replace HB := ch_ HB hb
          (try clear hb)
          refine hK.out _ _ ⟨bc_ BK578 0, bc_ BK578 1, bc_ BK578 2, (hd_ HB hw579_0), (hd_ HB hw579_1), (hd_ HB hw579_2), (hd_ HB hw579_3), (hd_ HB hw579_4)⟩ (fun hHeld => ?_)
          clear hK K
          refine nm_ ?_
          refine pI_ 6 17 HT_ spec_RowOk.m7 rfl rfl ?_
          refine pI_ 7 18 HT_ spec_RowOk.m8 rfl rfl ?_
          refine pU_ 8 19 HT_ spec_RowOk.m9 rfl rfl ?_
          refine pU_ 9 20 HT_ #[true, true, true, true, true, true, true, true, true, true, false, false, false, false, false, false, false, false, false, false, false, false, false, false, false, false, false, false, false, false, false, false, false, false, false, false, false, false, false, false, false, false] rfl rfl ?_
          refine pU_ 10 21 HT_ #[true, true, true, true, true, true, true, true, true, true, true, false, false, false, false, false, false, false, false, false, false, false, false, false, false, false, false, false, false, false, false, false, false, false, false, false, false, false, false, false, false, false] rfl rfl ?_
          refine pU_ 11 22 HT_ #[true, true, true, true, true, true, true, true, true, true, true, true, false, false, false, false, false, false, false, false, false, false, false, false, false, false, false, false, false, false, false, false, false, false, false, false, false, false, false, false, false, false] rfl rfl ?_
          refine pU_ 12 23 HT_ #[true, true, true, true, true, true, true, true, true, true, true, true, true, false, false, false, false, false, false, false, false, false, false, false, false, false, false, false, false, false, false, false, false, false, false, false, false, false, false, false, false, false] rfl rfl ?_
          refine pU_ 13 24 HT_ #[true, true, true, true, true, true, true, true, true, true, true, true, true, true, false, false, false, false, false, false, false, false, false, false, false, false, false, false, false, false, false, false, false, false, false, false, false, false, false, false, false, false] rfl rfl ?_
          refine pU_ 14 25 HT_ #[true, true, true, true, true, true, true, true, true, true, true, true, true, true, true, false, false, false, false, false, false, false, false, false, false, false, false, false, false, false, false, false, false, false, false, false, false, false, false, false, false, false] rfl rfl ?_
          refine pU_ 15 26 HT_ #[true, true, true, true, true, true, true, true, true, true, true, true, true, true, true, true, false, false, false, false, false, false, false, false, false, false, false, false, false, false, false, false, false, false, false, false, false, false, false, false, false, false] rfl rfl ?_
          refine pU_ 16 27 HT_ spec_RowOk.m17 rfl rfl ?_
          refine pU_ 17 28 HT_ spec_RowOk.m18 rfl rfl ?_
          refine pU_ 18 29 HT_ spec_RowOk.m19 rfl rfl ?_
          refine pU_ 19 30 HT_ spec_RowOk.m20 rfl rfl ?_
          refine pU_ 20 31 HT_ spec_RowOk.m21 rfl rfl ?_
          refine pI_ 21 32 HT_ spec_RowOk.m22 rfl rfl ?_
          refine pI_ 22 33 HT_ spec_RowOk.m23 rfl rfl ?_
          refine pU_ 23 34 HT_ spec_RowOk.m24 rfl rfl ?_
          refine pU_ 24 35 HT_ spec_RowOk.m25 rfl rfl ?_
          refine pU_ 25 36 HT_ spec_RowOk.m26 rfl rfl ?_
          refine pU_ 26 37 HT_ spec_RowOk.m27 rfl rfl ?_
          refine pU_ 27 38 HT_ spec_RowOk.m35 rfl rfl ?_
          refine pU_ 28 39 HT_ spec_RowOk.m36 rfl rfl ?_
          refine pU_ 29 40 HT_ spec_RowOk.m37 rfl rfl ?_
          refine pU_ 30 41 HT_ spec_RowOk.m38 rfl rfl ?_
          refine pU_ 31 42 HT_ spec_RowOk.m39 rfl rfl ?_
          refine pU_ 32 43 HT_ spec_RowOk.m40 rfl rfl ?_
          refine pU_ 33 44 HT_ spec_RowOk.m41 rfl rfl ?_
          refine pU_ 34 45 HT_ spec_RowOk.m42 rfl rfl ?_
          refine pU_ 35 46 HT_ spec_RowOk.m28 rfl rfl ?_
          refine pU_ 36 47 HT_ spec_RowOk.m29 rfl rfl ?_
          refine pU_ 37 48 HT_ spec_RowOk.m30 rfl rfl ?_
          refine pU_ 38 49 HT_ spec_RowOk.m31 rfl rfl ?_
          refine pU_ 39 50 HT_ spec_RowOk.m32 rfl rfl ?_
          refine pU_ 40 51 HT_ spec_RowOk.m33 rfl rfl ?_
          refine pI_ 41 52 HT_ spec_RowOk.m34 rfl rfl ?_
          refine done_ (done_of HT_.out (by kernel_rfl)) ?_
          try go_wp2
          go_meet
          case rel => exact ⟨_, (true), (qc1_), H', ⟨qc11_⟩, ⟨bq_ BK578.out⟩, ⟨hb_ HB.out⟩⟩
        ·
         rw [if_neg c9] at H
         exact absurd H (by simp)
       ·
        rw [if_neg c8] at H
        exact absurd H (by simp)
      case rest =>
       clear HC7
       obtain ⟨kq, x52_6, rfl, HA, HJ6, BK578, HB⟩ := hcut
       cases kq with
       | zero => exact absurd HA.out (by simp [spec_RowOk.j2])
       | succ kj6 =>
        have H := HA.out
        clear HA
        simp only [spec_RowOk.j2] at H
        by_cases c26 : x52_6 = true
        ·
         subst c26
         have H1 : (some false) = some r := by rw [if_pos rfl] at H; exact H
         clear H
         have H := H1
         clear H1
         obtain rfl := Option.some.inj H
         go_wp2
         go_ret
         exact ⟨er_, hb_ HB.out⟩
        ·
         replace c26 := Bool.eq_false_iff.mpr c26
         subst c26
         have H1 : (spec_RowOk.l0 kj6 (wrap64 (x3_1 + 1)) a0_0 a0_1 l0_2) = some r := by rw [if_neg (show ¬ (false = true) by decide)] at H; exact H
         clear H
         have H := H1
         clear H1
         have H' := Aside0.mk H
         clear H
         go_wp2
         go_roundg kj6
         case measure => have := HK1.out; have := HJ3.out; have := HJ6.out; omega
         case rel => exact ⟨(wrap64 (x3_1 + 1)), (qc1_), H', ⟨by have := HK1.out; have := HJ3.out; have := HJ6.out; omega⟩, ⟨bq_ BK578.out⟩, ⟨hb_ HB.out⟩⟩
 case rest =>
  clear HC2
  obtain ⟨kq, HA, HJ1, BK578, HB⟩ := hcut
  cases kq with
  | zero => exact absurd HA.out (by simp [spec_RowOk.j3])
  | succ kj1 =>
   have H := HA.out
   clear HA
   simp only [spec_RowOk.j3] at H
   replace H := Option.bind_eq_some_iff.mp H
   obtain ⟨t585, A270, H⟩ := H
   replace H : (if t585 = true then (if a0_1 ≤ 100000 then (some (decide ((l0_2.length : Int) ≤ 80))) else (some false)) else (some false)) = some r := H
   have A27 := Aside0.mk A270
   clear A270
   by_cases c28 : t585 = true
   ·
    subst c28
    have H1 : (if a0_1 ≤ 100000 then (some (decide ((l0_2.length : Int) ≤ 80))) else (some false)) = some r := by rw [if_pos rfl] at H; exact H
    clear H
    have H := H1
    clear H1
    by_cases c29 : a0_1 ≤ 100000
    ·
     rw [if_pos c29] at H
     have c29b0 : decide (a0_1 ≤ 100000) = true := decide_eq_true c29
     clear c29
     obtain rfl := Option.some.inj H
     have hcz30_0 : wc.cell? ⟨gb578, 0, none⟩ = some (.int .i64 a0_0) := bc_ BK578 0
     have hcz30_1 : wc.cell? ⟨gb578, 1, none⟩ = some (.int .i64 a0_1) := bc_ BK578 1
     have hcz30_2 : wc.cell? ⟨gb578, 2, none⟩ = some (.slice A0_2 l0_2.length c0_2) := bc_ BK578 2
     have hfz30_0 := blk_frozen BK578.out 0
     have hfz30_1 := blk_frozen BK578.out 1
     have hfz30_2 := blk_frozen BK578.out 2
     go_wp2_with (first | ((with_reducible refine gate_callee (f := 74) rfl ?_); refine goesL_ (some 57) rfl rfl Try.func74 (by kernel_rfl) rfl #[.int .i64 a0_0, .int .i64 0, .int .i64 a0_1] rfl sm_ ?_; (with_reducible refine (spec_l1In.calls a0_0 0 a0_1 true _ A27.out).mono ?_); rintro e w' ⟨rfl, ⟨nd, rfl⟩⟩; refine ⟨_, rfl, ?_⟩))
     go_ret
     exact ⟨er_, hb_ HB.out⟩
    ·
     rw [if_neg c29] at H
     have c29b0 : decide (a0_1 ≤ 100000) = false := decide_eq_false c29
     clear c29
     obtain rfl := Option.some.inj H
     have hcz31_0 : wc.cell? ⟨gb578, 0, none⟩ = some (.int .i64 a0_0) := bc_ BK578 0
     have hcz31_1 : wc.cell? ⟨gb578, 1, none⟩ = some (.int .i64 a0_1) := bc_ BK578 1
     have hcz31_2 : wc.cell? ⟨gb578, 2, none⟩ = some (.slice A0_2 l0_2.length c0_2) := bc_ BK578 2
     have hfz31_0 := blk_frozen BK578.out 0
     have hfz31_1 := blk_frozen BK578.out 1
     have hfz31_2 := blk_frozen BK578.out 2
     go_wp2_with (first | ((with_reducible refine gate_callee (f := 74) rfl ?_); refine goesL_ (some 57) rfl rfl Try.func74 (by kernel_rfl) rfl #[.int .i64 a0_0, .int .i64 0, .int .i64 a0_1] rfl sm_ ?_; (with_reducible refine (spec_l1In.calls a0_0 0 a0_1 true _ A27.out).mono ?_); rintro e w' ⟨rfl, ⟨nd, rfl⟩⟩; refine ⟨_, rfl, ?_⟩))
     go_ret
     exact ⟨er_, hb_ HB.out⟩
   ·
    replace c28 := Bool.eq_false_iff.mpr c28
    subst c28
    have H1 : (some false) = some r := by rw [if_neg (show ¬ (false = true) by decide)] at H; exact H
    clear H
    have H := H1
    clear H1
    obtain rfl := Option.some.inj H
    have hcz32_0 : wc.cell? ⟨gb578, 0, none⟩ = some (.int .i64 a0_0) := bc_ BK578 0
    have hcz32_1 : wc.cell? ⟨gb578, 1, none⟩ = some (.int .i64 a0_1) := bc_ BK578 1
    have hcz32_2 : wc.cell? ⟨gb578, 2, none⟩ = some (.slice A0_2 l0_2.length c0_2) := bc_ BK578 2
    have hfz32_0 := blk_frozen BK578.out 0
    have hfz32_1 := blk_frozen BK578.out 1
    have hfz32_2 := blk_frozen BK578.out 2
    go_wp2_with (first | ((with_reducible refine gate_callee (f := 74) rfl ?_); refine goesL_ (some 57) rfl rfl Try.func74 (by kernel_rfl) rfl #[.int .i64 a0_0, .int .i64 0, .int .i64 a0_1] rfl sm_ ?_; (with_reducible refine (spec_l1In.calls a0_0 0 a0_1 false _ A27.out).mono ?_); rintro e w' ⟨rfl, ⟨nd, rfl⟩⟩; refine ⟨_, rfl, ?_⟩))
    go_ret
    exact ⟨er_, hb_ HB.out⟩
/-! ### spec_RowTrim: function 13 -/
mutual
def spec_RowTrim.j0 : Nat → Int → Int → Bool → Int → Int → List (S_Item) → Int → Int → List (S_Item) → Option (Int × Int × (List (S_Item)))
 | 0, _, _, _, _, _, _, _, _, _ => none
 | k + 1, x1, x2, x22, x587000, x587001, x587002, x594000, x594001, x594002 => if x22 = true then (some (x594000, x594001, x594002)) else (spec_RowTrim.l0 k x1 x2 x587000 x587001 x587002 x594000 x594001 x594002)
def spec_RowTrim.l0 : Nat → Int → Int → Int → Int → List (S_Item) → Int → Int → List (S_Item) → Option (Int × Int × (List (S_Item)))
 | 0, _, _, _, _, _, _, _, _ => none
 | k + 1, x1, x2, x587000, x587001, x587002, x594000, x594001, x594002 => if (x594002.length : Int) > x2 then (if 0 < (x594002.length : Int) then (if x1 = 0 then (none) else (if (wrap64 (Int.tdiv ((rd_Item x594002 0).f0) x1)) = (wrap64 (Int.tdiv (wrap64 (x587001 - 1)) x1)) then (some (x594000, x594001, x594002)) else (spec_RowTrim.l1 k x1 x2 (wrap64 (Int.tdiv ((rd_Item x594002 0).f0) x1)) 0 x587000 x587001 x587002 x594000 x594001 x594002))) else (none)) else (some (x594000, x594001, x594002))
def spec_RowTrim.l1 : Nat → Int → Int → Int → Int → Int → Int → List (S_Item) → Int → Int → List (S_Item) → Option (Int × Int × (List (S_Item)))
 | 0, _, _, _, _, _, _, _, _, _, _ => none
 | k + 1, x1, x2, x8, x9, x587000, x587001, x587002, x594000, x594001, x594002 => if x9 < (x594002.length : Int) then (if 0 ≤ x9 then (if x1 = 0 then (none) else (if (wrap64 (Int.tdiv ((rd_Item x594002 x9).f0) x1)) = x8 then (spec_RowTrim.l1 k x1 x2 x8 (wrap64 (x9 + 1)) x587000 x587001 x587002 x594000 x594001 x594002) else ((some (([] : List (S_Item)) : List (S_Item))).bind fun y597 => (if x9 ≤ (x594002.length : Int) then ((some (x594002.drop (x9 : Int).toNat : List (S_Item))).bind fun y600 => (if y597.length + y600.length < 2513169434916 then (spec_RowTrim.l0 k x1 x2 x587000 x587001 x587002 (wrap64 ((wrap64 (x8 + 1)) * x1)) x594001 (y597 ++ y600)) else (none))) else (none))))) else (none)) else ((some (([] : List (S_Item)) : List (S_Item))).bind fun y607 => (if 0 ≤ x9 then (if x9 ≤ (x594002.length : Int) then ((some (x594002.drop (x9 : Int).toNat : List (S_Item))).bind fun y610 => (if y607.length + y610.length < 2513169434916 then (spec_RowTrim.l0 k x1 x2 x587000 x587001 x587002 (wrap64 ((wrap64 (x8 + 1)) * x1)) x594001 (y607 ++ y610)) else (none))) else (none)) else (none)))
end
def spec_RowTrim.f (k : Nat) (a0_0 : Int) (a0_1 : Int) (l0_2 : List (S_Item)) (a1 : Int) (a2 : Int) : Option (Int × Int × (List (S_Item))) := (spec_l3Copy.f a0_0 a0_1 l0_2).bind fun bt588 => (if a1 < 1 then (spec_RowTrim.j0 k a1 a2 true a0_0 a0_1 l0_2 bt588.1 bt588.2.1 bt588.2.2) else (if a2 < 0 then (spec_RowTrim.j0 k a1 a2 true a0_0 a0_1 l0_2 bt588.1 bt588.2.1 bt588.2.2) else ((spec_RowOk.f k a0_0 a0_1 l0_2).bind fun t594 => (spec_RowTrim.j0 k a1 a2 (!t594) a0_0 a0_1 l0_2 bt588.1 bt588.2.1 bt588.2.2))))
theorem spec_RowTrim.mono_l : ∀ k, (∀ y0 y1 y2 y3 y4 y5 y6 y7 y8, LeO (spec_RowTrim.j0 k y0 y1 y2 y3 y4 y5 y6 y7 y8) (spec_RowTrim.j0 (k + 1) y0 y1 y2 y3 y4 y5 y6 y7 y8)) ∧ (∀ y0 y1 y2 y3 y4 y5 y6 y7, LeO (spec_RowTrim.l0 k y0 y1 y2 y3 y4 y5 y6 y7) (spec_RowTrim.l0 (k + 1) y0 y1 y2 y3 y4 y5 y6 y7)) ∧ (∀ y0 y1 y2 y3 y4 y5 y6 y7 y8 y9, LeO (spec_RowTrim.l1 k y0 y1 y2 y3 y4 y5 y6 y7 y8 y9) (spec_RowTrim.l1 (k + 1) y0 y1 y2 y3 y4 y5 y6 y7 y8 y9))
 | 0 => ⟨fun _ _ _ _ _ _ _ _ _ r h => by simp [spec_RowTrim.j0] at h, fun _ _ _ _ _ _ _ _ r h => by simp [spec_RowTrim.l0] at h, fun _ _ _ _ _ _ _ _ _ _ r h => by simp [spec_RowTrim.l1] at h⟩
 | k + 1 => by
  obtain ⟨ih0, ih1, ih2⟩ := spec_RowTrim.mono_l k
  refine ⟨?_, ?_, ?_⟩
  ·
   intro y0 y1 y2 y3 y4 y5 y6 y7 y8
   unfold spec_RowTrim.j0
   exact qch2_
  ·
   intro y0 y1 y2 y3 y4 y5 y6 y7
   unfold spec_RowTrim.l0
   exact qch2_
  ·
   intro y0 y1 y2 y3 y4 y5 y6 y7 y8 y9
   unfold spec_RowTrim.l1
   exact qch2_
theorem spec_RowTrim.mono : ∀ a0 a1 a2 a3 a4 k, LeO (spec_RowTrim.f k a0 a1 a2 a3 a4) (spec_RowTrim.f (k + 1) a0 a1 a2 a3 a4) := by
 intro a0 a1 a2 a3 a4 k
 obtain ⟨ih0, ih1, ih2⟩ := spec_RowTrim.mono_l k
 unfold spec_RowTrim.f
 exact qch2_
set_option maxHeartbeats 8000000 in
set_option maxRecDepth 100000 in
theorem spec_RowTrim.calls (k : Nat) (a0_0 : Int) (a0_1 : Int) (A0_2 : Option Addr) (c0_2 : Nat) (l0_2 : List (S_Item)) (a1 : Int) (a2 : Int) (r1 : Int) (r2 : Int) (r3 : List (S_Item)) (w : World) (hr0_2 : Kd.C k_Item w A0_2 l0_2.length l0_2) (hc0_2 : l0_2.length ≤ c0_2) (h : spec_RowTrim.f k a0_0 a0_1 l0_2 a1 a2 = some (r1, r2, r3)) :
 Calls Try.prog 13 #[.agg #[.int .i64 a0_0, .int .i64 a0_1, .slice A0_2 l0_2.length c0_2], .int .i64 a1, .int .i64 a2] w fun e w' => ∃ v2_ : Value, e = .returned (.agg #[.int .i64 r1, .int .i64 r2, v2_]) ∧ Kd.R k_Item 33 w' w.heap.size (fun _ => True) v2_ r3 ∧ Below w.heap.size w w' := by
 have hu26 := Try.underlying26
 have HR0_2 := Aside0.mk hr0_2
 have HC0_2 := Aside0.mk hc0_2
 clear hr0_2 hc0_2
 have HB := Aside0.mk (Below.refl w.heap.size w)
 have H : ((spec_l3Copy.f a0_0 a0_1 l0_2).bind fun bt588 => (if a1 < 1 then (spec_RowTrim.j0 k a1 a2 true a0_0 a0_1 l0_2 bt588.1 bt588.2.1 bt588.2.2) else (if a2 < 0 then (spec_RowTrim.j0 k a1 a2 true a0_0 a0_1 l0_2 bt588.1 bt588.2.1 bt588.2.2) else ((spec_RowOk.f k a0_0 a0_1 l0_2).bind fun t594 => (spec_RowTrim.j0 k a1 a2 (!t594) a0_0 a0_1 l0_2 bt588.1 bt588.2.1 bt588.2.2))))) = some (r1, r2, r3) := h
 clear h
 replace H := Option.bind_eq_some_iff.mp H
 obtain ⟨⟨t588, t589, t590⟩, A40, H⟩ := H
 replace H : (if a1 < 1 then (spec_RowTrim.j0 k a1 a2 true a0_0 a0_1 l0_2 t588 t589 t590) else (if a2 < 0 then (spec_RowTrim.j0 k a1 a2 true a0_0 a0_1 l0_2 t588 t589 t590) else ((spec_RowOk.f k a0_0 a0_1 l0_2).bind fun t594 => (spec_RowTrim.j0 k a1 a2 (!t594) a0_0 a0_1 l0_2 t588 t589 t590)))) = some (r1, r2, r3) := H
 have A4 := Aside0.mk A40
 clear A40
 have HC5 := Aside0.mk H
 clear H
 go_enter Try.func13, Try.ntmps13
 go_upto_region 2 with (first | ((with_reducible refine gate_dst (N := 3) rfl ?_); refine box_event ?hg (N := 3) ?hd (cs := #[.int .i64 a0_0, .int .i64 a0_1, .slice A0_2 l0_2.length c0_2]) (t := 26) ?hr ?_; (case hd => rfl); (case hg => rfl); (case hr => first | (go_simp; done) | (go_simp; rfl)); intro gb586 hg w6 hbox hb; have BK586 := Aside0.mk (hbox); have GW586 := cz_ HB hg; have GE586 := cz_ HB hg; replace HB := ch_ HB hb; clear hb hbox hg) | ((with_reducible refine gate_dst (N := 6) rfl ?_); refine box_event ?hg (N := 6) ?hd (cs := #[.int .i64 0, .int .i64 0, .slice none 0 0]) (t := 26) ?hr ?_; (case hd => rfl); (case hg => rfl); (case hr => first | (go_simp; done) | (go_simp; rfl)); intro gb587 hg w7 hbox hb; have BK587 := Aside0.mk (hbox); have GW587 := cz_ HB hg; have GE587 := cz_ HB hg; have NB586_587 := cn_ BK586 hg; have NB587_586 := cm_ BK586 hg; replace BK586 := cb_ BK586 hb; replace HB := ch_ HB hb; clear hb hbox hg; have hnb8 := NB586_587.out; have hnc8 := NB587_586.out; have hcz9_0 : w7.cell? ⟨gb586, 0, none⟩ = some (.int .i64 a0_0) := bc_ BK586 0; have hcz9_1 : w7.cell? ⟨gb586, 1, none⟩ = some (.int .i64 a0_1) := bc_ BK586 1; have hcz9_2 : w7.cell? ⟨gb586, 2, none⟩ = some (.slice A0_2 l0_2.length c0_2) := bc_ BK586 2; have hfz9_0 := blk_frozen BK586.out 0; have hfz9_1 := blk_frozen BK586.out 1; have hfz9_2 := blk_frozen BK586.out 2) | ((with_reducible refine gate_callee (f := 56) rfl ?_); refine goesL_ (some 11) rfl rfl Try.func56 (by kernel_rfl) rfl #[.agg #[.int .i64 a0_0, .int .i64 a0_1, .slice A0_2 l0_2.length c0_2]] rfl sm_ ?_; (with_reducible refine (spec_l3Copy.calls a0_0 a0_1 _ _ l0_2 t588 t589 t590 _ ?side1 ?side2 A4.out).mono ?_); (case side1 => repeat (first | exact (Kd.C_below HR0_2.out HB.out) | (with_reducible refine Kd.C_alloc ?_ _) | (with_reducible refine Kd.C_drewN ?_ _) | (with_reducible refine Kd.C_drew ?_))); (case side2 => exact HC0_2.out); rintro e w10 ⟨v591, rfl, ho0, hb⟩; refine ⟨_, rfl, ?_⟩; have HO592 := Aside0.mk (Kd.R_lower ho0 (below_size (hb_ HB.out))); replace BK586 := cb_ BK586 hb; replace BK587 := cb_ BK587 hb; replace HB := ch_ HB hb; (try clear hb); (try clear hb2); (try clear hk); (try clear hi); (try clear ho0)) | ((with_reducible refine gate_dst (N := 7) rfl ?_); refine box_event ?hg (N := 7) ?hd (cs := #[.int .i64 0, .int .i64 0, .slice none 0 0]) (t := 26) ?hr ?_; (case hd => rfl); (case hg => rfl); (case hr => first | (go_simp; done) | (go_simp; rfl)); intro gb593 hg w11 hbox hb; have BK593 := Aside0.mk (hbox); have GW593 := cz_ HB hg; have GE593 := cz_ HB hg; have NB586_593 := cn_ BK586 hg; have NB593_586 := cm_ BK586 hg; have NB587_593 := cn_ BK587 hg; have NB593_587 := cm_ BK587 hg; replace HO592 := cr_ HO592 hb; replace BK586 := cb_ BK586 hb; replace BK587 := cb_ BK587 hb; replace HB := ch_ HB hb; clear hb hbox hg; have hnb12 := NB593_586.out; have hnc12 := NB586_593.out; have hnb13 := NB593_587.out; have hnc13 := NB587_593.out; have hcz14_0 : w11.cell? ⟨gb593, 0, none⟩ = some (.int .i64 0) := bc_ BK593 0; have hcz14_1 : w11.cell? ⟨gb593, 1, none⟩ = some (.int .i64 0) := bc_ BK593 1; have hcz14_2 : w11.cell? ⟨gb593, 2, none⟩ = some (.slice none 0 0) := bc_ BK593 2; have hfz14_0 := blk_frozen BK593.out 0; have hfz14_1 := blk_frozen BK593.out 1; have hfz14_2 := blk_frozen BK593.out 2; obtain ⟨Ao15, co15, eo15⟩ := Kd.R_slice HO592.out; subst eo15))
 (try simp only [Act.put, List.setIfInBounds_toArray, List.set_cons_zero, List.set_cons_succ])
 go_cut [22] (fun v22 wc => ∃ (kq : Nat) (x22_4 : Bool), v22 = .bool x22_4 ∧ Aside0 (spec_RowTrim.j0 kq a1 a2 x22_4 a0_0 a0_1 l0_2 t588 t589 t590 = some (r1, r2, r3)) ∧ Aside0 (kq ≤ k) ∧ Aside0 (Kd.R k_Item 33 wc w.heap.size (fun _ => True) (.slice Ao15 t590.length co15) t590) ∧ Aside0 (wc.heap[gb586]? = some (.cells #[.int .i64 a0_0, .int .i64 a0_1, (.slice A0_2 l0_2.length c0_2)] 26 (0, 0))) ∧ Aside0 (wc.heap[gb587]? = some (.cells #[.int .i64 0, .int .i64 0, (.slice none 0 0)] 26 (0, 0))) ∧ Aside0 (wc.heap[gb593]? = some (.cells #[.int .i64 t588, .int .i64 t589, (.slice Ao15 t590.length co15)] 26 (0, 0))) ∧ Aside0 (Below w.heap.size w wc))
 case first =>
  have H := HC5.out
  clear HC5
  by_cases c16 : a1 < 1
  ·
   rw [if_pos c16] at H
   have c16b0 : decide (a1 < 1) = true := decide_eq_true c16
   clear c16
   (first | rw [c16b0] | (simp only [i64_w, i32_w]; rw [c16b0]) | rw [c16b4] | rw [c16b3] | skip)
   have H' := Aside0.mk H
   clear H
   go_wp2
   go_meet
   case rel => exact ⟨_, (true), (qc1_), H', ⟨by first | omega | exact Nat.le_refl _⟩, ⟨qc7_⟩, ⟨bf_ NB586_593.out BK586.out⟩, ⟨bf_ NB587_593.out BK587.out⟩, ⟨bp_ BK593.out⟩, ⟨hb_ HB.out⟩⟩
  ·
   rw [if_neg c16] at H
   have c16b0 : decide (a1 < 1) = false := decide_eq_false c16
   clear c16
   (first | rw [c16b0] | (simp only [i64_w, i32_w]; rw [c16b0]) | rw [c16b4] | rw [c16b3] | skip)
   by_cases c17 : a2 < 0
   ·
    rw [if_pos c17] at H
    have c17b0 : decide (a2 < 0) = true := decide_eq_true c17
    clear c17
    have H' := Aside0.mk H
    clear H
    go_wp2
    go_meet
    case rel => exact ⟨_, (true), (qc1_), H', ⟨by first | omega | exact Nat.le_refl _⟩, ⟨qc7_⟩, ⟨bf_ NB586_593.out BK586.out⟩, ⟨bf_ NB587_593.out BK587.out⟩, ⟨bp_ BK593.out⟩, ⟨hb_ HB.out⟩⟩
   ·
    rw [if_neg c17] at H
    have c17b0 : decide (a2 < 0) = false := decide_eq_false c17
    clear c17
    replace H := Option.bind_eq_some_iff.mp H
    obtain ⟨t594, A180, H⟩ := H
    replace H : (spec_RowTrim.j0 k a1 a2 (!t594) a0_0 a0_1 l0_2 t588 t589 t590) = some (r1, r2, r3) := H
    have A18 := Aside0.mk A180
    clear A180
    have H' := Aside0.mk H
    clear H
    have hnb19 := NB586_587.out
    have hnc19 := NB587_586.out
    have hnb20 := NB586_593.out
    have hnc20 := NB593_586.out
    have hcz21_0 : w11.cell? ⟨gb586, 0, none⟩ = some (.int .i64 a0_0) := bc_ BK586 0
    have hcz21_1 : w11.cell? ⟨gb586, 1, none⟩ = some (.int .i64 a0_1) := bc_ BK586 1
    have hcz21_2 : w11.cell? ⟨gb586, 2, none⟩ = some (.slice A0_2 l0_2.length c0_2) := bc_ BK586 2
    have hfz21_0 := blk_frozen BK586.out 0
    have hfz21_1 := blk_frozen BK586.out 1
    have hfz21_2 := blk_frozen BK586.out 2
    go_wp2_with (first | (go_at_call 57; (with_reducible refine (spec_RowOk.calls k a0_0 a0_1 _ _ l0_2 t594 _ ?side1 ?side2 A18.out).mono ?_); (case side1 => exact Kd.C_below HR0_2.out (hb_ HB.out)); (case side2 => exact HC0_2.out); rintro e w22 ⟨rfl, hb⟩; replace HO592 := Aside0.mk (Kd.R_below (rk_ HO592.out BK593.out) hb); replace BK586 := Aside0.mk (blk_below (g := gb586) (o := .cells #[.int .i64 a0_0, .int .i64 a0_1, .slice A0_2 l0_2.length c0_2] 26 (0, 0)) (bf_ NB586_593.out BK586.out) hb); replace BK587 := Aside0.mk (blk_below (g := gb587) (o := .cells #[.int .i64 0, .int .i64 0, .slice none 0 0] 26 (0, 0)) (bf_ NB587_593.out BK587.out) hb); replace BK593 := Aside0.mk (blk_below (g := gb593) (o := .cells #[.int .i64 t588, .int .i64 t589, .slice Ao15 t590.length co15] 26 (0, 0)) (bp_ BK593.out) hb); replace HB := ch_ HB hb; (try clear hb); (try clear hb2); (try clear hk); (try clear hi)))
    go_meet
    case rel => exact ⟨_, (!t594), (qc1_), H', ⟨by first | omega | exact Nat.le_refl _⟩, ⟨rq_ HO592.out⟩, ⟨bq_ BK586.out⟩, ⟨bq_ BK587.out⟩, ⟨bq_ BK593.out⟩, ⟨hb_ HB.out⟩⟩
 case rest =>
  clear HC5
  (try clear hcz14_0); (try clear hcz14_1); (try clear hcz14_2); (try clear hcz9_0); (try clear hcz9_1); (try clear hcz9_2); (try clear hfz14_0); (try clear hfz14_1); (try clear hfz14_2); (try clear hfz9_0); (try clear hfz9_1); (try clear hfz9_2)
  obtain ⟨kq, x22_4, rfl, HA, HJ4, HO_594002, BK586, BK587, BK593, HB⟩ := hcut
  cases kq with
  | zero => exact absurd HA.out (by simp [spec_RowTrim.j0])
  | succ kj4 =>
   have H := HA.out
   clear HA
   simp only [spec_RowTrim.j0] at H
   by_cases c23 : x22_4 = true
   ·
    subst c23
    have H1 : (some (t588, t589, t590)) = some (r1, r2, r3) := by rw [if_pos rfl] at H; exact H
    clear H
    have H := H1
    clear H1
    simp only [Option.some.injEq, Prod.mk.injEq] at H
    obtain ⟨rfl, rfl, rfl⟩ := H
    have hnb24 := NB593_586.out
    have hnc24 := NB586_593.out
    have hnb25 := NB593_587.out
    have hnc25 := NB587_593.out
    have hcz26_0 : wc.cell? ⟨gb593, 0, none⟩ = some (.int .i64 t588) := bc_ BK593 0
    have hcz26_1 : wc.cell? ⟨gb593, 1, none⟩ = some (.int .i64 t589) := bc_ BK593 1
    have hcz26_2 : wc.cell? ⟨gb593, 2, none⟩ = some (.slice Ao15 t590.length co15) := bc_ BK593 2
    have hfz26_0 := blk_frozen BK593.out 0
    have hfz26_1 := blk_frozen BK593.out 1
    have hfz26_2 := blk_frozen BK593.out 2
    have hnb27 := NB587_586.out
    have hnc27 := NB586_587.out
    have hcz28_0 : wc.cell? ⟨gb587, 0, none⟩ = some (.int .i64 0) := bc_ BK587 0
    have hcz28_1 : wc.cell? ⟨gb587, 1, none⟩ = some (.int .i64 0) := bc_ BK587 1
    have hcz28_2 : wc.cell? ⟨gb587, 2, none⟩ = some (.slice none 0 0) := bc_ BK587 2
    have hfz28_0 := blk_frozen BK587.out 0
    have hfz28_1 := blk_frozen BK587.out 1
    have hfz28_2 := blk_frozen BK587.out 2
    go_wp2
    refine bodyPost_ret (results_cell_row rfl _ _ gb587 26 #[.int .i64 t588, .int .i64 t589, .slice Ao15 t590.length co15] (0, 0) _ rfl (bp_ BK587.out) Try.underlying26 rfl (by kernel_rfl)) rfl ?_
    exact ⟨_, er_, by (with_reducible repeat (first | apply Kd.R_alloc | apply Kd.R_drewN | apply Kd.R_drew)); exact Kd.R_mono (Kd.R_far (p := ⟨gb587, 2, none⟩) (Kd.R_far (p := ⟨gb587, 1, none⟩) (Kd.R_far (p := ⟨gb587, 0, none⟩) (Kd.R_types HO_594002.out BK587.out (by decide)) (fun _ hk => hk.2) (.int .i64 t588)) (fun _ hk => hk.2) (.int .i64 t589)) (fun _ hk => hk.2) (.slice Ao15 t590.length co15)) (fun _ hk => trivial), hb_ HB.out⟩
   ·
    replace c23 := Bool.eq_false_iff.mpr c23
    subst c23
    have H1 : (spec_RowTrim.l0 kj4 a1 a2 a0_0 a0_1 l0_2 t588 t589 t590) = some (r1, r2, r3) := by rw [if_neg (show ¬ (false = true) by decide)] at H; exact H
    clear H
    have H := H1
    clear H1
    have H' := Aside0.mk H
    clear H
    go_wp2
    go_loopg [] kj4 (fun kq w' => ∃ (x588000_2 : Int) (x588001_2 : Int) (x594000_2 : Int) (x594002_2 : List (S_Item)) (u594002 : Value), Aside0 (spec_RowTrim.l0 kq a1 a2 a0_0 a0_1 l0_2 x594000_2 t589 x594002_2 = some (r1, r2, r3)) ∧ Aside0 (kq ≤ kj4) ∧ Aside0 (Kd.R k_Item 33 w' w.heap.size (fun _ => True) u594002 x594002_2) ∧ Aside0 (w'.heap[gb586]? = some (.cells #[.int .i64 a0_0, .int .i64 a0_1, (.slice A0_2 l0_2.length c0_2)] 26 (0, 0))) ∧ Aside0 (w'.heap[gb587]? = some (.cells #[.int .i64 x588000_2, .int .i64 x588001_2, (.slice none 0 0)] 26 (0, 0))) ∧ Aside0 (w'.heap[gb593]? = some (.cells #[.int .i64 x594000_2, .int .i64 t589, u594002] 26 (0, 0))) ∧ Aside0 (Below w.heap.size w w'))
    case atStart => exact ⟨(0), (0), (t588), (t590), (.slice Ao15 t590.length co15), H', ⟨Nat.le_refl _⟩, ⟨rq_ HO_594002.out⟩, ⟨bq_ BK586.out⟩, ⟨bq_ BK587.out⟩, ⟨bq_ BK593.out⟩, ⟨hb_ HB.out⟩⟩
    case round =>
     clear H'
     (try clear c23)
     obtain ⟨x588000_2, x588001_2, x594000_2, x594002_2, u594002, HA, HK2, HO_594002, BK586, BK587, BK593, HB⟩ := hrel
     cases gk with
     | zero => exact absurd HA.out (by simp [spec_RowTrim.l0])
     | succ k2 =>
      have H := HA.out
      clear HA
      simp only [spec_RowTrim.l0] at H
      by_cases c29 : (x594002_2.length : Int) > a2
      ·
       rw [if_pos c29] at H
       have c29b0 : decide (a2 < (x594002_2.length : Int)) = true := decide_eq_true c29
       clear c29
       by_cases c30 : 0 < (x594002_2.length : Int)
       ·
        rw [if_pos c30] at H
        have c30b0 : decide (0 < (x594002_2.length : Int)) = true := decide_eq_true c30
        have c30b1 : decide (0 < x594002_2.length) = true := decide_eq_true (by omega)
        clear c30
        by_cases c31 : a1 = 0
        ·
         rw [if_pos c31] at H
         exact absurd H (by simp)
        ·
         rw [if_neg c31] at H
         have c31b0 : (a1 == 0) = false := beq_eq_false_iff_ne.mpr c31
         have c31b1 : (a1 != 0) = true := bne_iff_ne.mpr c31
         by_cases c32 : (wrap64 (Int.tdiv ((rd_Item x594002_2 0).f0) a1)) = (wrap64 (Int.tdiv (wrap64 (a0_1 - 1)) a1))
         ·
          rw [if_pos c32] at H
          have c32b0 : ((wrap64 (Int.tdiv ((rd_Item x594002_2 0).f0) a1)) == (wrap64 (Int.tdiv (wrap64 (a0_1 - 1)) a1))) = true := beq_iff_eq.mpr c32
          have c32b1 : ((wrap64 (Int.tdiv ((rd_Item x594002_2 0).f0) a1)) != (wrap64 (Int.tdiv (wrap64 (a0_1 - 1)) a1))) = false := bne_eq_false_iff_eq.mpr c32
          clear c32
          simp only [Option.some.injEq, Prod.mk.injEq] at H
          obtain ⟨rfl, rfl, rfl⟩ := H
          have hnb33 := NB593_586.out
          have hnc33 := NB586_593.out
          have hnb34 := NB593_587.out
          have hnc34 := NB587_593.out
          have hcz35_0 : wr.cell? ⟨gb593, 0, none⟩ = some (.int .i64 x594000_2) := bc_ BK593 0
          have hcz35_1 : wr.cell? ⟨gb593, 1, none⟩ = some (.int .i64 t589) := bc_ BK593 1
          have hcz35_2 : wr.cell? ⟨gb593, 2, none⟩ = some (u594002) := bc_ BK593 2
          have hfz35_0 := blk_frozen BK593.out 0
          have hfz35_1 := blk_frozen BK593.out 1
          have hfz35_2 := blk_frozen BK593.out 2
          obtain ⟨Ao36, co36, eo36⟩ := Kd.R_slice HO_594002.out
          subst eo36
          have p595 : 0 ≤ (0 : Int) := (by omega)
          have q595 : 0 < (x594002_2.length : Int) := of_decide_eq_true dt_
          obtain ⟨ad595, e595, hx595_0, hx595_1, hx595_2, hx595_3, hx595_4⟩ := at_Item (Kd.R_reads' HO_594002.out).2.2 0 p595 q595
          cases e595
          have qi595 : (0 < x594002_2.length) = True := eq_true (by omega)
          (try rw [show ((0 : Int)).toNat = 0 from rfl] at hx595_0)
          (try rw [show 0 * 5 = 0 from rfl] at hx595_0)
          (try rw [Addr.add_zero'] at hx595_0)
          (try rw [show ((0 : Int)).toNat = 0 from rfl] at hx595_1)
          (try rw [show 0 * 5 = 0 from rfl] at hx595_1)
          (try rw [Addr.add_zero'] at hx595_1)
          (try rw [show ((0 : Int)).toNat = 0 from rfl] at hx595_2)
          (try rw [show 0 * 5 = 0 from rfl] at hx595_2)
          (try rw [Addr.add_zero'] at hx595_2)
          (try rw [show ((0 : Int)).toNat = 0 from rfl] at hx595_3)
          (try rw [show 0 * 5 = 0 from rfl] at hx595_3)
          (try rw [Addr.add_zero'] at hx595_3)
          (try rw [show ((0 : Int)).toNat = 0 from rfl] at hx595_4)
          (try rw [show 0 * 5 = 0 from rfl] at hx595_4)
          (try rw [Addr.add_zero'] at hx595_4)
          replace p595 := eq_true p595
          replace q595 := eq_true q595
          have hnb37 := NB586_587.out
          have hnc37 := NB587_586.out
          have hcz38_0 : wr.cell? ⟨gb586, 0, none⟩ = some (.int .i64 a0_0) := bc_ BK586 0
          have hcz38_1 : wr.cell? ⟨gb586, 1, none⟩ = some (.int .i64 a0_1) := bc_ BK586 1
          have hcz38_2 : wr.cell? ⟨gb586, 2, none⟩ = some (.slice A0_2 l0_2.length c0_2) := bc_ BK586 2
          have hfz38_0 := blk_frozen BK586.out 0
          have hfz38_1 := blk_frozen BK586.out 1
          have hfz38_2 := blk_frozen BK586.out 2
          have hcz39_0 : wr.cell? ⟨gb587, 0, none⟩ = some (.int .i64 x588000_2) := bc_ BK587 0
          have hcz39_1 : wr.cell? ⟨gb587, 1, none⟩ = some (.int .i64 x588001_2) := bc_ BK587 1
          have hcz39_2 : wr.cell? ⟨gb587, 2, none⟩ = some (.slice none 0 0) := bc_ BK587 2
          have hfz39_0 := blk_frozen BK587.out 0
          have hfz39_1 := blk_frozen BK587.out 1
          have hfz39_2 := blk_frozen BK587.out 2
          go_wp2
          refine bodyPost_ret (results_cell_row rfl _ _ gb587 26 #[.int .i64 x594000_2, .int .i64 t589, .slice (some ad595) x594002_2.length co36] (0, 0) _ rfl (bp_ BK587.out) Try.underlying26 rfl (by kernel_rfl)) rfl ?_
          exact ⟨_, er_, by (with_reducible repeat (first | apply Kd.R_alloc | apply Kd.R_drewN | apply Kd.R_drew)); exact Kd.R_mono (Kd.R_far (p := ⟨gb587, 2, none⟩) (Kd.R_far (p := ⟨gb587, 1, none⟩) (Kd.R_far (p := ⟨gb587, 0, none⟩) (Kd.R_types HO_594002.out BK587.out (by decide)) (fun _ hk => hk.2) (.int .i64 x594000_2)) (fun _ hk => hk.2) (.int .i64 t589)) (fun _ hk => hk.2) (.slice (some ad595) x594002_2.length co36)) (fun _ hk => trivial), hb_ HB.out⟩
         ·
          rw [if_neg c32] at H
          have c32b0 : ((wrap64 (Int.tdiv ((rd_Item x594002_2 0).f0) a1)) == (wrap64 (Int.tdiv (wrap64 (a0_1 - 1)) a1))) = false := beq_eq_false_iff_ne.mpr c32
          have c32b1 : ((wrap64 (Int.tdiv ((rd_Item x594002_2 0).f0) a1)) != (wrap64 (Int.tdiv (wrap64 (a0_1 - 1)) a1))) = true := bne_iff_ne.mpr c32
          have H' := Aside0.mk H
          clear H
          have hnb40 := NB593_586.out
          have hnc40 := NB586_593.out
          have hnb41 := NB593_587.out
          have hnc41 := NB587_593.out
          have hcz42_0 : wr.cell? ⟨gb593, 0, none⟩ = some (.int .i64 x594000_2) := bc_ BK593 0
          have hcz42_1 : wr.cell? ⟨gb593, 1, none⟩ = some (.int .i64 t589) := bc_ BK593 1
          have hcz42_2 : wr.cell? ⟨gb593, 2, none⟩ = some (u594002) := bc_ BK593 2
          have hfz42_0 := blk_frozen BK593.out 0
          have hfz42_1 := blk_frozen BK593.out 1
          have hfz42_2 := blk_frozen BK593.out 2
          obtain ⟨Ao43, co43, eo43⟩ := Kd.R_slice HO_594002.out
          subst eo43
          have p595 : 0 ≤ (0 : Int) := (by omega)
          have q595 : 0 < (x594002_2.length : Int) := of_decide_eq_true dt_
          obtain ⟨ad595, e595, hx595_0, hx595_1, hx595_2, hx595_3, hx595_4⟩ := at_Item (Kd.R_reads' HO_594002.out).2.2 0 p595 q595
          cases e595
          have qi595 : (0 < x594002_2.length) = True := eq_true (by omega)
          (try rw [show ((0 : Int)).toNat = 0 from rfl] at hx595_0)
          (try rw [show 0 * 5 = 0 from rfl] at hx595_0)
          (try rw [Addr.add_zero'] at hx595_0)
          (try rw [show ((0 : Int)).toNat = 0 from rfl] at hx595_1)
          (try rw [show 0 * 5 = 0 from rfl] at hx595_1)
          (try rw [Addr.add_zero'] at hx595_1)
          (try rw [show ((0 : Int)).toNat = 0 from rfl] at hx595_2)
          (try rw [show 0 * 5 = 0 from rfl] at hx595_2)
          (try rw [Addr.add_zero'] at hx595_2)
          (try rw [show ((0 : Int)).toNat = 0 from rfl] at hx595_3)
          (try rw [show 0 * 5 = 0 from rfl] at hx595_3)
          (try rw [Addr.add_zero'] at hx595_3)
          (try rw [show ((0 : Int)).toNat = 0 from rfl] at hx595_4)
          (try rw [show 0 * 5 = 0 from rfl] at hx595_4)
          (try rw [Addr.add_zero'] at hx595_4)
          replace p595 := eq_true p595
          replace q595 := eq_true q595
          have hnb44 := NB586_587.out
          have hnc44 := NB587_586.out
          have hcz45_0 : wr.cell? ⟨gb586, 0, none⟩ = some (.int .i64 a0_0) := bc_ BK586 0
          have hcz45_1 : wr.cell? ⟨gb586, 1, none⟩ = some (.int .i64 a0_1) := bc_ BK586 1
          have hcz45_2 : wr.cell? ⟨gb586, 2, none⟩ = some (.slice A0_2 l0_2.length c0_2) := bc_ BK586 2
          have hfz45_0 := blk_frozen BK586.out 0
          have hfz45_1 := blk_frozen BK586.out 1
          have hfz45_2 := blk_frozen BK586.out 2
          go_wp2
          go_loopg [9] k2 (fun kq v9 w' => ∃ (x9_3 : Int), v9 = .int .i64 x9_3 ∧ Aside0 (spec_RowTrim.l1 kq a1 a2 (wrap64 (Int.tdiv ((rd_Item x594002_2 0).f0) a1)) x9_3 a0_0 a0_1 l0_2 x594000_2 t589 x594002_2 = some (r1, r2, r3)) ∧ Aside0 (kq ≤ k2) ∧ Aside0 (Kd.R k_Item 33 w' w.heap.size (fun _ => True) (.slice (some ad595) x594002_2.length co43) x594002_2) ∧ Aside0 (w'.heap[gb586]? = some (.cells #[.int .i64 a0_0, .int .i64 a0_1, (.slice A0_2 l0_2.length c0_2)] 26 (0, 0))) ∧ Aside0 (w'.heap[gb587]? = some (.cells #[.int .i64 x588000_2, .int .i64 x588001_2, (.slice none 0 0)] 26 (0, 0))) ∧ Aside0 (w'.heap[gb593]? = some (.cells #[.int .i64 x594000_2, .int .i64 t589, (.slice (some ad595) x594002_2.length co43)] 26 (0, 0))) ∧ Aside0 (Below w.heap.size w w'))
          case atStart => exact ⟨(0), (qc1_), H', ⟨Nat.le_refl _⟩, ⟨rq_ HO_594002.out⟩, ⟨bq_ BK586.out⟩, ⟨bq_ BK587.out⟩, ⟨bq_ BK593.out⟩, ⟨hb_ HB.out⟩⟩
          case round =>
           clear H'
           (try clear c29b0); (try clear c30b0); (try clear c30b1); (try clear c31); (try clear c31b0); (try clear c31b1); (try clear c32); (try clear c32b0); (try clear c32b1); (try clear hcz42_0); (try clear hcz42_1); (try clear hcz42_2); (try clear hcz45_0); (try clear hcz45_1); (try clear hcz45_2); (try clear hfz42_0); (try clear hfz42_1); (try clear hfz42_2); (try clear hfz45_0); (try clear hfz45_1); (try clear hfz45_2); (try clear hx595_0); (try clear hx595_1); (try clear hx595_2); (try clear hx595_3); (try clear hx595_4); (try clear p595); (try clear q595)
           obtain ⟨x9_3, rfl, HA, HK3, HO_594002, BK586, BK587, BK593, HB⟩ := hrel
           cases gk with
           | zero => exact absurd HA.out (by simp [spec_RowTrim.l1])
           | succ k3 =>
            have H := HA.out
            clear HA
            simp only [spec_RowTrim.l1] at H
            by_cases c46 : x9_3 < (x594002_2.length : Int)
            ·
             rw [if_pos c46] at H
             have c46b0 : decide (x9_3 < (x594002_2.length : Int)) = true := decide_eq_true c46
             clear c46
             by_cases c47 : 0 ≤ x9_3
             ·
              rw [if_pos c47] at H
              have c47b0 : decide (0 ≤ x9_3) = true := decide_eq_true c47
              clear c47
              by_cases c48 : a1 = 0
              ·
               rw [if_pos c48] at H
               exact absurd H (by simp)
              ·
               rw [if_neg c48] at H
               have c48b0 : (a1 == 0) = false := beq_eq_false_iff_ne.mpr c48
               have c48b1 : (a1 != 0) = true := bne_iff_ne.mpr c48
               by_cases c49 : (wrap64 (Int.tdiv ((rd_Item x594002_2 x9_3).f0) a1)) = (wrap64 (Int.tdiv ((rd_Item x594002_2 0).f0) a1))
               ·
                rw [if_pos c49] at H
                have c49b0 : ((wrap64 (Int.tdiv ((rd_Item x594002_2 x9_3).f0) a1)) == (wrap64 (Int.tdiv ((rd_Item x594002_2 0).f0) a1))) = true := beq_iff_eq.mpr c49
                have c49b1 : ((wrap64 (Int.tdiv ((rd_Item x594002_2 x9_3).f0) a1)) != (wrap64 (Int.tdiv ((rd_Item x594002_2 0).f0) a1))) = false := bne_eq_false_iff_eq.mpr c49
                clear c49
                have H' := Aside0.mk H
                clear H
                have hnb50 := NB593_586.out
                have hnc50 := NB586_593.out
                have hnb51 := NB593_587.out
                have hnc51 := NB587_593.out
                have hcz52_0 : wr.cell? ⟨gb593, 0, none⟩ = some (.int .i64 x594000_2) := bc_ BK593 0
                have hcz52_1 : wr.cell? ⟨gb593, 1, none⟩ = some (.int .i64 t589) := bc_ BK593 1
                have hcz52_2 : wr.cell? ⟨gb593, 2, none⟩ = some (.slice (some ad595) x594002_2.length co43) := bc_ BK593 2
                have hfz52_0 := blk_frozen BK593.out 0
                have hfz52_1 := blk_frozen BK593.out 1
                have hfz52_2 := blk_frozen BK593.out 2
                have p596 : 0 ≤ (x9_3 : Int) := of_decide_eq_true dt_
                have q596 : x9_3 < (x594002_2.length : Int) := of_decide_eq_true dt_
                obtain ⟨ad596, e596, hx596_0, hx596_1, hx596_2, hx596_3, hx596_4⟩ := at_Item (Kd.R_reads' HO_594002.out).2.2 x9_3 p596 q596
                obtain rfl : ad595 = ad596 := (by injection e596)
                replace p596 := eq_true p596
                replace q596 := eq_true q596
                go_wp2
                go_roundg k3
                case measure => have := HJ4.out; have := HK2.out; have := HK3.out; omega
                case rel => exact ⟨(wrap64 (x9_3 + 1)), (qc1_), H', ⟨qc12_⟩, ⟨rq_ HO_594002.out⟩, ⟨bq_ BK586.out⟩, ⟨bq_ BK587.out⟩, ⟨bq_ BK593.out⟩, ⟨hb_ HB.out⟩⟩
               ·
                rw [if_neg c49] at H
                have c49b0 : ((wrap64 (Int.tdiv ((rd_Item x594002_2 x9_3).f0) a1)) == (wrap64 (Int.tdiv ((rd_Item x594002_2 0).f0) a1))) = false := beq_eq_false_iff_ne.mpr c49
                have c49b1 : ((wrap64 (Int.tdiv ((rd_Item x594002_2 x9_3).f0) a1)) != (wrap64 (Int.tdiv ((rd_Item x594002_2 0).f0) a1))) = true := bne_iff_ne.mpr c49
                obtain ⟨y597, hy597⟩ : ∃ y_ : List (S_Item), y_ = (([] : List (S_Item))) := ⟨_, rfl⟩
                replace H : (if x9_3 ≤ (x594002_2.length : Int) then ((some (x594002_2.drop (x9_3 : Int).toNat : List (S_Item))).bind fun y600 => (if y597.length + y600.length < 2513169434916 then (spec_RowTrim.l0 k3 a1 a2 a0_0 a0_1 l0_2 (wrap64 ((wrap64 ((wrap64 (Int.tdiv ((rd_Item x594002_2 0).f0) a1)) + 1)) * a1)) t589 (y597 ++ y600)) else (none))) else (none)) = some (r1, r2, r3) := by first | (rw [hy597]; with_reducible exact H) | (have H2_ := (Option.bind_some _ _).symm.trans H; rw [hy597]; with_reducible exact H2_) | (have H2_ := (Option.bind_some _ _).symm.trans H; with_reducible exact H2_) | with_reducible exact H | (rw [hy597]; exact H) | exact H
                have Ny597 := Aside0.mk hy597
                clear hy597
                have c53b0 := eq_true (of_decide_eq_true dt_ : 0 ≤ x9_3)
                by_cases c54 : x9_3 ≤ (x594002_2.length : Int)
                ·
                 rw [if_pos c54] at H
                 have c54b0 := eq_true c54
                 have c54b1 : decide (x9_3 ≤ (x594002_2.length : Int)) = true := decide_eq_true c54
                 clear c54
                 obtain ⟨y600, hy600⟩ : ∃ y_ : List (S_Item), y_ = (x594002_2.drop (x9_3 : Int).toNat) := ⟨_, rfl⟩
                 replace H : (if y597.length + y600.length < 2513169434916 then (spec_RowTrim.l0 k3 a1 a2 a0_0 a0_1 l0_2 (wrap64 ((wrap64 ((wrap64 (Int.tdiv ((rd_Item x594002_2 0).f0) a1)) + 1)) * a1)) t589 (y597 ++ y600)) else (none)) = some (r1, r2, r3) := by first | (rw [hy600]; with_reducible exact H) | (have H2_ := (Option.bind_some _ _).symm.trans H; rw [hy600]; with_reducible exact H2_) | (have H2_ := (Option.bind_some _ _).symm.trans H; with_reducible exact H2_) | with_reducible exact H | (rw [hy600]; exact H) | exact H
                 have Ny600 := Aside0.mk hy600
                 clear hy600
                 by_cases c55 : y597.length + y600.length < 2513169434916
                 ·
                  rw [if_pos c55] at H
                  have LMc55 := Aside0.mk c55
                  clear c55
                  obtain ⟨y604, hy604⟩ : ∃ y_ : List (S_Item), y_ = (y597 ++ y600) := ⟨_, rfl⟩
                  replace H : (spec_RowTrim.l0 k3 a1 a2 a0_0 a0_1 l0_2 (wrap64 ((wrap64 ((wrap64 (Int.tdiv ((rd_Item x594002_2 0).f0) a1)) + 1)) * a1)) t589 y604) = some (r1, r2, r3) := by first | (rw [hy604]; with_reducible exact H) | (have H2_ := (Option.bind_some _ _).symm.trans H; rw [hy604]; with_reducible exact H2_) | (have H2_ := (Option.bind_some _ _).symm.trans H; with_reducible exact H2_) | with_reducible exact H | (rw [hy604]; exact H) | exact H
                  have Ny604 := Aside0.mk hy604
                  clear hy604
                  have H' := Aside0.mk H
                  clear H
                  have hnb56 := NB593_586.out
                  have hnc56 := NB586_593.out
                  have hnb57 := NB593_587.out
                  have hnc57 := NB587_593.out
                  have hcz58_0 : wr.cell? ⟨gb593, 0, none⟩ = some (.int .i64 x594000_2) := bc_ BK593 0
                  have hcz58_1 : wr.cell? ⟨gb593, 1, none⟩ = some (.int .i64 t589) := bc_ BK593 1
                  have hcz58_2 : wr.cell? ⟨gb593, 2, none⟩ = some (.slice (some ad595) x594002_2.length co43) := bc_ BK593 2
                  have hfz58_0 := blk_frozen BK593.out 0
                  have hfz58_1 := blk_frozen BK593.out 1
                  have hfz58_2 := blk_frozen BK593.out 2
                  have p596 : 0 ≤ (x9_3 : Int) := of_decide_eq_true dt_
                  have q596 : x9_3 < (x594002_2.length : Int) := of_decide_eq_true dt_
                  obtain ⟨ad596, e596, hx596_0, hx596_1, hx596_2, hx596_3, hx596_4⟩ := at_Item (Kd.R_reads' HO_594002.out).2.2 x9_3 p596 q596
                  obtain rfl : ad595 = ad596 := (by injection e596)
                  replace p596 := eq_true p596
                  replace q596 := eq_true q596
                  go_wp2_with (first | ((with_reducible refine gate_dst (N := 63) rfl ?_); refine Kd.R_lit k_Item _ 33 ?hg (N := 63) ?hd (xs := ([] : List (S_Item))) (inner := []) (ok := fun _ => True) (okp := fun _ => True) ?hr ?hp (fun _ hk => hk) trivial (Below.refl _ _) (Nat.le_refl _) (by simp) ?_; (case hd => rfl); (case hg => rfl); (case hr => first | (go_simp; done) | (go_simp; rfl)); (case hp => exact (Reps.none _ _)); intro v598 w59 ho60 hb hg_ hnew_; clear hg_ hnew_; (first | rw [← Ny597.out] at ho60 | (simp only [Int.reduceToNat] at ho60; rw [← Ny597.out] at ho60)); have HO599 := Aside0.mk (Kd.R_lower (Kd.R_new' ho60 (Kd.R_lt (rq_ HO_594002.out))) (below_size (hb_ HB.out))); replace HO_594002 := Aside0.mk (Kd.R_elder' (rq_ HO_594002.out) (Kd.R_base ho60) hb); replace BK586 := cb_ BK586 hb; replace BK587 := cb_ BK587 hb; replace BK593 := cb_ BK593 hb; replace HB := ch_ HB hb; clear hb ho60; have hcz61_0 : w59.cell? ⟨gb593, 0, none⟩ = some (.int .i64 x594000_2) := bc_ BK593 0; have hcz61_1 : w59.cell? ⟨gb593, 1, none⟩ = some (.int .i64 t589) := bc_ BK593 1; have hcz61_2 : w59.cell? ⟨gb593, 2, none⟩ = some (.slice (some ad595) x594002_2.length co43) := bc_ BK593 2; have hfz61_0 := blk_frozen BK593.out 0; have hfz61_1 := blk_frozen BK593.out 1; have hfz61_2 := blk_frozen BK593.out 2; have q62 : (x9_3 : Int) ≤ ((x594002_2.length : Int) : Int) := of_decide_eq_true dt_; obtain ⟨i062, hi062, _, hsz62, _⟩ := info_parts info33; have hroom62 : x594002_2.length ≤ co43 := (Kd.R_reads' HO_594002.out).2.1; have hC62 : Kd.C k_Item _ (some ad595) x594002_2.length x594002_2 := (Kd.R_reads' HO_594002.out).2.2; have q062 : (0 : Int) ≤ (x9_3 : Int) := of_decide_eq_true dt_; have hcut62 := cut_from (P := Try.prog) 24 33 .i64 Try.underlying24 hi062 5 hsz62 (some ad595) x594002_2.length co43 x9_3 q062 q62; have hr62 := Kd.C_drop (m := (x9_3 : Int).toNat) (c := co43) hC62 (by omega) hroom62; obtain ⟨A62, hA62⟩ : ∃ A1, A1 = (if co43 = (x9_3 : Int).toNat then (some ad595) else ((some ad595) : Option Addr).map (·.add ((x9_3 : Int).toNat * 5))) := ⟨_, rfl⟩; obtain ⟨c62, hc62⟩ : ∃ c1, c1 = co43 - (x9_3 : Int).toNat := ⟨_, rfl⟩; have hy62 : y600.length = x594002_2.length - (x9_3 : Int).toNat := (by rw [Ny600.out, List.length_drop] <;> omega); rw [show (x594002_2).drop (x9_3 : Int).toNat = y600 from Ny600.out.symm] at hr62; replace hr62 : Kd.C k_Item _ A62 y600.length y600 := (by rw [hA62]; exact hr62); rw [← hy62, ← hA62, ← hc62] at hcut62; have HR603 := Aside0.mk hr62; have HC603 := Aside0.mk (show y600.length ≤ c62 from by rw [hy62, hc62]; exact Nat.sub_le_sub_right hroom62 _); clear hr62 hC62 hroom62 hi062 hsz62 hc62; have KY62 := Aside0.mk hy62; have KA62 := Aside0.mk hA62; clear hy62 hA62; have KL62 := Aside0.mk (show (x9_3 : Int).toNat ≤ x594002_2.length from by omega); replace q62 := eq_true q62) | ((with_reducible refine gate_builtin (b := .append) (xs := #[.tmp 63, .tmp 67]) rfl ?_); at_builtin; refine Kd.R_append_rows k_Item (w0 := w) w.heap.size rfl (.tmp 63) (.tmp 67) 24 33 (.agg #[(.int .i64 0), (.string ⟨#[]⟩), (.string ⟨#[]⟩), (.int .i64 0), (.int .i64 0)]) 56 rfl Try.underlying24 info33 rfl (by decide) (by omega) v598 y597 y600 _ _ _ (fun k_ => some k_ ≠ (.slice (some ad595) x594002_2.length co43 : Value).ownBlock) (fun _ => False) rfl rfl ?aO ?aR (fun _ _ h => h) (fun _ h => h.elim) ?aF ?aB ?aS ?aL ?_; (case aR => repeat (first | exact (by repeat (first | (with_reducible exact HR603.out) | (with_reducible refine Kd.C_alloc ?_ _) | (with_reducible refine Kd.C_drewN ?_ _) | (with_reducible refine Kd.C_drew ?_) | exact HR603.out)) | (with_reducible refine Kd.C_alloc ?_ _) | (with_reducible refine Kd.C_drewN ?_ _) | (with_reducible refine Kd.C_drew ?_))); (case aB => exact (hb_ HB.out)); (case aF => exact (fun k_ hk => Kd.fresh' (Kd.R_lt (rq_ HO_594002.out)) k_ hk)); (case aO => exact (rm_ HO599.out)); (case aS => exact (below_size (hb_ HB.out))); (case aL => have := LMc55.out; omega); intro v605 w63 ho hb hg hat; rw [← Ny604.out] at ho; have HO606 := Aside0.mk (ho); replace BK586 := Aside0.mk (blk_grown (g := gb586) (o := .cells #[.int .i64 a0_0, .int .i64 a0_1, .slice A0_2 l0_2.length c0_2] 26 (0, 0)) (bq_ BK586.out) hg (Kd.R_ne HO599.out BK586.out (by decide))); replace BK587 := Aside0.mk (blk_grown (g := gb587) (o := .cells #[.int .i64 x588000_2, .int .i64 x588001_2, .slice none 0 0] 26 (0, 0)) (bq_ BK587.out) hg (Kd.R_ne HO599.out BK587.out (by decide))); replace BK593 := Aside0.mk (blk_grown (g := gb593) (o := .cells #[.int .i64 x594000_2, .int .i64 t589, .slice (some ad595) x594002_2.length co43] 26 (0, 0)) (bq_ BK593.out) hg (Kd.R_ne HO599.out BK593.out (by decide))); replace HB := Aside0.mk (hb); replace HR603 := Aside0.mk ((show Kd.C k_Item w63 A62 y600.length y600 from by rw [Ny600.out, KA62.out]; exact Kd.C_drop (m := (x9_3 : Int).toNat) (c := co43) ((Kd.R_reads' (Kd.R_after (ok := (fun _ => True)) (rq_ HO_594002.out) hg hat)).2.2) KL62.out ((Kd.R_reads' (Kd.R_after (ok := (fun _ => True)) (rq_ HO_594002.out) hg hat)).2.1))); replace HO_594002 := Aside0.mk (Kd.R_after (ok := (fun _ => True)) (rq_ HO_594002.out) hg hat); clear HO599; clear ho hb hg hat; obtain ⟨Ao64, co64, eo64⟩ := Kd.R_slice HO606.out; subst eo64; have hcz65_0 : w63.cell? ⟨gb593, 0, none⟩ = some (.int .i64 x594000_2) := bc_ BK593 0; have hcz65_1 : w63.cell? ⟨gb593, 1, none⟩ = some (.int .i64 t589) := bc_ BK593 1; have hcz65_2 : w63.cell? ⟨gb593, 2, none⟩ = some (.slice (some ad595) x594002_2.length co43) := bc_ BK593 2; have hfz65_0 := blk_frozen BK593.out 0; have hfz65_1 := blk_frozen BK593.out 1; have hfz65_2 := blk_frozen BK593.out 2))
                  go_roundg k3
                  case measure => have := HJ4.out; have := HK2.out; have := HK3.out; omega
                  case rel => exact ⟨(x588000_2), (x588001_2), (wrap64 ((wrap64 ((wrap64 (Int.tdiv ((rd_Item x594002_2 0).f0) a1)) + 1)) * a1)), (y604), (.slice Ao64 y604.length co64), H', ⟨qc12_⟩, ⟨by (with_reducible repeat (first | apply Kd.R_alloc | apply Kd.R_drewN | apply Kd.R_drew)); exact Kd.R_mono (Kd.R_far (p := ⟨gb593, 0, none⟩) (Kd.R_far (p := ⟨gb593, 2, none⟩) (Kd.R_types HO606.out BK593.out (by decide)) (fun _ hk => hk.2) (.slice Ao64 y604.length co64)) (fun _ hk => hk.2) (.int .i64 (wrap64 ((wrap64 ((wrap64 (Int.tdiv ((rd_Item x594002_2 0).f0) a1)) + 1)) * a1)))) (fun _ hk => trivial)⟩, ⟨bf_ NB586_593.out BK586.out⟩, ⟨bf_ NB587_593.out BK587.out⟩, ⟨bp_ BK593.out⟩, ⟨hb_ HB.out⟩⟩
                 ·
                  rw [if_neg c55] at H
                  exact absurd H (by simp)
                ·
                 rw [if_neg c54] at H
                 exact absurd H (by simp)
             ·
              rw [if_neg c47] at H
              exact absurd H (by simp)
            ·
             rw [if_neg c46] at H
             have c46b0 : decide (x9_3 < (x594002_2.length : Int)) = false := decide_eq_false c46
             clear c46
             obtain ⟨y607, hy607⟩ : ∃ y_ : List (S_Item), y_ = (([] : List (S_Item))) := ⟨_, rfl⟩
             replace H : (if 0 ≤ x9_3 then (if x9_3 ≤ (x594002_2.length : Int) then ((some (x594002_2.drop (x9_3 : Int).toNat : List (S_Item))).bind fun y610 => (if y607.length + y610.length < 2513169434916 then (spec_RowTrim.l0 k3 a1 a2 a0_0 a0_1 l0_2 (wrap64 ((wrap64 ((wrap64 (Int.tdiv ((rd_Item x594002_2 0).f0) a1)) + 1)) * a1)) t589 (y607 ++ y610)) else (none))) else (none)) else (none)) = some (r1, r2, r3) := by first | (rw [hy607]; with_reducible exact H) | (have H2_ := (Option.bind_some _ _).symm.trans H; rw [hy607]; with_reducible exact H2_) | (have H2_ := (Option.bind_some _ _).symm.trans H; with_reducible exact H2_) | with_reducible exact H | (rw [hy607]; exact H) | exact H
             have Ny607 := Aside0.mk hy607
             clear hy607
             by_cases c66 : 0 ≤ x9_3
             ·
              rw [if_pos c66] at H
              have c66b0 := eq_true c66
              have c66b1 : decide (0 ≤ x9_3) = true := decide_eq_true c66
              clear c66
              by_cases c67 : x9_3 ≤ (x594002_2.length : Int)
              ·
               rw [if_pos c67] at H
               have c67b0 := eq_true c67
               have c67b1 : decide (x9_3 ≤ (x594002_2.length : Int)) = true := decide_eq_true c67
               clear c67
               obtain ⟨y610, hy610⟩ : ∃ y_ : List (S_Item), y_ = (x594002_2.drop (x9_3 : Int).toNat) := ⟨_, rfl⟩
               replace H : (if y607.length + y610.length < 2513169434916 then (spec_RowTrim.l0 k3 a1 a2 a0_0 a0_1 l0_2 (wrap64 ((wrap64 ((wrap64 (Int.tdiv ((rd_Item x594002_2 0).f0) a1)) + 1)) * a1)) t589 (y607 ++ y610)) else (none)) = some (r1, r2, r3) := by first | (rw [hy610]; with_reducible exact H) | (have H2_ := (Option.bind_some _ _).symm.trans H; rw [hy610]; with_reducible exact H2_) | (have H2_ := (Option.bind_some _ _).symm.trans H; with_reducible exact H2_) | with_reducible exact H | (rw [hy610]; exact H) | exact H
               have Ny610 := Aside0.mk hy610
               clear hy610
               by_cases c68 : y607.length + y610.length < 2513169434916
               ·
                rw [if_pos c68] at H
                have LMc68 := Aside0.mk c68
                clear c68
                obtain ⟨y614, hy614⟩ : ∃ y_ : List (S_Item), y_ = (y607 ++ y610) := ⟨_, rfl⟩
                replace H : (spec_RowTrim.l0 k3 a1 a2 a0_0 a0_1 l0_2 (wrap64 ((wrap64 ((wrap64 (Int.tdiv ((rd_Item x594002_2 0).f0) a1)) + 1)) * a1)) t589 y614) = some (r1, r2, r3) := by first | (rw [hy614]; with_reducible exact H) | (have H2_ := (Option.bind_some _ _).symm.trans H; rw [hy614]; with_reducible exact H2_) | (have H2_ := (Option.bind_some _ _).symm.trans H; with_reducible exact H2_) | with_reducible exact H | (rw [hy614]; exact H) | exact H
                have Ny614 := Aside0.mk hy614
                clear hy614
                have H' := Aside0.mk H
                clear H
                have hnb69 := NB593_586.out
                have hnc69 := NB586_593.out
                have hnb70 := NB593_587.out
                have hnc70 := NB587_593.out
                have hcz71_0 : wr.cell? ⟨gb593, 0, none⟩ = some (.int .i64 x594000_2) := bc_ BK593 0
                have hcz71_1 : wr.cell? ⟨gb593, 1, none⟩ = some (.int .i64 t589) := bc_ BK593 1
                have hcz71_2 : wr.cell? ⟨gb593, 2, none⟩ = some (.slice (some ad595) x594002_2.length co43) := bc_ BK593 2
                have hfz71_0 := blk_frozen BK593.out 0
                have hfz71_1 := blk_frozen BK593.out 1
                have hfz71_2 := blk_frozen BK593.out 2
                go_wp2_with (first | ((with_reducible refine gate_dst (N := 63) rfl ?_); refine Kd.R_lit k_Item _ 33 ?hg (N := 63) ?hd (xs := ([] : List (S_Item))) (inner := []) (ok := fun _ => True) (okp := fun _ => True) ?hr ?hp (fun _ hk => hk) trivial (Below.refl _ _) (Nat.le_refl _) (by simp) ?_; (case hd => rfl); (case hg => rfl); (case hr => first | (go_simp; done) | (go_simp; rfl)); (case hp => exact (Reps.none _ _)); intro v608 w72 ho73 hb hg_ hnew_; clear hg_ hnew_; (first | rw [← Ny607.out] at ho73 | (simp only [Int.reduceToNat] at ho73; rw [← Ny607.out] at ho73)); have HO609 := Aside0.mk (Kd.R_lower (Kd.R_new' ho73 (Kd.R_lt (rq_ HO_594002.out))) (below_size (hb_ HB.out))); replace HO_594002 := Aside0.mk (Kd.R_elder' (rq_ HO_594002.out) (Kd.R_base ho73) hb); replace BK586 := cb_ BK586 hb; replace BK587 := cb_ BK587 hb; replace BK593 := cb_ BK593 hb; replace HB := ch_ HB hb; clear hb ho73; have hcz74_0 : w72.cell? ⟨gb593, 0, none⟩ = some (.int .i64 x594000_2) := bc_ BK593 0; have hcz74_1 : w72.cell? ⟨gb593, 1, none⟩ = some (.int .i64 t589) := bc_ BK593 1; have hcz74_2 : w72.cell? ⟨gb593, 2, none⟩ = some (.slice (some ad595) x594002_2.length co43) := bc_ BK593 2; have hfz74_0 := blk_frozen BK593.out 0; have hfz74_1 := blk_frozen BK593.out 1; have hfz74_2 := blk_frozen BK593.out 2; have q75 : (x9_3 : Int) ≤ ((x594002_2.length : Int) : Int) := of_decide_eq_true dt_; obtain ⟨i075, hi075, _, hsz75, _⟩ := info_parts info33; have hroom75 : x594002_2.length ≤ co43 := (Kd.R_reads' HO_594002.out).2.1; have hC75 : Kd.C k_Item _ (some ad595) x594002_2.length x594002_2 := (Kd.R_reads' HO_594002.out).2.2; have q075 : (0 : Int) ≤ (x9_3 : Int) := of_decide_eq_true dt_; have hcut75 := cut_from (P := Try.prog) 24 33 .i64 Try.underlying24 hi075 5 hsz75 (some ad595) x594002_2.length co43 x9_3 q075 q75; have hr75 := Kd.C_drop (m := (x9_3 : Int).toNat) (c := co43) hC75 (by omega) hroom75; obtain ⟨A75, hA75⟩ : ∃ A1, A1 = (if co43 = (x9_3 : Int).toNat then (some ad595) else ((some ad595) : Option Addr).map (·.add ((x9_3 : Int).toNat * 5))) := ⟨_, rfl⟩; obtain ⟨c75, hc75⟩ : ∃ c1, c1 = co43 - (x9_3 : Int).toNat := ⟨_, rfl⟩; have hy75 : y610.length = x594002_2.length - (x9_3 : Int).toNat := (by rw [Ny610.out, List.length_drop] <;> omega); rw [show (x594002_2).drop (x9_3 : Int).toNat = y610 from Ny610.out.symm] at hr75; replace hr75 : Kd.C k_Item _ A75 y610.length y610 := (by rw [hA75]; exact hr75); rw [← hy75, ← hA75, ← hc75] at hcut75; have HR613 := Aside0.mk hr75; have HC613 := Aside0.mk (show y610.length ≤ c75 from by rw [hy75, hc75]; exact Nat.sub_le_sub_right hroom75 _); clear hr75 hC75 hroom75 hi075 hsz75 hc75; have KY75 := Aside0.mk hy75; have KA75 := Aside0.mk hA75; clear hy75 hA75; have KL75 := Aside0.mk (show (x9_3 : Int).toNat ≤ x594002_2.length from by omega); replace q75 := eq_true q75) | ((with_reducible refine gate_builtin (b := .append) (xs := #[.tmp 63, .tmp 67]) rfl ?_); at_builtin; refine Kd.R_append_rows k_Item (w0 := w) w.heap.size rfl (.tmp 63) (.tmp 67) 24 33 (.agg #[(.int .i64 0), (.string ⟨#[]⟩), (.string ⟨#[]⟩), (.int .i64 0), (.int .i64 0)]) 56 rfl Try.underlying24 info33 rfl (by decide) (by omega) v608 y607 y610 _ _ _ (fun k_ => some k_ ≠ (.slice (some ad595) x594002_2.length co43 : Value).ownBlock) (fun _ => False) rfl rfl ?aO ?aR (fun _ _ h => h) (fun _ h => h.elim) ?aF ?aB ?aS ?aL ?_; (case aR => repeat (first | exact (by repeat (first | (with_reducible exact HR613.out) | (with_reducible refine Kd.C_alloc ?_ _) | (with_reducible refine Kd.C_drewN ?_ _) | (with_reducible refine Kd.C_drew ?_) | exact HR613.out)) | (with_reducible refine Kd.C_alloc ?_ _) | (with_reducible refine Kd.C_drewN ?_ _) | (with_reducible refine Kd.C_drew ?_))); (case aB => exact (hb_ HB.out)); (case aF => exact (fun k_ hk => Kd.fresh' (Kd.R_lt (rq_ HO_594002.out)) k_ hk)); (case aO => exact (rm_ HO609.out)); (case aS => exact (below_size (hb_ HB.out))); (case aL => have := LMc68.out; omega); intro v615 w76 ho hb hg hat; rw [← Ny614.out] at ho; have HO616 := Aside0.mk (ho); replace BK586 := Aside0.mk (blk_grown (g := gb586) (o := .cells #[.int .i64 a0_0, .int .i64 a0_1, .slice A0_2 l0_2.length c0_2] 26 (0, 0)) (bq_ BK586.out) hg (Kd.R_ne HO609.out BK586.out (by decide))); replace BK587 := Aside0.mk (blk_grown (g := gb587) (o := .cells #[.int .i64 x588000_2, .int .i64 x588001_2, .slice none 0 0] 26 (0, 0)) (bq_ BK587.out) hg (Kd.R_ne HO609.out BK587.out (by decide))); replace BK593 := Aside0.mk (blk_grown (g := gb593) (o := .cells #[.int .i64 x594000_2, .int .i64 t589, .slice (some ad595) x594002_2.length co43] 26 (0, 0)) (bq_ BK593.out) hg (Kd.R_ne HO609.out BK593.out (by decide))); replace HB := Aside0.mk (hb); replace HR613 := Aside0.mk ((show Kd.C k_Item w76 A75 y610.length y610 from by rw [Ny610.out, KA75.out]; exact Kd.C_drop (m := (x9_3 : Int).toNat) (c := co43) ((Kd.R_reads' (Kd.R_after (ok := (fun _ => True)) (rq_ HO_594002.out) hg hat)).2.2) KL75.out ((Kd.R_reads' (Kd.R_after (ok := (fun _ => True)) (rq_ HO_594002.out) hg hat)).2.1))); replace HO_594002 := Aside0.mk (Kd.R_after (ok := (fun _ => True)) (rq_ HO_594002.out) hg hat); clear HO609; clear ho hb hg hat; obtain ⟨Ao77, co77, eo77⟩ := Kd.R_slice HO616.out; subst eo77; have hcz78_0 : w76.cell? ⟨gb593, 0, none⟩ = some (.int .i64 x594000_2) := bc_ BK593 0; have hcz78_1 : w76.cell? ⟨gb593, 1, none⟩ = some (.int .i64 t589) := bc_ BK593 1; have hcz78_2 : w76.cell? ⟨gb593, 2, none⟩ = some (.slice (some ad595) x594002_2.length co43) := bc_ BK593 2; have hfz78_0 := blk_frozen BK593.out 0; have hfz78_1 := blk_frozen BK593.out 1; have hfz78_2 := blk_frozen BK593.out 2))
                go_roundg k3
                case measure => have := HJ4.out; have := HK2.out; have := HK3.out; omega
                case rel => exact ⟨(x588000_2), (x588001_2), (wrap64 ((wrap64 ((wrap64 (Int.tdiv ((rd_Item x594002_2 0).f0) a1)) + 1)) * a1)), (y614), (.slice Ao77 y614.length co77), H', ⟨qc12_⟩, ⟨by (with_reducible repeat (first | apply Kd.R_alloc | apply Kd.R_drewN | apply Kd.R_drew)); exact Kd.R_mono (Kd.R_far (p := ⟨gb593, 0, none⟩) (Kd.R_far (p := ⟨gb593, 2, none⟩) (Kd.R_types HO616.out BK593.out (by decide)) (fun _ hk => hk.2) (.slice Ao77 y614.length co77)) (fun _ hk => hk.2) (.int .i64 (wrap64 ((wrap64 ((wrap64 (Int.tdiv ((rd_Item x594002_2 0).f0) a1)) + 1)) * a1)))) (fun _ hk => trivial)⟩, ⟨bf_ NB586_593.out BK586.out⟩, ⟨bf_ NB587_593.out BK587.out⟩, ⟨bp_ BK593.out⟩, ⟨hb_ HB.out⟩⟩
               ·
                rw [if_neg c68] at H
                exact absurd H (by simp)
              ·
               rw [if_neg c67] at H
               exact absurd H (by simp)
             ·
              rw [if_neg c66] at H
              exact absurd H (by simp)
       ·
        rw [if_neg c30] at H
        exact absurd H (by simp)
      ·
       rw [if_neg c29] at H
       have c29b0 : decide (a2 < (x594002_2.length : Int)) = false := decide_eq_false c29
       clear c29
       simp only [Option.some.injEq, Prod.mk.injEq] at H
       obtain ⟨rfl, rfl, rfl⟩ := H
       have hnb79 := NB593_586.out
       have hnc79 := NB586_593.out
       have hnb80 := NB593_587.out
       have hnc80 := NB587_593.out
       have hcz81_0 : wr.cell? ⟨gb593, 0, none⟩ = some (.int .i64 x594000_2) := bc_ BK593 0
       have hcz81_1 : wr.cell? ⟨gb593, 1, none⟩ = some (.int .i64 t589) := bc_ BK593 1
       have hcz81_2 : wr.cell? ⟨gb593, 2, none⟩ = some (u594002) := bc_ BK593 2
       have hfz81_0 := blk_frozen BK593.out 0
       have hfz81_1 := blk_frozen BK593.out 1
       have hfz81_2 := blk_frozen BK593.out 2
       obtain ⟨Ao82, co82, eo82⟩ := Kd.R_slice HO_594002.out
       subst eo82
       have hnb83 := NB587_586.out
       have hnc83 := NB586_587.out
       have hcz84_0 : wr.cell? ⟨gb587, 0, none⟩ = some (.int .i64 x588000_2) := bc_ BK587 0
       have hcz84_1 : wr.cell? ⟨gb587, 1, none⟩ = some (.int .i64 x588001_2) := bc_ BK587 1
       have hcz84_2 : wr.cell? ⟨gb587, 2, none⟩ = some (.slice none 0 0) := bc_ BK587 2
       have hfz84_0 := blk_frozen BK587.out 0
       have hfz84_1 := blk_frozen BK587.out 1
       have hfz84_2 := blk_frozen BK587.out 2
       go_wp2
       refine bodyPost_ret (results_cell_row rfl _ _ gb587 26 #[.int .i64 x594000_2, .int .i64 t589, .slice Ao82 x594002_2.length co82] (0, 0) _ rfl (bp_ BK587.out) Try.underlying26 rfl (by kernel_rfl)) rfl ?_
       exact ⟨_, er_, by (with_reducible repeat (first | apply Kd.R_alloc | apply Kd.R_drewN | apply Kd.R_drew)); exact Kd.R_mono (Kd.R_far (p := ⟨gb587, 2, none⟩) (Kd.R_far (p := ⟨gb587, 1, none⟩) (Kd.R_far (p := ⟨gb587, 0, none⟩) (Kd.R_types HO_594002.out BK587.out (by decide)) (fun _ hk => hk.2) (.int .i64 x594000_2)) (fun _ hk => hk.2) (.int .i64 t589)) (fun _ hk => hk.2) (.slice Ao82 x594002_2.length co82)) (fun _ hk => trivial), hb_ HB.out⟩
/-! ### laws_big: function 9 -/
def laws_big.f (l0 : List Int) : Option (Bool) := some (decide ((l0.length : Int) > 1048576))
set_option maxHeartbeats 8000000 in
set_option maxRecDepth 100000 in
theorem laws_big.calls (A0 : Option Addr) (c0 : Nat) (l0 : List Int) (r : Bool) (w : World) (hr0 : Kd.C (Kd.int .u8) w A0 l0.length l0) (hc0 : l0.length ≤ c0) (h : laws_big.f l0 = some r) :
    Calls Try.prog 9 #[.slice A0 l0.length c0] w fun e w' => e = .returned (.bool r) ∧ Drawn0 w w' := by
  have HR0 := Aside0.mk hr0
  have HC0 := Aside0.mk hc0
  clear hr0 hc0
  have H : (some (decide ((l0.length : Int) > 1048576))) = some r := h
  clear h
  obtain rfl := Option.some.inj H
  go_enter Try.func9, Try.ntmps9
  go_wp2
  go_ret
  exact ⟨qc1_, qc3_⟩

/-- A state of type 126 at block g of W; what its slices lead to came in by w0. -/
def IsS_l1Cur (w0 W : World) (g : Nat) (f0 : List Int) (f1 : Int) (f2 : Int) : Prop := ∃ A0 c0, W.heap[g]? = some (.cells #[.slice A0 f0.length c0, .int .i64 f1, .int .i64 f2] 126 (0, 0)) ∧ w0.heap.size ≤ g ∧ (Kd.C (Kd.int .u8) w0 A0 f0.length f0 ∧ f0.length ≤ c0)
theorem IsS_l1Cur.grown {w0 W : World} {g : Nat} {f0 : List Int} {f1 : Int} {f2 : Int} {W1 : World} {row : Option Nat} (h : IsS_l1Cur w0 W g f0 f1 f2) (hw : W.grownBy W1 row) (hne : some g ≠ row) : IsS_l1Cur w0 W1 g f0 f1 f2 := by
  obtain ⟨A0, c0, hb, hg, ⟨hr0, hz0⟩⟩ := h
  exact ⟨A0, c0, blk_grown hb hw hne, hg, ⟨hr0, hz0⟩⟩
theorem IsS_l1Cur.own_neN {w0 W : World} {g : Nat} {f0 : List Int} {f1 : Int} {f2 : Int} {α : Type} {d : Kd α} {e : Nat} {base : Nat} {ok : Nat → Prop} {v : Value} {xs : List α} (h : IsS_l1Cur w0 W g f0 f1 f2) (ho : Kd.N d e W base ok v xs) (ht : e ≠ 126) : some g ≠ v.ownBlock := by
  obtain ⟨A0, c0, hb, hg, ⟨hr0, hz0⟩⟩ := h
  exact Kd.N_ne ho hb ht
theorem IsS_l1Cur.fresh {w0 W : World} {g : Nat} {f0 : List Int} {f1 : Int} {f2 : Int} (h : IsS_l1Cur w0 W g f0 f1 f2) : ∀ k, W.heap.size ≤ k → k ≠ g := by
  obtain ⟨A0, c0, hb, hg, ⟨hr0, hz0⟩⟩ := h
  exact Kd.freshB hb
theorem IsS_l1Cur.kept {w0 W : World} {g : Nat} {f0 : List Int} {f1 : Int} {f2 : Int} {W1 : World} {S : Nat → Prop} (h : IsS_l1Cur w0 W g f0 f1 f2) (hk : Kept W W1 S) (hne : ¬ S g) : IsS_l1Cur w0 W1 g f0 f1 f2 := by
  obtain ⟨A0, c0, hb, hg, ⟨hr0, hz0⟩⟩ := h
  exact ⟨A0, c0, blk_kept hb hk hne, hg, ⟨hr0, hz0⟩⟩
theorem IsS_l1Cur.below {w0 W : World} {g : Nat} {f0 : List Int} {f1 : Int} {f2 : Int} {W1 : World} (h : IsS_l1Cur w0 W g f0 f1 f2) (hw : Below W.heap.size W W1) : IsS_l1Cur w0 W1 g f0 f1 f2 := h.grown (grown_of_below hw none) (by simp)
theorem IsS_l1Cur.alloc {w0 W : World} {g : Nat} {f0 : List Int} {f1 : Int} {f2 : Int} (h : IsS_l1Cur w0 W g f0 f1 f2) (o : Obj) : IsS_l1Cur w0 (W.alloc o) g f0 f1 f2 := h.below (below_alloc (Below.refl _ _) o)
theorem IsS_l1Cur.drewN {w0 W : World} {g : Nat} {f0 : List Int} {f1 : Int} {f2 : Int} (h : IsS_l1Cur w0 W g f0 f1 f2) (m : Nat) : IsS_l1Cur w0 (W.drewN m) g f0 f1 f2 := h
theorem IsS_l1Cur.drew {w0 W : World} {g : Nat} {f0 : List Int} {f1 : Int} {f2 : Int} (h : IsS_l1Cur w0 W g f0 f1 f2) : IsS_l1Cur w0 W.drew g f0 f1 f2 := h
theorem IsS_l1Cur.at_ {w0 W : World} {g : Nat} {f0 : List Int} {f1 : Int} {f2 : Int} {w' : World} {m : Nat} (hq : W.drewN m = w') (h : IsS_l1Cur w0 W g f0 f1 f2) : IsS_l1Cur w0 w' g f0 f1 f2 := by subst hq; exact IsS_l1Cur.drewN h m
theorem IsS_l1Cur.apart {w0 W : World} {g : Nat} {f0 : List Int} {f1 : Int} {f2 : Int} {α : Type} {d : Kd α} {e : Nat} {base : Nat} {ok : Nat → Prop} {v : Value} {xs : List α} (h : IsS_l1Cur w0 W g f0 f1 f2) (ho : d.R e W base ok v xs) (ht : ∀ q, q ∈ e :: d.E → q ≠ 126) : d.R e W base (fun k => ok k ∧ k ≠ g) v xs := by
  obtain ⟨A0, c0, hb, hg, ⟨hr0, hz0⟩⟩ := h
  exact Kd.R_types ho hb ht
theorem IsS_l1Cur.own_ne {w0 W : World} {g : Nat} {f0 : List Int} {f1 : Int} {f2 : Int} {α : Type} {d : Kd α} {e : Nat} {base : Nat} {ok : Nat → Prop} {v : Value} {xs : List α} (h : IsS_l1Cur w0 W g f0 f1 f2) (ho : d.R e W base ok v xs) (ht : e ≠ 126) : some g ≠ v.ownBlock := by
  obtain ⟨A0, c0, hb, hg, ⟨hr0, hz0⟩⟩ := h
  exact Kd.R_ne ho hb ht
theorem IsS_l1Cur.apartQ {w0 W : World} {g : Nat} {f0 : List Int} {f1 : Int} {f2 : Int} {α : Type} {d : Kd α} {e : Nat} {base : Nat} {ok : Nat → Prop} {v : Value} {xs : List α} (h : IsS_l1Cur w0 W g f0 f1 f2) (ho : d.Q e W base ok v xs) (ht : ∀ q, q ∈ e :: d.E → q ≠ 126) : d.Q e W base (fun k => ok k ∧ k ≠ g) v xs := by
  obtain ⟨A0, c0, hb, hg, ⟨hr0, hz0⟩⟩ := h
  exact Kd.Q_types ho hb ht
theorem IsS_l1Cur.own_neQ {w0 W : World} {g : Nat} {f0 : List Int} {f1 : Int} {f2 : Int} {α : Type} {d : Kd α} {e : Nat} {base : Nat} {ok : Nat → Prop} {v : Value} {xs : List α} (h : IsS_l1Cur w0 W g f0 f1 f2) (ho : d.Q e W base ok v xs) (ht : e ≠ 126) : some g ≠ v.ownBlock := by
  obtain ⟨A0, c0, hb, hg, ⟨hr0, hz0⟩⟩ := h
  exact Kd.Q_ne ho hb ht
theorem IsS_l1Cur.apartS {w0 W : World} {g : Nat} {f0 : List Int} {f1 : Int} {f2 : Int} {α : Type} {d : Kd α} {e : Nat} {base : Nat} {ok : Nat → Prop} {v : Value} {xs : List α} (h : IsS_l1Cur w0 W g f0 f1 f2) (ho : d.S e W base ok v xs) (ht : ∀ q, q ∈ e :: d.E → q ≠ 126) : d.S e W base (fun k => ok k ∧ k ≠ g) v xs := by
  obtain ⟨A0, c0, hb, hg, ⟨hr0, hz0⟩⟩ := h
  exact Kd.S_types ho hb ht
theorem IsS_l1Cur.own_neS {w0 W : World} {g : Nat} {f0 : List Int} {f1 : Int} {f2 : Int} {α : Type} {d : Kd α} {e : Nat} {base : Nat} {ok : Nat → Prop} {v : Value} {xs : List α} (h : IsS_l1Cur w0 W g f0 f1 f2) (ho : d.S e W base ok v xs) (ht : e ≠ 126) : some g ≠ v.ownBlock := by
  obtain ⟨A0, c0, hb, hg, ⟨hr0, hz0⟩⟩ := h
  exact Kd.S_ne ho hb ht
theorem IsS_l1Cur.lt {w0 W : World} {g : Nat} {f0 : List Int} {f1 : Int} {f2 : Int} (h : IsS_l1Cur w0 W g f0 f1 f2) : g < W.heap.size := by
  obtain ⟨A0, c0, hb, hg, ⟨hr0, hz0⟩⟩ := h
  exact blk_lt hb
theorem IsS_l1Cur.ge {w0 W : World} {g : Nat} {f0 : List Int} {f1 : Int} {f2 : Int} (h : IsS_l1Cur w0 W g f0 f1 f2) : w0.heap.size ≤ g := by
  obtain ⟨A0, c0, hb, hg, ⟨hr0, hz0⟩⟩ := h
  exact hg
theorem IsS_l1Cur.ne_blk {w0 W : World} {g : Nat} {f0 : List Int} {f1 : Int} {f2 : Int} {a : Nat} {cs : Array Value} {t : TypeId} {fr : Nat × Nat} (h : IsS_l1Cur w0 W g f0 f1 f2) (hb2 : W.heap[a]? = some (.cells cs t fr)) (ht : t ≠ 126) : g ≠ a := by
  obtain ⟨A0, c0, hb, hg, ⟨hr0, hz0⟩⟩ := h
  rintro rfl
  rw [hb] at hb2
  injection hb2 with hb2
  injection hb2 with _ ht2
  exact ht ht2.symm
theorem IsS_l1Cur.far {w0 W : World} {g : Nat} {f0 : List Int} {f1 : Int} {f2 : Int} {p : Addr} (h : IsS_l1Cur w0 W g f0 f1 f2) (hne : g ≠ p.block) (u : Value) : IsS_l1Cur w0 (W.setCell p u) g f0 f1 f2 := by
  obtain ⟨A0, c0, hb, hg, ⟨hr0, hz0⟩⟩ := h
  exact ⟨A0, c0, blk_far hb hne u, hg, ⟨hr0, hz0⟩⟩
theorem cellS126_0 {W : World} {g : Nat} {A0 : Option Addr} {c0 : Nat} {f0 : List Int} {f1 : Int} {f2 : Int} (h : W.heap[g]? = some (.cells #[.slice A0 f0.length c0, .int .i64 f1, .int .i64 f2] 126 (0, 0))) : W.cell? ⟨g, 0, none⟩ = some (.slice A0 f0.length c0) := (blk_cell h 0).trans rfl
theorem cellS126_1 {W : World} {g : Nat} {A0 : Option Addr} {c0 : Nat} {f0 : List Int} {f1 : Int} {f2 : Int} (h : W.heap[g]? = some (.cells #[.slice A0 f0.length c0, .int .i64 f1, .int .i64 f2] 126 (0, 0))) : W.cell? ⟨g, 1, none⟩ = some (.int .i64 f1) := (blk_cell h 1).trans rfl
theorem IsS_l1Cur.set_1 {w0 W : World} {g : Nat} {f0 : List Int} {f1 : Int} {f2 : Int} (h : IsS_l1Cur w0 W g f0 f1 f2) (x : Int) : IsS_l1Cur w0 (W.setCell ⟨g, 1, none⟩ (.int .i64 x)) g f0 x f2 := by
  obtain ⟨A0, c0, hb, hg, ⟨hr0, hz0⟩⟩ := h
  exact ⟨A0, c0, by simpa using blk_set hb 1 (.int .i64 x), hg, ⟨hr0, hz0⟩⟩
theorem cellS126_2 {W : World} {g : Nat} {A0 : Option Addr} {c0 : Nat} {f0 : List Int} {f1 : Int} {f2 : Int} (h : W.heap[g]? = some (.cells #[.slice A0 f0.length c0, .int .i64 f1, .int .i64 f2] 126 (0, 0))) : W.cell? ⟨g, 2, none⟩ = some (.int .i64 f2) := (blk_cell h 2).trans rfl
theorem IsS_l1Cur.set_2 {w0 W : World} {g : Nat} {f0 : List Int} {f1 : Int} {f2 : Int} (h : IsS_l1Cur w0 W g f0 f1 f2) (x : Int) : IsS_l1Cur w0 (W.setCell ⟨g, 2, none⟩ (.int .i64 x)) g f0 f1 x := by
  obtain ⟨A0, c0, hb, hg, ⟨hr0, hz0⟩⟩ := h
  exact ⟨A0, c0, by simpa using blk_set hb 2 (.int .i64 x), hg, ⟨hr0, hz0⟩⟩
theorem IsS_l1Cur.new (w0 W : World) (A0 : Option Addr) (c0 : Nat) (f0 : List Int) (f1 : Int) (f2 : Int) (hB : Below w0.heap.size w0 W) (hr0 : Kd.C (Kd.int .u8) w0 A0 f0.length f0) (hz0 : f0.length ≤ c0) : IsS_l1Cur w0 (W.alloc (.cells #[.slice A0 f0.length c0, .int .i64 f1, .int .i64 f2] 126)) W.heap.size f0 f1 f2 := ⟨A0, c0, by simpa using heap_alloc_new W _, hB.size, ⟨hr0, hz0⟩⟩

theorem is_l1Cur_ {w0 W W' : World} {g : Nat} {f0 f0' : List Int} {f1 f2 f1' f2' : Int} (x : IsS_l1Cur w0 W g f0 f1 f2) (h : IsS_l1Cur w0 W g f0 f1 f2 → IsS_l1Cur w0 W' g f0' f1' f2' := by intro h_; repeat (first | (with_reducible first | exact h_ | apply IsS_l1Cur.alloc | apply IsS_l1Cur.drewN | apply IsS_l1Cur.drew | apply IsS_l1Cur.set_1 | apply IsS_l1Cur.set_2 | refine IsS_l1Cur.far ?_ (Aside0.out (by assumption)) _) | exact h_)) : IsS_l1Cur w0 W' g f0' f1' f2' := h x
theorem hi_ {B : Nat} {w W W' : World} (x : Below B w W) (h : Below B w W → Below B w W' := by intro h_; repeat (first | (with_reducible first | exact h_ | apply below_alloc | apply pw_below_drewN | apply below_drew1 | refine below_set ?_ (Aside0.out (by assumption)) | refine below_set ?_ (IsS_l1Cur.ge (Aside0.out (by assumption)))) | exact h_)) : Below B w W' := h x
end Go.Proofs.Ythmjhhkheohgfaa.Q
