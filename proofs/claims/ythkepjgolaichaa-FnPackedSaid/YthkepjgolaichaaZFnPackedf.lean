/- Made by a program of ours out of the print of the loaded functions: for each of some functions a plain function, and the walk that shows that a call comes to what it says. No condition but those of each theorem. -/
import Derived.Test.YthkepjgolaichaaZFnPacked0
namespace Go.Proofs.Ythkepjgolaichaa.Q
open Go.RowKit Go.Proofs.YthkepjgolaichaaW.PrintWords Go.Proofs.YthkepjgolaichaaW.PrintLast Go.Proofs.YthkepjgolaichaaW.PrintMore
attribute [local go_sem] max2_int min2_int max_two min_two max_three min_three max_four min_four   -- for this text's walks alone
set_option linter.unusedVariables false
set_option linter.unusedSimpArgs false
theorem qf0_ {P : Prop} (h : P := by repeat (first | (with_reducible first | exact HB.out | apply below_alloc | apply pw_below_drewN | apply below_drew1 | refine below_set ?_ GE709.out | refine below_set ?_ GE710.out) | exact HB.out)) : P := h
theorem qf1_ {P : Prop} (h : P := by repeat (first | (with_reducible first | exact HB.out | apply below_alloc | apply pw_below_drewN | apply below_drew1) | exact HB.out)) : P := h
theorem qf2_ {P : Prop} (h : P := by repeat (first | (with_reducible first | exact HB.out | apply below_alloc | apply pw_below_drewN | apply below_drew1 | refine below_set ?_ GE709.out) | exact HB.out)) : P := h
theorem qf3_ {P : Prop} (h : P := by repeat (first | (with_reducible first | exact HB.out | apply below_alloc | apply pw_below_drewN | apply below_drew1 | refine below_set ?_ GE705.out | refine below_set ?_ GE706.out) | exact HB.out)) : P := h
theorem qf4_ {P : Prop} (h : P := by first | rfl | (simp [errW_none, errW_some] <;> rfl) | (simp [*, errW_none, errW_some] <;> rfl)) : P := h
theorem qf5_ {P : Prop} (h : P := by repeat (first | (with_reducible first | exact HB.out | apply below_alloc | apply pw_below_drewN | apply below_drew1 | refine below_set ?_ GE675.out | refine below_set ?_ GE676.out) | exact HB.out)) : P := h
theorem qf6_ {P : Prop} (h : P := by repeat (first | (with_reducible first | exact HB.out | apply below_alloc | apply pw_below_drewN | apply below_drew1 | refine below_set ?_ GE705.out) | exact HB.out)) : P := h
theorem qf7_ {P : Prop} (h : P := by repeat (first | (with_reducible first | exact HB.out | apply below_alloc | apply pw_below_drewN | apply below_drew1 | refine below_set ?_ GE675.out) | exact HB.out)) : P := h
theorem qf8_ {P : Prop} (h : P := by repeat (first | (with_reducible first | exact HB.out | apply below_alloc | apply pw_below_drewN | apply below_drew1 | refine below_set ?_ GE709.out | refine below_set ?_ GE710.out | refine below_set ?_ GE712.out) | exact HB.out)) : P := h
theorem qf9_ {P : Prop} (h : P := by first | rfl | (simp; done) | (simp [*]; done)) : P := h

/-! ### impl_copyRow: function 65 -/
def impl_copyRow.f (a0_0 : Int) (a0_1 : Int) (l0_2 : List (S_Item)) : Option (Int × Int × (List (S_Item))) := if ([] : List (S_Item)).length + l0_2.length < 2513169434916 then (some (a0_0, a0_1, (([] : List (S_Item)) ++ l0_2))) else (none)
set_option maxHeartbeats 8000000 in
set_option maxRecDepth 100000 in
theorem impl_copyRow.calls (a0_0 : Int) (a0_1 : Int) (A0_2 : Option Addr) (c0_2 : Nat) (l0_2 : List (S_Item)) (r1 : Int) (r2 : Int) (r3 : List (S_Item)) (w : World) (hr0_2 : Kd.C k_Item w A0_2 l0_2.length l0_2) (hc0_2 : l0_2.length ≤ c0_2) (h : impl_copyRow.f a0_0 a0_1 l0_2 = some (r1, r2, r3)) :
    Calls Try.prog 65 #[.agg #[.int .i64 a0_0, .int .i64 a0_1, .slice A0_2 l0_2.length c0_2]] w fun e w' => ∃ v2_ : Value, e = .returned (.agg #[.int .i64 r1, .int .i64 r2, v2_]) ∧ Kd.R k_Item 55 w' w.heap.size (fun _ => True) v2_ r3 ∧ Below w.heap.size w w' := by
  have hu48 := Try.underlying48
  have HR0_2 := Aside0.mk hr0_2
  have HC0_2 := Aside0.mk hc0_2
  clear hr0_2 hc0_2
  have HB := Aside0.mk (Below.refl w.heap.size w)
  have H : (if ([] : List (S_Item)).length + l0_2.length < 2513169434916 then (some (a0_0, a0_1, (([] : List (S_Item)) ++ l0_2))) else (none)) = some (r1, r2, r3) := h
  clear h
  by_cases c2 : ([] : List (S_Item)).length + l0_2.length < 2513169434916
  · rw [if_pos c2] at H
    have LMc2 := Aside0.mk c2
    clear c2
    obtain ⟨y677, hy677⟩ : ∃ y_ : List (S_Item), y_ = (([] : List (S_Item)) ++ l0_2) := ⟨_, rfl⟩
    replace H : (some (a0_0, a0_1, y677)) = some (r1, r2, r3) := by first | (rw [hy677]; with_reducible exact H) | (have H2_ := (Option.bind_some _ _).symm.trans H; rw [hy677]; with_reducible exact H2_) | (have H2_ := (Option.bind_some _ _).symm.trans H; with_reducible exact H2_) | with_reducible exact H | (rw [hy677]; exact H) | exact H
    have Ny677 := Aside0.mk hy677
    clear hy677
    simp only [Option.some.injEq, Prod.mk.injEq] at H
    obtain ⟨rfl, rfl, rfl⟩ := H
    go_enter Try.func65, Try.ntmps65
    go_wp2_with (first | ((with_reducible refine gate_dst (N := 1) rfl ?_); refine box_event ?hg (N := 1) ?hd (cs := #[.int .i64 a0_0, .int .i64 a0_1, .slice A0_2 l0_2.length c0_2]) (t := 48) ?hr ?_; (case hd => rfl); (case hg => rfl); (case hr => first | (go_simp; done) | (go_simp; rfl)); intro gb675 hg w3 hbox hb; have n0_ := Aside0.mk (below_step (qf1_) hb); have n1_ := Aside0.mk (hbox); have n2_ := Aside0.mk ((by rw [hg]; exact (below_size (qf1_)) : w.heap.size ≤ gb675)); have n3_ := Aside0.mk ((by rw [hg]; exact (below_size (qf1_)) : w.heap.size ≤ gb675)); clear HB; have HB := n0_; have BK675 := n1_; have GW675 := n2_; have GE675 := n3_; clear n0_ n1_ n2_ n3_; clear hb hbox hg) | ((with_reducible refine gate_dst (N := 2) rfl ?_); refine box_event ?hg (N := 2) ?hd (cs := #[.int .i64 0, .int .i64 0, .slice none 0 0]) (t := 48) ?hr ?_; (case hd => rfl); (case hg => rfl); (case hr => first | (go_simp; done) | (go_simp; rfl)); intro gb676 hg w4 hbox hb; have n0_ := Aside0.mk (blk_below (g := gb675) (o := .cells #[.int .i64 a0_0, .int .i64 a0_1, .slice A0_2 l0_2.length c0_2] 48 (0, 0)) (bq_ BK675.out) hb); have n1_ := Aside0.mk (below_step (qf7_) hb); have n2_ := Aside0.mk (hbox); have n3_ := Aside0.mk ((by rw [hg]; exact (below_size (qf7_)) : w.heap.size ≤ gb676)); have n4_ := Aside0.mk ((by rw [hg]; exact (below_size (qf7_)) : w.heap.size ≤ gb676)); have n5_ := Aside0.mk ((by rw [hg]; exact Nat.ne_of_lt (blk_lt (g := gb675) (o := .cells #[.int .i64 a0_0, .int .i64 a0_1, .slice A0_2 l0_2.length c0_2] 48 (0, 0)) (bq_ BK675.out)) : gb675 ≠ gb676)); have n6_ := Aside0.mk ((by rw [hg]; exact Nat.ne_of_gt (blk_lt (g := gb675) (o := .cells #[.int .i64 a0_0, .int .i64 a0_1, .slice A0_2 l0_2.length c0_2] 48 (0, 0)) (bq_ BK675.out)) : gb676 ≠ gb675)); clear BK675; clear HB; have BK675 := n0_; have HB := n1_; have BK676 := n2_; have GW676 := n3_; have GE676 := n4_; have NB675_676 := n5_; have NB676_675 := n6_; clear n0_ n1_ n2_ n3_ n4_ n5_ n6_; clear hb hbox hg; have hnb5 := NB675_676.out; have hnc5 := NB676_675.out; have hcz6_0 : w4.cell? ⟨gb675, 0, none⟩ = some (.int .i64 a0_0) := bc_ BK675 0; have hcz6_1 : w4.cell? ⟨gb675, 1, none⟩ = some (.int .i64 a0_1) := bc_ BK675 1; have hcz6_2 : w4.cell? ⟨gb675, 2, none⟩ = some (.slice A0_2 l0_2.length c0_2) := bc_ BK675 2; have hfz6_0 := blk_frozen BK675.out 0; have hfz6_1 := blk_frozen BK675.out 1; have hfz6_2 := blk_frozen BK675.out 2) | ((with_reducible refine gate_builtin (b := .append) (xs := #[.const (.slice none 0 0), .tmp 4]) rfl ?_); at_builtin; refine Kd.R_append_rows k_Item (w0 := w) w.heap.size rfl (.const (.slice none 0 0)) (.tmp 4) 46 55 (.agg #[(.int .i64 0), (.string ⟨#[]⟩), (.string ⟨#[]⟩), (.int .i64 0), (.int .i64 0)]) 56 rfl Try.underlying46 info55 rfl (by decide) (by omega) (.slice none 0 0) ([] : List (S_Item)) l0_2 _ _ _ (fun _ => True) (fun _ => False) rfl rfl ?aO ?aR (fun _ _ h => h) (fun _ h => h.elim) ?aF ?aB ?aS ?aL ?_; (case aR => repeat (first | exact (Kd.C_below HR0_2.out HB.out) | (with_reducible refine Kd.C_alloc ?_ _) | (with_reducible refine Kd.C_drewN ?_ _) | (with_reducible refine Kd.C_drew ?_))); (case aB => exact (qf5_)); (case aF => exact (fun _ _ => trivial)); (case aO => exact ((Kd.R_nil _ _ _ _ (fun _ => True)))); (case aS => exact (below_size (qf5_))); (case aL => have := LMc2.out; omega); intro v678 w7 ho hb hg hat; rw [← Ny677.out] at ho; have n0_ := Aside0.mk (blk_grown (g := gb675) (o := .cells #[.int .i64 a0_0, .int .i64 a0_1, .slice A0_2 l0_2.length c0_2] 48 (0, 0)) (bq_ BK675.out) hg (by simp [Value.ownBlock])); have n1_ := Aside0.mk (blk_grown (g := gb676) (o := .cells #[.int .i64 0, .int .i64 0, .slice none 0 0] 48 (0, 0)) (bq_ BK676.out) hg (by simp [Value.ownBlock])); have n2_ := Aside0.mk (hb); have n3_ := Aside0.mk (ho); clear BK675; clear BK676; clear HB; have BK675 := n0_; have BK676 := n1_; have HB := n2_; have HO679 := n3_; clear n0_ n1_ n2_ n3_; clear ho hb hg hat; obtain ⟨Ao8, co8, eo8⟩ := Kd.R_slice HO679.out; subst eo8; have hcz9_0 : w7.cell? ⟨gb675, 0, none⟩ = some (.int .i64 a0_0) := bc_ BK675 0; have hcz9_1 : w7.cell? ⟨gb675, 1, none⟩ = some (.int .i64 a0_1) := bc_ BK675 1; have hcz9_2 : w7.cell? ⟨gb675, 2, none⟩ = some (.slice A0_2 l0_2.length c0_2) := bc_ BK675 2; have hfz9_0 := blk_frozen BK675.out 0; have hfz9_1 := blk_frozen BK675.out 1; have hfz9_2 := blk_frozen BK675.out 2; have hcz10_0 : w7.cell? ⟨gb676, 0, none⟩ = some (.int .i64 0) := bc_ BK676 0; have hcz10_1 : w7.cell? ⟨gb676, 1, none⟩ = some (.int .i64 0) := bc_ BK676 1; have hcz10_2 : w7.cell? ⟨gb676, 2, none⟩ = some (.slice none 0 0) := bc_ BK676 2; have hfz10_0 := blk_frozen BK676.out 0; have hfz10_1 := blk_frozen BK676.out 1; have hfz10_2 := blk_frozen BK676.out 2))
    refine bodyPost_ret (results_cell_row rfl _ _ gb676 48 #[.int .i64 a0_0, .int .i64 a0_1, .slice Ao8 y677.length co8] (0, 0) _ rfl (by_ BK676.out) Try.underlying48 rfl (by kernel_rfl)) rfl ?_
    exact ⟨_, qf4_, by (with_reducible repeat (first | apply Kd.R_alloc | apply Kd.R_drewN | apply Kd.R_drew)); exact Kd.R_mono (Kd.R_far (p := ⟨gb676, 2, none⟩) (Kd.R_far (p := ⟨gb676, 1, none⟩) (Kd.R_far (p := ⟨gb676, 0, none⟩) (Kd.R_far (p := ⟨gb675, 2, none⟩) (Kd.R_types (Kd.R_types HO679.out BK675.out (by decide)) BK676.out (by decide)) (fun _ hk => hk.1.2) (.slice Ao8 y677.length co8)) (fun _ hk => hk.2) (.int .i64 a0_0)) (fun _ hk => hk.2) (.int .i64 a0_1)) (fun _ hk => hk.2) (.slice Ao8 y677.length co8)) (fun _ hk => trivial), qf5_⟩
  · rw [if_neg c2] at H
    exact absurd H (by simp)
/-! ### impl_Latest: function 52 -/
def impl_Latest.l0 : Nat → ByteArray → Int → Int → Int → List (S_Item) → Option (Int × ByteArray × ByteArray × Int × Int × Bool)
  | 0, _, _, _, _, _ => none
  | k + 1, x1, x6, x706000, x706001, x706002 => if x6 ≥ 0 then (if 0 ≤ x6 then (if x6 < (x706002.length : Int) then (if ((rd_Item x706002 x6).f1).toList = x1.toList then (some ((rd_Item x706002 x6).f0, (rd_Item x706002 x6).f1, (rd_Item x706002 x6).f2, (rd_Item x706002 x6).f3, (rd_Item x706002 x6).f4, true)) else (impl_Latest.l0 k x1 (wrap64 (x6 - 1)) x706000 x706001 x706002)) else (none)) else (none)) else (some (0, (⟨#[]⟩ : ByteArray), (⟨#[]⟩ : ByteArray), 0, 0, false))
def impl_Latest.f (k : Nat) (a0_0 : Int) (a0_1 : Int) (l0_2 : List (S_Item)) (a1 : ByteArray) : Option (Int × ByteArray × ByteArray × Int × Int × Bool) := impl_Latest.l0 k a1 (wrap64 ((l0_2.length : Int) - 1)) a0_0 a0_1 l0_2
theorem impl_Latest.mono_l : ∀ k, (∀ y0 y1 y2 y3 y4, LeO (impl_Latest.l0 k y0 y1 y2 y3 y4) (impl_Latest.l0 (k + 1) y0 y1 y2 y3 y4))
  | 0 => fun _ _ _ _ _ r h => by simp [impl_Latest.l0] at h
  | k + 1 => by
    have ih0 := impl_Latest.mono_l k
    · intro y0 y1 y2 y3 y4
      unfold impl_Latest.l0
      repeat' first
      | (with_reducible exact ih0 _ _ _ _ _)
      | (with_reducible exact LeO.refl _)
      | (with_reducible exact LeO.none _)
      | (with_reducible refine LeO.ite ?_ ?_)
      | (with_reducible refine LeO.bind ?_ (fun _ => ?_))
      | exact ih0 _ _ _ _ _
      | exact LeO.none _
      | refine LeO.ite ?_ ?_
      | refine LeO.bind ?_ (fun _ => ?_)
theorem impl_Latest.mono : ∀ a0 a1 a2 a3 k, LeO (impl_Latest.f k a0 a1 a2 a3) (impl_Latest.f (k + 1) a0 a1 a2 a3) := by
  intro a0 a1 a2 a3 k
  have ih0 := impl_Latest.mono_l k
  unfold impl_Latest.f
  repeat' first
      | (with_reducible exact ih0 _ _ _ _ _)
      | (with_reducible exact LeO.refl _)
      | (with_reducible exact LeO.none _)
      | (with_reducible refine LeO.ite ?_ ?_)
      | (with_reducible refine LeO.bind ?_ (fun _ => ?_))
      | exact ih0 _ _ _ _ _
      | exact LeO.none _
      | refine LeO.ite ?_ ?_
      | refine LeO.bind ?_ (fun _ => ?_)
set_option maxHeartbeats 8000000 in
set_option maxRecDepth 100000 in
theorem impl_Latest.calls (k : Nat) (a0_0 : Int) (a0_1 : Int) (A0_2 : Option Addr) (c0_2 : Nat) (l0_2 : List (S_Item)) (a1 : ByteArray) (r1 : Int) (r2 : ByteArray) (r3 : ByteArray) (r4 : Int) (r5 : Int) (r6 : Bool) (w : World) (hr0_2 : Kd.C k_Item w A0_2 l0_2.length l0_2) (hc0_2 : l0_2.length ≤ c0_2) (h : impl_Latest.f k a0_0 a0_1 l0_2 a1 = some (r1, r2, r3, r4, r5, r6)) :
    Calls Try.prog 52 #[.agg #[.int .i64 a0_0, .int .i64 a0_1, .slice A0_2 l0_2.length c0_2], .string a1] w fun e w' => e = .returned (.tuple #[.agg #[.int .i64 r1, .string r2, .string r3, .int .i64 r4, .int .i64 r5], .bool r6]) ∧ Below w.heap.size w w' := by
  have hu48 := Try.underlying48
  have hu55 := Try.underlying55
  have HR0_2 := Aside0.mk hr0_2
  have HC0_2 := Aside0.mk hc0_2
  clear hr0_2 hc0_2
  have HB := Aside0.mk (Below.refl w.heap.size w)
  have H : (impl_Latest.l0 k a1 (wrap64 ((l0_2.length : Int) - 1)) a0_0 a0_1 l0_2) = some (r1, r2, r3, r4, r5, r6) := h
  clear h
  have H' := Aside0.mk H
  clear H
  go_enter Try.func52, Try.ntmps52
  go_wp2_with (first | ((with_reducible refine gate_dst (N := 2) rfl ?_); refine box_event ?hg (N := 2) ?hd (cs := #[.int .i64 a0_0, .int .i64 a0_1, .slice A0_2 l0_2.length c0_2]) (t := 48) ?hr ?_; (case hd => rfl); (case hg => rfl); (case hr => first | (go_simp; done) | (go_simp; rfl)); intro gb705 hg w3 hbox hb; have n0_ := Aside0.mk (below_step (qf1_) hb); have n1_ := Aside0.mk (hbox); have n2_ := Aside0.mk ((by rw [hg]; exact (below_size (qf1_)) : w.heap.size ≤ gb705)); have n3_ := Aside0.mk ((by rw [hg]; exact (below_size (qf1_)) : w.heap.size ≤ gb705)); clear HB; have HB := n0_; have BK705 := n1_; have GW705 := n2_; have GE705 := n3_; clear n0_ n1_ n2_ n3_; clear hb hbox hg) | ((with_reducible refine gate_dst (N := 4) rfl ?_); refine box_event ?hg (N := 4) ?hd (cs := #[.int .i64 0, .string (⟨#[]⟩ : ByteArray), .string (⟨#[]⟩ : ByteArray), .int .i64 0, .int .i64 0]) (t := 55) ?hr ?_; (case hd => rfl); (case hg => rfl); (case hr => first | (go_simp; done) | (go_simp; rfl)); intro gb706 hg w4 hbox hb; have n0_ := Aside0.mk (blk_below (g := gb705) (o := .cells #[.int .i64 a0_0, .int .i64 a0_1, .slice A0_2 l0_2.length c0_2] 48 (0, 0)) (bq_ BK705.out) hb); have n1_ := Aside0.mk (below_step (qf6_) hb); have n2_ := Aside0.mk (hbox); have n3_ := Aside0.mk ((by rw [hg]; exact (below_size (qf6_)) : w.heap.size ≤ gb706)); have n4_ := Aside0.mk ((by rw [hg]; exact (below_size (qf6_)) : w.heap.size ≤ gb706)); have n5_ := Aside0.mk ((by rw [hg]; exact Nat.ne_of_lt (blk_lt (g := gb705) (o := .cells #[.int .i64 a0_0, .int .i64 a0_1, .slice A0_2 l0_2.length c0_2] 48 (0, 0)) (bq_ BK705.out)) : gb705 ≠ gb706)); have n6_ := Aside0.mk ((by rw [hg]; exact Nat.ne_of_gt (blk_lt (g := gb705) (o := .cells #[.int .i64 a0_0, .int .i64 a0_1, .slice A0_2 l0_2.length c0_2] 48 (0, 0)) (bq_ BK705.out)) : gb706 ≠ gb705)); clear BK705; clear HB; have BK705 := n0_; have HB := n1_; have BK706 := n2_; have GW706 := n3_; have GE706 := n4_; have NB705_706 := n5_; have NB706_705 := n6_; clear n0_ n1_ n2_ n3_ n4_ n5_ n6_; clear hb hbox hg; have hnb5 := NB705_706.out; have hnc5 := NB706_705.out; have hcz6_0 : w4.cell? ⟨gb705, 0, none⟩ = some (.int .i64 a0_0) := bc_ BK705 0; have hcz6_1 : w4.cell? ⟨gb705, 1, none⟩ = some (.int .i64 a0_1) := bc_ BK705 1; have hcz6_2 : w4.cell? ⟨gb705, 2, none⟩ = some (.slice A0_2 l0_2.length c0_2) := bc_ BK705 2; have hfz6_0 := blk_frozen BK705.out 0; have hfz6_1 := blk_frozen BK705.out 1; have hfz6_2 := blk_frozen BK705.out 2))
  go_loopg [6] k (fun kq v6 w' => ∃ (x6_1 : Int) (x707000_1 : Int) (x707001_1 : ByteArray) (x707002_1 : ByteArray) (x707003_1 : Int) (x707004_1 : Int), v6 = .int .i64 x6_1 ∧ Aside0 (impl_Latest.l0 kq a1 x6_1 a0_0 a0_1 l0_2 = some (r1, r2, r3, r4, r5, r6)) ∧ Aside0 (kq ≤ k) ∧ Aside0 (w'.heap[gb705]? = some (.cells #[.int .i64 a0_0, .int .i64 a0_1, (.slice A0_2 l0_2.length c0_2)] 48 (0, 0))) ∧ Aside0 (w'.heap[gb706]? = some (.cells #[.int .i64 x707000_1, .string x707001_1, .string x707002_1, .int .i64 x707003_1, .int .i64 x707004_1] 55 (0, 0))) ∧ Aside0 (Below w.heap.size w w'))
  case atStart => exact ⟨(wrap64 ((l0_2.length : Int) - 1)), (0), ((⟨#[]⟩ : ByteArray)), ((⟨#[]⟩ : ByteArray)), (0), (0), (qf9_), H', ⟨Nat.le_refl _⟩, ⟨bq_ BK705.out⟩, ⟨bq_ BK706.out⟩, ⟨qf3_⟩⟩
  case round =>
    clear H'
    try clear p2
    try clear c5
    try clear p6
    try clear hcz6_0
    try clear hcz6_1
    try clear hcz6_2
    try clear hfz6_0
    try clear hfz6_1
    try clear hfz6_2
    obtain ⟨x6_1, x707000_1, x707001_1, x707002_1, x707003_1, x707004_1, rfl, HA, HK1, BK705, BK706, HB⟩ := hrel
    cases gk with
    | zero => exact absurd HA.out (by simp [impl_Latest.l0])
    | succ k1 =>
      have H := HA.out
      clear HA
      simp only [impl_Latest.l0] at H
      by_cases c7 : x6_1 ≥ 0
      · rw [if_pos c7] at H
        have c7b0 : decide (0 ≤ x6_1) = true := decide_eq_true c7
        clear c7
        by_cases c8 : 0 ≤ x6_1
        · rw [if_pos c8] at H
          have c8b0 : decide (0 ≤ x6_1) = true := decide_eq_true c8
          clear c8
          by_cases c9 : x6_1 < (l0_2.length : Int)
          · rw [if_pos c9] at H
            have c9b0 : decide (x6_1 < (l0_2.length : Int)) = true := decide_eq_true c9
            clear c9
            by_cases c10 : ((rd_Item l0_2 x6_1).f1).toList = a1.toList
            · rw [if_pos c10] at H
              have c10b0 : (((rd_Item l0_2 x6_1).f1).toList == a1.toList) = true := beq_iff_eq.mpr c10
              have c10b1 : (((rd_Item l0_2 x6_1).f1).toList != a1.toList) = false := bne_eq_false_iff_eq.mpr c10
              clear c10
              simp only [Option.some.injEq, Prod.mk.injEq] at H
              obtain ⟨rfl, rfl, rfl, rfl, rfl, rfl⟩ := H
              have hnb11 := NB705_706.out
              have hnc11 := NB706_705.out
              have hcz12_0 : wr.cell? ⟨gb705, 0, none⟩ = some (.int .i64 a0_0) := bc_ BK705 0
              have hcz12_1 : wr.cell? ⟨gb705, 1, none⟩ = some (.int .i64 a0_1) := bc_ BK705 1
              have hcz12_2 : wr.cell? ⟨gb705, 2, none⟩ = some (.slice A0_2 l0_2.length c0_2) := bc_ BK705 2
              have hfz12_0 := blk_frozen BK705.out 0
              have hfz12_1 := blk_frozen BK705.out 1
              have hfz12_2 := blk_frozen BK705.out 2
              have p707 : 0 ≤ (x6_1 : Int) := of_decide_eq_true dt_
              have q707 : x6_1 < (l0_2.length : Int) := of_decide_eq_true dt_
              obtain ⟨ad707, e707, hx707_0, hx707_1, hx707_2, hx707_3, hx707_4⟩ := at_Item HR0_2.out x6_1 p707 q707
              cases e707
              replace hx707_0 := hc_ HB hx707_0
              replace hx707_1 := hc_ HB hx707_1
              replace hx707_2 := hc_ HB hx707_2
              replace hx707_3 := hc_ HB hx707_3
              replace hx707_4 := hc_ HB hx707_4
              replace p707 := eq_true p707
              replace q707 := eq_true q707
              have p708 : 0 ≤ (x6_1 : Int) := of_decide_eq_true dt_
              have q708 : x6_1 < (l0_2.length : Int) := of_decide_eq_true dt_
              obtain ⟨ad708, e708, hx708_0, hx708_1, hx708_2, hx708_3, hx708_4⟩ := at_Item HR0_2.out x6_1 p708 q708
              obtain rfl : ad707 = ad708 := (by injection e708)
              replace hx708_0 := hc_ HB hx708_0
              replace hx708_1 := hc_ HB hx708_1
              replace hx708_2 := hc_ HB hx708_2
              replace hx708_3 := hc_ HB hx708_3
              replace hx708_4 := hc_ HB hx708_4
              replace p708 := eq_true p708
              replace q708 := eq_true q708
              have hcz13_0 : wr.cell? ⟨gb706, 0, none⟩ = some (.int .i64 x707000_1) := bc_ BK706 0
              have hcz13_1 : wr.cell? ⟨gb706, 1, none⟩ = some (.string x707001_1) := bc_ BK706 1
              have hcz13_2 : wr.cell? ⟨gb706, 2, none⟩ = some (.string x707002_1) := bc_ BK706 2
              have hcz13_3 : wr.cell? ⟨gb706, 3, none⟩ = some (.int .i64 x707003_1) := bc_ BK706 3
              have hcz13_4 : wr.cell? ⟨gb706, 4, none⟩ = some (.int .i64 x707004_1) := bc_ BK706 4
              have hfz13_0 := blk_frozen BK706.out 0
              have hfz13_1 := blk_frozen BK706.out 1
              have hfz13_2 := blk_frozen BK706.out 2
              have hfz13_3 := blk_frozen BK706.out 3
              have hfz13_4 := blk_frozen BK706.out 4
              go_wp2
              refine bodyPost_ret (results_ct rfl _ _ gb706 55 #[.int .i64 ((rd_Item l0_2 x6_1).f0), .string ((rd_Item l0_2 x6_1).f1), .string ((rd_Item l0_2 x6_1).f2), .int .i64 ((rd_Item l0_2 x6_1).f3), .int .i64 ((rd_Item l0_2 x6_1).f4)] (0, 0) _ rfl (bp_ BK706.out) Try.underlying55 rfl (by kernel_rfl)) rfl ?_
              exact ⟨qf4_, qf3_⟩
            · rw [if_neg c10] at H
              have c10b0 : (((rd_Item l0_2 x6_1).f1).toList == a1.toList) = false := beq_eq_false_iff_ne.mpr c10
              have c10b1 : (((rd_Item l0_2 x6_1).f1).toList != a1.toList) = true := bne_iff_ne.mpr c10
              have H' := Aside0.mk H
              clear H
              have hnb14 := NB705_706.out
              have hnc14 := NB706_705.out
              have hcz15_0 : wr.cell? ⟨gb705, 0, none⟩ = some (.int .i64 a0_0) := bc_ BK705 0
              have hcz15_1 : wr.cell? ⟨gb705, 1, none⟩ = some (.int .i64 a0_1) := bc_ BK705 1
              have hcz15_2 : wr.cell? ⟨gb705, 2, none⟩ = some (.slice A0_2 l0_2.length c0_2) := bc_ BK705 2
              have hfz15_0 := blk_frozen BK705.out 0
              have hfz15_1 := blk_frozen BK705.out 1
              have hfz15_2 := blk_frozen BK705.out 2
              have p707 : 0 ≤ (x6_1 : Int) := of_decide_eq_true dt_
              have q707 : x6_1 < (l0_2.length : Int) := of_decide_eq_true dt_
              obtain ⟨ad707, e707, hx707_0, hx707_1, hx707_2, hx707_3, hx707_4⟩ := at_Item HR0_2.out x6_1 p707 q707
              cases e707
              replace hx707_0 := hc_ HB hx707_0
              replace hx707_1 := hc_ HB hx707_1
              replace hx707_2 := hc_ HB hx707_2
              replace hx707_3 := hc_ HB hx707_3
              replace hx707_4 := hc_ HB hx707_4
              replace p707 := eq_true p707
              replace q707 := eq_true q707
              go_wp2
              go_roundg k1
              case measure => have := HK1.out; omega
              case rel => exact ⟨(wrap64 (x6_1 - 1)), (x707000_1), (x707001_1), (x707002_1), (x707003_1), (x707004_1), (qf9_), H', ⟨by have := HK1.out; omega⟩, ⟨bq_ BK705.out⟩, ⟨bq_ BK706.out⟩, ⟨qf3_⟩⟩
          · rw [if_neg c9] at H
            exact absurd H (by simp)
        · rw [if_neg c8] at H
          exact absurd H (by simp)
      · rw [if_neg c7] at H
        have c7b0 : decide (0 ≤ x6_1) = false := decide_eq_false c7
        clear c7
        simp only [Option.some.injEq, Prod.mk.injEq] at H
        obtain ⟨rfl, rfl, rfl, rfl, rfl, rfl⟩ := H
        have hnb16 := NB706_705.out
        have hnc16 := NB705_706.out
        have hcz17_0 : wr.cell? ⟨gb706, 0, none⟩ = some (.int .i64 x707000_1) := bc_ BK706 0
        have hcz17_1 : wr.cell? ⟨gb706, 1, none⟩ = some (.string x707001_1) := bc_ BK706 1
        have hcz17_2 : wr.cell? ⟨gb706, 2, none⟩ = some (.string x707002_1) := bc_ BK706 2
        have hcz17_3 : wr.cell? ⟨gb706, 3, none⟩ = some (.int .i64 x707003_1) := bc_ BK706 3
        have hcz17_4 : wr.cell? ⟨gb706, 4, none⟩ = some (.int .i64 x707004_1) := bc_ BK706 4
        have hfz17_0 := blk_frozen BK706.out 0
        have hfz17_1 := blk_frozen BK706.out 1
        have hfz17_2 := blk_frozen BK706.out 2
        have hfz17_3 := blk_frozen BK706.out 3
        have hfz17_4 := blk_frozen BK706.out 4
        go_wp2
        refine bodyPost_ret (results_ct rfl _ _ gb706 55 #[.int .i64 0, .string (⟨#[]⟩ : ByteArray), .string (⟨#[]⟩ : ByteArray), .int .i64 0, .int .i64 0] (0, 0) _ rfl (bp_ BK706.out) Try.underlying55 rfl (by kernel_rfl)) rfl ?_
        exact ⟨qf4_, qf3_⟩

/-! ### impl_RowGet: function 53 -/
def impl_RowGet.l0 : Nat → Int → List (S_Item) → Int → Int → Option (Int × ByteArray × ByteArray × Int × Int × Int)
  | 0, _, _, _, _ => none
  | k + 1, x1, x14, x15, x16 => if x16 < x15 then (if 0 ≤ x16 then (if x16 < (x14.length : Int) then (if ((rd_Item x14 x16).f0) ≥ x1 then (some ((rd_Item x14 x16).f0, (rd_Item x14 x16).f1, (rd_Item x14 x16).f2, (rd_Item x14 x16).f3, (rd_Item x14 x16).f4, 0)) else (impl_RowGet.l0 k x1 x14 x15 (wrap64 (x16 + 1)))) else (none)) else (none)) else (some (0, (⟨#[]⟩ : ByteArray), (⟨#[]⟩ : ByteArray), 0, 0, 2))
def impl_RowGet.f (k : Nat) (a0_0 : Int) (a0_1 : Int) (l0_2 : List (S_Item)) (a1 : Int) : Option (Int × ByteArray × ByteArray × Int × Int × Int) := if a1 < a0_0 then (some (0, (⟨#[]⟩ : ByteArray), (⟨#[]⟩ : ByteArray), 0, 0, 1)) else (impl_RowGet.l0 k a1 l0_2 (l0_2.length : Int) 0)
theorem impl_RowGet.mono_l : ∀ k, (∀ y0 y1 y2 y3, LeO (impl_RowGet.l0 k y0 y1 y2 y3) (impl_RowGet.l0 (k + 1) y0 y1 y2 y3))
  | 0 => fun _ _ _ _ r h => by simp [impl_RowGet.l0] at h
  | k + 1 => by
    have ih0 := impl_RowGet.mono_l k
    · intro y0 y1 y2 y3
      unfold impl_RowGet.l0
      repeat' first
      | (with_reducible exact ih0 _ _ _ _)
      | (with_reducible exact LeO.refl _)
      | (with_reducible exact LeO.none _)
      | (with_reducible refine LeO.ite ?_ ?_)
      | (with_reducible refine LeO.bind ?_ (fun _ => ?_))
      | exact ih0 _ _ _ _
      | exact LeO.none _
      | refine LeO.ite ?_ ?_
      | refine LeO.bind ?_ (fun _ => ?_)
theorem impl_RowGet.mono : ∀ a0 a1 a2 a3 k, LeO (impl_RowGet.f k a0 a1 a2 a3) (impl_RowGet.f (k + 1) a0 a1 a2 a3) := by
  intro a0 a1 a2 a3 k
  have ih0 := impl_RowGet.mono_l k
  unfold impl_RowGet.f
  repeat' first
      | (with_reducible exact ih0 _ _ _ _)
      | (with_reducible exact LeO.refl _)
      | (with_reducible exact LeO.none _)
      | (with_reducible refine LeO.ite ?_ ?_)
      | (with_reducible refine LeO.bind ?_ (fun _ => ?_))
      | exact ih0 _ _ _ _
      | exact LeO.none _
      | refine LeO.ite ?_ ?_
      | refine LeO.bind ?_ (fun _ => ?_)
set_option maxHeartbeats 8000000 in
set_option maxRecDepth 100000 in
theorem impl_RowGet.calls (k : Nat) (a0_0 : Int) (a0_1 : Int) (A0_2 : Option Addr) (c0_2 : Nat) (l0_2 : List (S_Item)) (a1 : Int) (r1 : Int) (r2 : ByteArray) (r3 : ByteArray) (r4 : Int) (r5 : Int) (r6 : Int) (w : World) (hr0_2 : Kd.C k_Item w A0_2 l0_2.length l0_2) (hc0_2 : l0_2.length ≤ c0_2) (h : impl_RowGet.f k a0_0 a0_1 l0_2 a1 = some (r1, r2, r3, r4, r5, r6)) :
    Calls Try.prog 53 #[.agg #[.int .i64 a0_0, .int .i64 a0_1, .slice A0_2 l0_2.length c0_2], .int .i64 a1] w fun e w' => e = .returned (.tuple #[.agg #[.int .i64 r1, .string r2, .string r3, .int .i64 r4, .int .i64 r5], .int .i64 r6]) ∧ Below w.heap.size w w' := by
  have hu48 := Try.underlying48
  have hu55 := Try.underlying55
  have HR0_2 := Aside0.mk hr0_2
  have HC0_2 := Aside0.mk hc0_2
  clear hr0_2 hc0_2
  have HB := Aside0.mk (Below.refl w.heap.size w)
  have H : (if a1 < a0_0 then (some (0, (⟨#[]⟩ : ByteArray), (⟨#[]⟩ : ByteArray), 0, 0, 1)) else (impl_RowGet.l0 k a1 l0_2 (l0_2.length : Int) 0)) = some (r1, r2, r3, r4, r5, r6) := h
  clear h
  by_cases c3 : a1 < a0_0
  · rw [if_pos c3] at H
    have c3b0 : decide (a1 < a0_0) = true := decide_eq_true c3
    clear c3
    simp only [Option.some.injEq, Prod.mk.injEq] at H
    obtain ⟨rfl, rfl, rfl, rfl, rfl, rfl⟩ := H
    go_enter Try.func53, Try.ntmps53
    go_wp2_with (first | ((with_reducible refine gate_dst (N := 2) rfl ?_); refine box_event ?hg (N := 2) ?hd (cs := #[.int .i64 a0_0, .int .i64 a0_1, .slice A0_2 l0_2.length c0_2]) (t := 48) ?hr ?_; (case hd => rfl); (case hg => rfl); (case hr => first | (go_simp; done) | (go_simp; rfl)); intro gb709 hg w4 hbox hb; have n0_ := Aside0.mk (below_step (qf1_) hb); have n1_ := Aside0.mk (hbox); have n2_ := Aside0.mk ((by rw [hg]; exact (below_size (qf1_)) : w.heap.size ≤ gb709)); have n3_ := Aside0.mk ((by rw [hg]; exact (below_size (qf1_)) : w.heap.size ≤ gb709)); clear HB; have HB := n0_; have BK709 := n1_; have GW709 := n2_; have GE709 := n3_; clear n0_ n1_ n2_ n3_; clear hb hbox hg) | ((with_reducible refine gate_dst (N := 4) rfl ?_); refine box_event ?hg (N := 4) ?hd (cs := #[.int .i64 0, .string (⟨#[]⟩ : ByteArray), .string (⟨#[]⟩ : ByteArray), .int .i64 0, .int .i64 0]) (t := 55) ?hr ?_; (case hd => rfl); (case hg => rfl); (case hr => first | (go_simp; done) | (go_simp; rfl)); intro gb710 hg w5 hbox hb; have n0_ := Aside0.mk (blk_below (g := gb709) (o := .cells #[.int .i64 a0_0, .int .i64 a0_1, .slice A0_2 l0_2.length c0_2] 48 (0, 0)) (bq_ BK709.out) hb); have n1_ := Aside0.mk (below_step (qf2_) hb); have n2_ := Aside0.mk (hbox); have n3_ := Aside0.mk ((by rw [hg]; exact (below_size (qf2_)) : w.heap.size ≤ gb710)); have n4_ := Aside0.mk ((by rw [hg]; exact (below_size (qf2_)) : w.heap.size ≤ gb710)); have n5_ := Aside0.mk ((by rw [hg]; exact Nat.ne_of_lt (blk_lt (g := gb709) (o := .cells #[.int .i64 a0_0, .int .i64 a0_1, .slice A0_2 l0_2.length c0_2] 48 (0, 0)) (bq_ BK709.out)) : gb709 ≠ gb710)); have n6_ := Aside0.mk ((by rw [hg]; exact Nat.ne_of_gt (blk_lt (g := gb709) (o := .cells #[.int .i64 a0_0, .int .i64 a0_1, .slice A0_2 l0_2.length c0_2] 48 (0, 0)) (bq_ BK709.out)) : gb710 ≠ gb709)); clear BK709; clear HB; have BK709 := n0_; have HB := n1_; have BK710 := n2_; have GW710 := n3_; have GE710 := n4_; have NB709_710 := n5_; have NB710_709 := n6_; clear n0_ n1_ n2_ n3_ n4_ n5_ n6_; clear hb hbox hg; have hnb6 := NB709_710.out; have hnc6 := NB710_709.out; have hcz7_0 : w5.cell? ⟨gb709, 0, none⟩ = some (.int .i64 a0_0) := bc_ BK709 0; have hcz7_1 : w5.cell? ⟨gb709, 1, none⟩ = some (.int .i64 a0_1) := bc_ BK709 1; have hcz7_2 : w5.cell? ⟨gb709, 2, none⟩ = some (.slice A0_2 l0_2.length c0_2) := bc_ BK709 2; have hfz7_0 := blk_frozen BK709.out 0; have hfz7_1 := blk_frozen BK709.out 1; have hfz7_2 := blk_frozen BK709.out 2; have hcz8_0 : w5.cell? ⟨gb710, 0, none⟩ = some (.int .i64 0) := bc_ BK710 0; have hcz8_1 : w5.cell? ⟨gb710, 1, none⟩ = some (.string (⟨#[]⟩ : ByteArray)) := bc_ BK710 1; have hcz8_2 : w5.cell? ⟨gb710, 2, none⟩ = some (.string (⟨#[]⟩ : ByteArray)) := bc_ BK710 2; have hcz8_3 : w5.cell? ⟨gb710, 3, none⟩ = some (.int .i64 0) := bc_ BK710 3; have hcz8_4 : w5.cell? ⟨gb710, 4, none⟩ = some (.int .i64 0) := bc_ BK710 4; have hfz8_0 := blk_frozen BK710.out 0; have hfz8_1 := blk_frozen BK710.out 1; have hfz8_2 := blk_frozen BK710.out 2; have hfz8_3 := blk_frozen BK710.out 3; have hfz8_4 := blk_frozen BK710.out 4))
    refine bodyPost_ret (results_ct rfl _ _ gb710 55 #[.int .i64 0, .string (⟨#[]⟩ : ByteArray), .string (⟨#[]⟩ : ByteArray), .int .i64 0, .int .i64 0] (0, 0) _ rfl (bp_ BK710.out) Try.underlying55 rfl (by kernel_rfl)) rfl ?_
    exact ⟨qf4_, qf0_⟩
  · rw [if_neg c3] at H
    have c3b0 : decide (a1 < a0_0) = false := decide_eq_false c3
    clear c3
    have H' := Aside0.mk H
    clear H
    go_enter Try.func53, Try.ntmps53
    go_wp2_with (first | ((with_reducible refine gate_dst (N := 2) rfl ?_); refine box_event ?hg (N := 2) ?hd (cs := #[.int .i64 a0_0, .int .i64 a0_1, .slice A0_2 l0_2.length c0_2]) (t := 48) ?hr ?_; (case hd => rfl); (case hg => rfl); (case hr => first | (go_simp; done) | (go_simp; rfl)); intro gb709 hg w9 hbox hb; have n0_ := Aside0.mk (below_step (qf1_) hb); have n1_ := Aside0.mk (hbox); have n2_ := Aside0.mk ((by rw [hg]; exact (below_size (qf1_)) : w.heap.size ≤ gb709)); have n3_ := Aside0.mk ((by rw [hg]; exact (below_size (qf1_)) : w.heap.size ≤ gb709)); clear HB; have HB := n0_; have BK709 := n1_; have GW709 := n2_; have GE709 := n3_; clear n0_ n1_ n2_ n3_; clear hb hbox hg) | ((with_reducible refine gate_dst (N := 4) rfl ?_); refine box_event ?hg (N := 4) ?hd (cs := #[.int .i64 0, .string (⟨#[]⟩ : ByteArray), .string (⟨#[]⟩ : ByteArray), .int .i64 0, .int .i64 0]) (t := 55) ?hr ?_; (case hd => rfl); (case hg => rfl); (case hr => first | (go_simp; done) | (go_simp; rfl)); intro gb710 hg w10 hbox hb; have n0_ := Aside0.mk (blk_below (g := gb709) (o := .cells #[.int .i64 a0_0, .int .i64 a0_1, .slice A0_2 l0_2.length c0_2] 48 (0, 0)) (bq_ BK709.out) hb); have n1_ := Aside0.mk (below_step (qf2_) hb); have n2_ := Aside0.mk (hbox); have n3_ := Aside0.mk ((by rw [hg]; exact (below_size (qf2_)) : w.heap.size ≤ gb710)); have n4_ := Aside0.mk ((by rw [hg]; exact (below_size (qf2_)) : w.heap.size ≤ gb710)); have n5_ := Aside0.mk ((by rw [hg]; exact Nat.ne_of_lt (blk_lt (g := gb709) (o := .cells #[.int .i64 a0_0, .int .i64 a0_1, .slice A0_2 l0_2.length c0_2] 48 (0, 0)) (bq_ BK709.out)) : gb709 ≠ gb710)); have n6_ := Aside0.mk ((by rw [hg]; exact Nat.ne_of_gt (blk_lt (g := gb709) (o := .cells #[.int .i64 a0_0, .int .i64 a0_1, .slice A0_2 l0_2.length c0_2] 48 (0, 0)) (bq_ BK709.out)) : gb710 ≠ gb709)); clear BK709; clear HB; have BK709 := n0_; have HB := n1_; have BK710 := n2_; have GW710 := n3_; have GE710 := n4_; have NB709_710 := n5_; have NB710_709 := n6_; clear n0_ n1_ n2_ n3_ n4_ n5_ n6_; clear hb hbox hg; have hnb11 := NB709_710.out; have hnc11 := NB710_709.out; have hcz12_0 : w10.cell? ⟨gb709, 0, none⟩ = some (.int .i64 a0_0) := bc_ BK709 0; have hcz12_1 : w10.cell? ⟨gb709, 1, none⟩ = some (.int .i64 a0_1) := bc_ BK709 1; have hcz12_2 : w10.cell? ⟨gb709, 2, none⟩ = some (.slice A0_2 l0_2.length c0_2) := bc_ BK709 2; have hfz12_0 := blk_frozen BK709.out 0; have hfz12_1 := blk_frozen BK709.out 1; have hfz12_2 := blk_frozen BK709.out 2))
    go_loopg [16] k (fun kq v16 w' => ∃ (x16_1 : Int) (x711000_1 : Int) (x711001_1 : ByteArray) (x711002_1 : ByteArray) (x711003_1 : Int) (x711004_1 : Int), v16 = .int .i64 x16_1 ∧ Aside0 (impl_RowGet.l0 kq a1 l0_2 (l0_2.length : Int) x16_1 = some (r1, r2, r3, r4, r5, r6)) ∧ Aside0 (kq ≤ k) ∧ Aside0 (w'.heap[gb709]? = some (.cells #[.int .i64 a0_0, .int .i64 a0_1, (.slice A0_2 l0_2.length c0_2)] 48 (0, 0))) ∧ Aside0 (w'.heap[gb710]? = some (.cells #[.int .i64 x711000_1, .string x711001_1, .string x711002_1, .int .i64 x711003_1, .int .i64 x711004_1] 55 (0, 0))) ∧ Aside0 (Below w.heap.size w w'))
    case atStart => exact ⟨(0), (0), ((⟨#[]⟩ : ByteArray)), ((⟨#[]⟩ : ByteArray)), (0), (0), (qf9_), H', ⟨Nat.le_refl _⟩, ⟨bq_ BK709.out⟩, ⟨bq_ BK710.out⟩, ⟨qf0_⟩⟩
    case round =>
      clear H'
      try clear c1
      try clear p2
      try clear c3
      try clear c3b0
      try clear c5
      try clear c6
      try clear c11
      try clear hcz12_0
      try clear hcz12_1
      try clear hcz12_2
      try clear hcz7_0
      try clear hcz7_1
      try clear hcz7_2
      try clear hcz8_0
      try clear hcz8_1
      try clear hcz8_2
      try clear hcz8_3
      try clear hcz8_4
      try clear hfz12_0
      try clear hfz12_1
      try clear hfz12_2
      try clear hfz7_0
      try clear hfz7_1
      try clear hfz7_2
      try clear hfz8_0
      try clear hfz8_1
      try clear hfz8_2
      try clear hfz8_3
      try clear hfz8_4
      obtain ⟨x16_1, x711000_1, x711001_1, x711002_1, x711003_1, x711004_1, rfl, HA, HK1, BK709, BK710, HB⟩ := hrel
      cases gk with
      | zero => exact absurd HA.out (by simp [impl_RowGet.l0])
      | succ k1 =>
        have H := HA.out
        clear HA
        simp only [impl_RowGet.l0] at H
        by_cases c13 : x16_1 < (l0_2.length : Int)
        · rw [if_pos c13] at H
          have c13b0 : decide (x16_1 < (l0_2.length : Int)) = true := decide_eq_true c13
          clear c13
          by_cases c14 : 0 ≤ x16_1
          · rw [if_pos c14] at H
            have c14b0 : decide (0 ≤ x16_1) = true := decide_eq_true c14
            clear c14
            by_cases c15 : x16_1 < (l0_2.length : Int)
            · rw [if_pos c15] at H
              have c15b0 : decide (x16_1 < (l0_2.length : Int)) = true := decide_eq_true c15
              clear c15
              by_cases c16 : ((rd_Item l0_2 x16_1).f0) ≥ a1
              · rw [if_pos c16] at H
                have c16b0 : decide (a1 ≤ ((rd_Item l0_2 x16_1).f0)) = true := decide_eq_true c16
                clear c16
                simp only [Option.some.injEq, Prod.mk.injEq] at H
                obtain ⟨rfl, rfl, rfl, rfl, rfl, rfl⟩ := H
                have p711 : 0 ≤ (x16_1 : Int) := of_decide_eq_true dt_
                have q711 : x16_1 < (l0_2.length : Int) := of_decide_eq_true dt_
                obtain ⟨ad711, e711, hx711_0, hx711_1, hx711_2, hx711_3, hx711_4⟩ := at_Item HR0_2.out x16_1 p711 q711
                cases e711
                replace hx711_0 := hc_ HB hx711_0
                replace hx711_1 := hc_ HB hx711_1
                replace hx711_2 := hc_ HB hx711_2
                replace hx711_3 := hc_ HB hx711_3
                replace hx711_4 := hc_ HB hx711_4
                replace p711 := eq_true p711
                replace q711 := eq_true q711
                go_wp2_with (first | ((with_reducible refine gate_dst (N := 7) rfl ?_); refine box_event ?hg (N := 7) ?hd (cs := #[.int .i64 0, .string (⟨#[]⟩ : ByteArray), .string (⟨#[]⟩ : ByteArray), .int .i64 0, .int .i64 0]) (t := 55) ?hr ?_; (case hd => rfl); (case hg => rfl); (case hr => first | (go_simp; done) | (go_simp; rfl)); intro gb712 hg w17 hbox hb; have n0_ := Aside0.mk (blk_below (g := gb709) (o := .cells #[.int .i64 a0_0, .int .i64 a0_1, .slice (some ad711) l0_2.length c0_2] 48 (0, 0)) (bq_ BK709.out) hb); have n1_ := Aside0.mk (blk_below (g := gb710) (o := .cells #[.int .i64 x711000_1, .string x711001_1, .string x711002_1, .int .i64 x711003_1, .int .i64 x711004_1] 55 (0, 0)) (bq_ BK710.out) hb); have n2_ := Aside0.mk (below_step (qf0_) hb); have n3_ := Aside0.mk (hbox); have n4_ := Aside0.mk ((by rw [hg]; exact (below_size (qf0_)) : w.heap.size ≤ gb712)); have n5_ := Aside0.mk ((by rw [hg]; exact (below_size (qf0_)) : w.heap.size ≤ gb712)); have n6_ := Aside0.mk ((by rw [hg]; exact Nat.ne_of_lt (blk_lt (g := gb709) (o := .cells #[.int .i64 a0_0, .int .i64 a0_1, .slice (some ad711) l0_2.length c0_2] 48 (0, 0)) (bq_ BK709.out)) : gb709 ≠ gb712)); have n7_ := Aside0.mk ((by rw [hg]; exact Nat.ne_of_gt (blk_lt (g := gb709) (o := .cells #[.int .i64 a0_0, .int .i64 a0_1, .slice (some ad711) l0_2.length c0_2] 48 (0, 0)) (bq_ BK709.out)) : gb712 ≠ gb709)); have n8_ := Aside0.mk ((by rw [hg]; exact Nat.ne_of_lt (blk_lt (g := gb710) (o := .cells #[.int .i64 x711000_1, .string x711001_1, .string x711002_1, .int .i64 x711003_1, .int .i64 x711004_1] 55 (0, 0)) (bq_ BK710.out)) : gb710 ≠ gb712)); have n9_ := Aside0.mk ((by rw [hg]; exact Nat.ne_of_gt (blk_lt (g := gb710) (o := .cells #[.int .i64 x711000_1, .string x711001_1, .string x711002_1, .int .i64 x711003_1, .int .i64 x711004_1] 55 (0, 0)) (bq_ BK710.out)) : gb712 ≠ gb710)); clear BK709; clear BK710; clear HB; have BK709 := n0_; have BK710 := n1_; have HB := n2_; have BK712 := n3_; have GW712 := n4_; have GE712 := n5_; have NB709_712 := n6_; have NB712_709 := n7_; have NB710_712 := n8_; have NB712_710 := n9_; clear n0_ n1_ n2_ n3_ n4_ n5_ n6_ n7_ n8_ n9_; clear hb hbox hg; have hnb18 := NB712_709.out; have hnc18 := NB709_712.out; have hnb19 := NB712_710.out; have hnc19 := NB710_712.out; have hcz20_0 : w17.cell? ⟨gb712, 0, none⟩ = some (.int .i64 0) := bc_ BK712 0; have hcz20_1 : w17.cell? ⟨gb712, 1, none⟩ = some (.string (⟨#[]⟩ : ByteArray)) := bc_ BK712 1; have hcz20_2 : w17.cell? ⟨gb712, 2, none⟩ = some (.string (⟨#[]⟩ : ByteArray)) := bc_ BK712 2; have hcz20_3 : w17.cell? ⟨gb712, 3, none⟩ = some (.int .i64 0) := bc_ BK712 3; have hcz20_4 : w17.cell? ⟨gb712, 4, none⟩ = some (.int .i64 0) := bc_ BK712 4; have hfz20_0 := blk_frozen BK712.out 0; have hfz20_1 := blk_frozen BK712.out 1; have hfz20_2 := blk_frozen BK712.out 2; have hfz20_3 := blk_frozen BK712.out 3; have hfz20_4 := blk_frozen BK712.out 4; have hnb21 := NB710_709.out; have hnc21 := NB709_710.out; have hcz22_0 : w17.cell? ⟨gb710, 0, none⟩ = some (.int .i64 x711000_1) := bc_ BK710 0; have hcz22_1 : w17.cell? ⟨gb710, 1, none⟩ = some (.string x711001_1) := bc_ BK710 1; have hcz22_2 : w17.cell? ⟨gb710, 2, none⟩ = some (.string x711002_1) := bc_ BK710 2; have hcz22_3 : w17.cell? ⟨gb710, 3, none⟩ = some (.int .i64 x711003_1) := bc_ BK710 3; have hcz22_4 : w17.cell? ⟨gb710, 4, none⟩ = some (.int .i64 x711004_1) := bc_ BK710 4; have hfz22_0 := blk_frozen BK710.out 0; have hfz22_1 := blk_frozen BK710.out 1; have hfz22_2 := blk_frozen BK710.out 2; have hfz22_3 := blk_frozen BK710.out 3; have hfz22_4 := blk_frozen BK710.out 4))
                refine bodyPost_ret (results_ct rfl _ _ gb710 55 #[.int .i64 ((rd_Item l0_2 x16_1).f0), .string ((rd_Item l0_2 x16_1).f1), .string ((rd_Item l0_2 x16_1).f2), .int .i64 ((rd_Item l0_2 x16_1).f3), .int .i64 ((rd_Item l0_2 x16_1).f4)] (0, 0) _ rfl (by_ BK710.out) Try.underlying55 rfl (by kernel_rfl)) rfl ?_
                exact ⟨qf4_, qf8_⟩
              · rw [if_neg c16] at H
                have c16b0 : decide (a1 ≤ ((rd_Item l0_2 x16_1).f0)) = false := decide_eq_false c16
                clear c16
                have H' := Aside0.mk H
                clear H
                have p711 : 0 ≤ (x16_1 : Int) := of_decide_eq_true dt_
                have q711 : x16_1 < (l0_2.length : Int) := of_decide_eq_true dt_
                obtain ⟨ad711, e711, hx711_0, hx711_1, hx711_2, hx711_3, hx711_4⟩ := at_Item HR0_2.out x16_1 p711 q711
                cases e711
                replace hx711_0 := hc_ HB hx711_0
                replace hx711_1 := hc_ HB hx711_1
                replace hx711_2 := hc_ HB hx711_2
                replace hx711_3 := hc_ HB hx711_3
                replace hx711_4 := hc_ HB hx711_4
                replace p711 := eq_true p711
                replace q711 := eq_true q711
                go_wp2_with (first | ((with_reducible refine gate_dst (N := 7) rfl ?_); refine box_event ?hg (N := 7) ?hd (cs := #[.int .i64 0, .string (⟨#[]⟩ : ByteArray), .string (⟨#[]⟩ : ByteArray), .int .i64 0, .int .i64 0]) (t := 55) ?hr ?_; (case hd => rfl); (case hg => rfl); (case hr => first | (go_simp; done) | (go_simp; rfl)); intro gb712 hg w23 hbox hb; have n0_ := Aside0.mk (blk_below (g := gb709) (o := .cells #[.int .i64 a0_0, .int .i64 a0_1, .slice (some ad711) l0_2.length c0_2] 48 (0, 0)) (bq_ BK709.out) hb); have n1_ := Aside0.mk (blk_below (g := gb710) (o := .cells #[.int .i64 x711000_1, .string x711001_1, .string x711002_1, .int .i64 x711003_1, .int .i64 x711004_1] 55 (0, 0)) (bq_ BK710.out) hb); have n2_ := Aside0.mk (below_step (qf0_) hb); have n3_ := Aside0.mk (hbox); have n4_ := Aside0.mk ((by rw [hg]; exact (below_size (qf0_)) : w.heap.size ≤ gb712)); have n5_ := Aside0.mk ((by rw [hg]; exact (below_size (qf0_)) : w.heap.size ≤ gb712)); have n6_ := Aside0.mk ((by rw [hg]; exact Nat.ne_of_lt (blk_lt (g := gb709) (o := .cells #[.int .i64 a0_0, .int .i64 a0_1, .slice (some ad711) l0_2.length c0_2] 48 (0, 0)) (bq_ BK709.out)) : gb709 ≠ gb712)); have n7_ := Aside0.mk ((by rw [hg]; exact Nat.ne_of_gt (blk_lt (g := gb709) (o := .cells #[.int .i64 a0_0, .int .i64 a0_1, .slice (some ad711) l0_2.length c0_2] 48 (0, 0)) (bq_ BK709.out)) : gb712 ≠ gb709)); have n8_ := Aside0.mk ((by rw [hg]; exact Nat.ne_of_lt (blk_lt (g := gb710) (o := .cells #[.int .i64 x711000_1, .string x711001_1, .string x711002_1, .int .i64 x711003_1, .int .i64 x711004_1] 55 (0, 0)) (bq_ BK710.out)) : gb710 ≠ gb712)); have n9_ := Aside0.mk ((by rw [hg]; exact Nat.ne_of_gt (blk_lt (g := gb710) (o := .cells #[.int .i64 x711000_1, .string x711001_1, .string x711002_1, .int .i64 x711003_1, .int .i64 x711004_1] 55 (0, 0)) (bq_ BK710.out)) : gb712 ≠ gb710)); clear BK709; clear BK710; clear HB; have BK709 := n0_; have BK710 := n1_; have HB := n2_; have BK712 := n3_; have GW712 := n4_; have GE712 := n5_; have NB709_712 := n6_; have NB712_709 := n7_; have NB710_712 := n8_; have NB712_710 := n9_; clear n0_ n1_ n2_ n3_ n4_ n5_ n6_ n7_ n8_ n9_; clear hb hbox hg; have hnb24 := NB712_709.out; have hnc24 := NB709_712.out; have hnb25 := NB712_710.out; have hnc25 := NB710_712.out; have hcz26_0 : w23.cell? ⟨gb712, 0, none⟩ = some (.int .i64 0) := bc_ BK712 0; have hcz26_1 : w23.cell? ⟨gb712, 1, none⟩ = some (.string (⟨#[]⟩ : ByteArray)) := bc_ BK712 1; have hcz26_2 : w23.cell? ⟨gb712, 2, none⟩ = some (.string (⟨#[]⟩ : ByteArray)) := bc_ BK712 2; have hcz26_3 : w23.cell? ⟨gb712, 3, none⟩ = some (.int .i64 0) := bc_ BK712 3; have hcz26_4 : w23.cell? ⟨gb712, 4, none⟩ = some (.int .i64 0) := bc_ BK712 4; have hfz26_0 := blk_frozen BK712.out 0; have hfz26_1 := blk_frozen BK712.out 1; have hfz26_2 := blk_frozen BK712.out 2; have hfz26_3 := blk_frozen BK712.out 3; have hfz26_4 := blk_frozen BK712.out 4))
                go_roundg k1
                case measure => have := HK1.out; omega
                case rel => exact ⟨(wrap64 (x16_1 + 1)), (x711000_1), (x711001_1), (x711002_1), (x711003_1), (x711004_1), (qf9_), H', ⟨by have := HK1.out; omega⟩, ⟨bf_ NB709_712.out BK709.out⟩, ⟨bf_ NB710_712.out BK710.out⟩, ⟨qf8_⟩⟩
            · rw [if_neg c15] at H
              exact absurd H (by simp)
          · rw [if_neg c14] at H
            exact absurd H (by simp)
        · rw [if_neg c13] at H
          have c13b0 : decide (x16_1 < (l0_2.length : Int)) = false := decide_eq_false c13
          clear c13
          simp only [Option.some.injEq, Prod.mk.injEq] at H
          obtain ⟨rfl, rfl, rfl, rfl, rfl, rfl⟩ := H
          have hnb27 := NB710_709.out
          have hnc27 := NB709_710.out
          have hcz28_0 : wr.cell? ⟨gb710, 0, none⟩ = some (.int .i64 x711000_1) := bc_ BK710 0
          have hcz28_1 : wr.cell? ⟨gb710, 1, none⟩ = some (.string x711001_1) := bc_ BK710 1
          have hcz28_2 : wr.cell? ⟨gb710, 2, none⟩ = some (.string x711002_1) := bc_ BK710 2
          have hcz28_3 : wr.cell? ⟨gb710, 3, none⟩ = some (.int .i64 x711003_1) := bc_ BK710 3
          have hcz28_4 : wr.cell? ⟨gb710, 4, none⟩ = some (.int .i64 x711004_1) := bc_ BK710 4
          have hfz28_0 := blk_frozen BK710.out 0
          have hfz28_1 := blk_frozen BK710.out 1
          have hfz28_2 := blk_frozen BK710.out 2
          have hfz28_3 := blk_frozen BK710.out 3
          have hfz28_4 := blk_frozen BK710.out 4
          go_wp2
          refine bodyPost_ret (results_ct rfl _ _ gb710 55 #[.int .i64 0, .string (⟨#[]⟩ : ByteArray), .string (⟨#[]⟩ : ByteArray), .int .i64 0, .int .i64 0] (0, 0) _ rfl (bp_ BK710.out) Try.underlying55 rfl (by kernel_rfl)) rfl ?_
          exact ⟨qf4_, qf0_⟩
/-! ### slices_ContainsFunc_RowPack: function 73 -/
-- IMPORT Derived.Shelf.Abstract
/-- the place of the first item of a key, from i on; or -1 -/
def keyAt (key : ByteArray) (l : List S_Item) : Nat → Nat → Int
  | 0, _ => -1
  | d + 1, i => if (rd_Item l (i : Int)).f1.toList = key.toList then (i : Int) else keyAt key l d (i + 1)
set_option maxHeartbeats 8000000 in
theorem packKey (gx : Nat) (x0 : Int) (key : ByteArray) (x2 : ByteArray) (x3 x4 : Int) (y0 : Int) (y1 y2 : ByteArray) (y3 y4 : Int) (W : World) (hx : W.heap[gx]? = some (.cells #[.int .i64 x0, .string key, .string x2, .int .i64 x3, .int .i64 x4] 55 (0, 0))) :
    Calls Try.prog 74 #[.agg #[.int .i64 y0, .string y1, .string y2, .int .i64 y3, .int .i64 y4], .pointer (some ⟨gx, 0, none⟩)] W fun e w' => e = .returned (.bool (y1.toList == key.toList)) ∧ Below W.heap.size W w' := by
  have hu := Try.underlying55
  have hc : W.cell? ⟨gx, 1, none⟩ = some (.string key) := (blk_cell hx 1).trans rfl
  have hlt : gx < W.heap.size := blk_lt hx
  have hne : gx ≠ W.heap.size := by omega
  clear hx
  go_enter Try.func74, Try.ntmps74
  go_wp2
  go_ret
  exact ⟨qf9_, by repeat (first | exact Below.refl _ _ | apply below_alloc | apply pw_below_drewN | apply below_drew1)⟩
set_option maxHeartbeats 8000000 in
set_option maxRecDepth 100000 in
theorem packIdx (gx : Nat) (x0 : Int) (key : ByteArray) (x2 : ByteArray) (x3 x4 : Int) (A : Option Addr) (c : Nat) (l : List S_Item) (w : World) (hx : w.heap[gx]? = some (.cells #[.int .i64 x0, .string key, .string x2, .int .i64 x3, .int .i64 x4] 55 (0, 0))) (hr : Kd.C k_Item w A l.length l) :
    Calls Try.prog 82 #[.slice A l.length c, .func (.func 74) #[] #[.pointer (some ⟨gx, 0, none⟩)]] w fun e w' => e = .returned (.int .i64 (keyAt key l l.length 0)) ∧ Below w.heap.size w w' := by
  have eC : ∀ args w, (callFunc 74 args).run Try.prog w = .ok (.enter 74 args) w := enters_of Try.func74 (by kernel_rfl) rfl
  have hu := Try.underlying55
  have HN := Aside0.mk (Kd.C_max hr)
  have HX := Aside0.mk hx
  have HR := Aside0.mk hr
  clear hx hr
  go_enter Try.func82, Try.ntmps82
  go_wp2
  go_loopg [5, 8] l.length (fun gg _ s8 wr => ∃ kk : Nat, kk ≤ l.length ∧ l.length - kk ≤ gg ∧ s8 = .int .i64 kk ∧ Aside0 (Below w.heap.size w wr) ∧ Aside0 (keyAt key l l.length 0 = keyAt key l (l.length - kk) kk))
  case atStart => exact ⟨0, Nat.zero_le _, by omega, rfl, ⟨Below.refl _ w⟩, ⟨rfl⟩⟩
  case round =>
    obtain ⟨kk, hkk, hg, rfl, BW, AX⟩ := hrel
    have hn := HN.out
    by_cases hlt : kk < l.length
    · have hltz : (kk : Int) < (l.length : Int) := by omega
      obtain ⟨ad, rfl, h0, h1, h2, h3, h4⟩ := at_Item HR.out (kk : Int) (by omega) hltz
      replace h0 := pw_cell_below BW.out h0
      replace h1 := pw_cell_below BW.out h1
      replace h2 := pw_cell_below BW.out h2
      replace h3 := pw_cell_below BW.out h3
      replace h4 := pw_cell_below BW.out h4
      simp only [Int.toNat_natCast] at h0 h1 h2 h3 h4
      have hcall := packKey gx x0 key x2 x3 x4 (rd_Item l (kk : Int)).f0 (rd_Item l (kk : Int)).f1 (rd_Item l (kk : Int)).f2 (rd_Item l (kk : Int)).f3 (rd_Item l (kk : Int)).f4 wr (blk_below HX.out BW.out)
      cases hq : ((rd_Item l (kk : Int)).f1.toList == key.toList) with
      | true =>
        rw [hq] at hcall
        have E : Aside0 (keyAt key l l.length 0 = (kk : Int)) := ⟨by
          rw [AX.out, show l.length - kk = (l.length - kk - 1) + 1 by omega]
          unfold keyAt
          rw [if_pos (by simpa using hq)]⟩
        clear AX hq HX
        go_wp2_with (go_at_fn 74; refine hcall.mono ?_; rintro e w' ⟨rfl, hb'⟩)
        go_ret
        exact ⟨by rw [E.out]; rfl, below_step BW.out hb'⟩
      | false =>
        rw [hq] at hcall
        have e : keyAt key l (l.length - kk) kk = keyAt key l (l.length - (kk + 1)) (kk + 1) := by
          rw [show l.length - kk = (l.length - (kk + 1)) + 1 by omega]
          show (if _ then _ else _) = _
          rw [if_neg (by simpa using hq)]
        have E := Aside0.mk (AX.out.trans e)
        clear e AX hq
        go_wp2_with (go_at_fn 74; refine hcall.mono ?_; rintro e w' ⟨rfl, hb'⟩)
        go_roundg (l.length - (kk + 1))
        case measure => omega
        case rel => exact ⟨kk + 1, by omega, by omega, by go_num, ⟨below_step BW.out hb'⟩, E⟩
    · have hltz : ¬ (kk : Int) < (l.length : Int) := by omega
      have E : Aside0 (keyAt key l l.length 0 = -1) := ⟨by
        rw [AX.out, show l.length - kk = 0 by omega]
        rfl⟩
      clear AX
      go_wp2
      go_ret
      exact ⟨by rw [E.out]; rfl, BW.out⟩
/-- is there an item of a key -/
def slices_ContainsFunc_RowPack.f (l0 : List S_Item) (a1 : ByteArray) : Option (Bool) := some (decide (0 ≤ keyAt a1 l0 l0.length 0))
set_option maxHeartbeats 8000000 in
theorem slices_ContainsFunc_RowPack.calls {gx : Nat} {x0 : Int} {x2 : ByteArray} {x3 x4 : Int} (A0 : Option Addr) (c0 : Nat) (l0 : List S_Item) (a1 : ByteArray) (r : Bool) (w : World) (hr0 : Kd.C k_Item w A0 l0.length l0) (hc0 : l0.length ≤ c0) (h : slices_ContainsFunc_RowPack.f l0 a1 = some r)
    (hx : w.heap[gx]? = some (.cells #[.int .i64 x0, .string a1, .string x2, .int .i64 x3, .int .i64 x4] 55 (0, 0))) :
    Calls Try.prog 73 #[.slice A0 l0.length c0, .func (.func 74) #[] #[.pointer (some ⟨gx, 0, none⟩)]] w fun e w' => e = .returned (.bool r) ∧ Below w.heap.size w w' := by
  obtain rfl := Option.some.inj h
  have HC := Aside0.mk (fun W hx hr => packIdx gx x0 a1 x2 x3 x4 A0 c0 l0 W hx hr)
  have HX := Aside0.mk hx
  have HR := Aside0.mk hr0
  clear hr0 h hx hc0
  generalize keyAt a1 l0 l0.length 0 = r at HC
  go_enter Try.func73, Try.ntmps73
  go_wp2_with (go_at_call 82; refine (HC.out _ HX.out HR.out).mono ?_; rintro e w' ⟨rfl, hb'⟩)
  go_ret
  exact ⟨by first | rfl | simp, hb'⟩
end Go.Proofs.Ythkepjgolaichaa.Q
