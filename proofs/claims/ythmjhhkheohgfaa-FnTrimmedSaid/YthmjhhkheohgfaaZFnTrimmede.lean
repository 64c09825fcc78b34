/- Made by a program of ours out of the print of the loaded functions: for each of some functions a plain function, and the walk that shows that a call comes to what it says. No condition but those of each theorem. -/
import Derived.Test.YthmjhhkheohgfaaZFnTrimmed0
import Derived.Test.YthmjhhkheohgfaaZFnTrimmeda
import Derived.Test.YthmjhhkheohgfaaZFnTrimmedc
import Derived.Test.YthmjhhkheohgfaaZFnTrimmedd
namespace Go.Proofs.Ythmjhhkheohgfaa.Q
open Go.RowKit Go.Proofs.YthmjhhkheohgfaaW.PrintWords Go.Proofs.YthmjhhkheohgfaaW.PrintLast Go.Proofs.YthmjhhkheohgfaaW.PrintMore
attribute [local go_sem] max2_int min2_int max_two min_two max_three min_three max_four min_four   -- for this text's walks alone
set_option linter.unusedVariables false
set_option linter.unusedSimpArgs false
theorem qe0_ {P : Prop} (h : P := by repeat (first | (with_reducible first | exact HB.out | apply below_alloc | apply pw_below_drewN | apply below_drew1 | refine below_set ?_ (IsS_l1Cur.ge HI0.out) | refine below_set ?_ GE1104.out | refine below_set ?_ GE1112.out) | exact HB.out)) : P := h
theorem qe1_ {P : Prop} (h : P := by repeat (first | (with_reducible first | exact HK.out | apply KeepBut.set_ | apply keep_drewN | apply keep_drew | apply keep_alloc | refine keep_far ?_ GW1104.out _ | refine keep_far ?_ GW1112.out _) | exact HK.out)) : P := h
theorem qe2_ {P : Prop} (h : P := by repeat (first | (with_reducible first | exact HB.out | apply below_alloc | apply pw_below_drewN | apply below_drew1 | refine below_set ?_ (IsS_l1Cur.ge HI1151.out) | refine below_set ?_ GE1147.out | refine below_set ?_ GE1159.out) | exact HB.out)) : P := h
theorem qe3_ {P : Prop} (h : P := by repeat (first | (with_reducible first | exact HB.out | apply below_alloc | apply pw_below_drewN | apply below_drew1 | refine below_set ?_ (IsS_l1Cur.ge HI0.out) | refine below_set ?_ GE1061.out | refine below_set ?_ GE1062.out) | exact HB.out)) : P := h
theorem qe4_ {P : Prop} (h : P := by repeat (first | (with_reducible first | exact HK.out | apply KeepBut.set_ | apply keep_drewN | apply keep_drew | apply keep_alloc | refine keep_far ?_ GW1061.out _ | refine keep_far ?_ GW1062.out _) | exact HK.out)) : P := h
theorem qe5_ {P : Prop} (h : P := by repeat (first | (with_reducible first | exact HB.out | apply below_alloc | apply pw_below_drewN | apply below_drew1 | refine below_set ?_ (IsS_l1Cur.ge HI1151.out) | refine below_set ?_ GE1147.out) | exact HB.out)) : P := h
theorem qe6_ {P : Prop} (h : P := by (try simp only [List.map_toArray, List.map_cons, List.map_nil]); first | done | rfl | (simp only [List.length_drop, List.length_take]; rfl)) : P := h
theorem qe7_ {P : Prop} (h : P := by (with_reducible repeat (first | apply Kd.R_alloc | apply Kd.R_drewN | apply Kd.R_drew)); exact HO1162.out) : P := h
theorem qe8_ {P : Prop} (h : P := by (with_reducible repeat (first | apply Kd.R_alloc | apply Kd.R_drewN | apply Kd.R_drew)); exact HO1156.out) : P := h
theorem qe9_ {P : Prop} (h : P := by repeat (first | (with_reducible first | exact HB.out | apply below_alloc | apply pw_below_drewN | apply below_drew1) | exact HB.out)) : P := h
theorem qe10_ {P : Prop} (h : P := by first | rfl | (simp; done) | (simp [*]; done)) : P := h
theorem qeh0_ {P : Prop} (h : P := by repeat' first | (with_reducible exact ih0 _ _ _ _ _ _ _ _) | (with_reducible exact spec_RowPack.mono _ _ _ _ _) | (with_reducible exact spec_RowPut.mono _ _ _ _ _ _ _ _) | (with_reducible exact spec_RowTrim.mono _ _ _ _ _ _) | (with_reducible exact LeO.refl _) | (with_reducible exact LeO.none _) | (with_reducible refine LeO.ite ?_ ?_) | (with_reducible refine LeO.bind ?_ (fun _ => ?_)) | exact ih0 _ _ _ _ _ _ _ _ | exact spec_RowPack.mono _ _ _ _ _ | exact spec_RowPut.mono _ _ _ _ _ _ _ _ | exact spec_RowTrim.mono _ _ _ _ _ _ | exact LeO.none _ | refine LeO.ite ?_ ?_ | refine LeO.bind ?_ (fun _ => ?_)) : P := h
theorem qeh1_ {P : Prop} (h : P := by repeat' first | (with_reducible exact ih0 _ _ _ _ _ _) | (with_reducible exact spec_RowPut.mono _ _ _ _ _ _ _ _) | (with_reducible exact spec_l3DrawRight.mono _ _ _ _) | (with_reducible exact LeO.refl _) | (with_reducible exact LeO.none _) | (with_reducible refine LeO.ite ?_ ?_) | (with_reducible refine LeO.bind ?_ (fun _ => ?_)) | exact ih0 _ _ _ _ _ _ | exact spec_RowPut.mono _ _ _ _ _ _ _ _ | exact spec_l3DrawRight.mono _ _ _ _ | exact LeO.none _ | refine LeO.ite ?_ ?_ | refine LeO.bind ?_ (fun _ => ?_)) : P := h

/-! ### spec_l3DrawRight: function 96 -/
abbrev spec_l3DrawRight.m0 : Array Bool := #[f_,f_,f_,f_,f_,f_,f_,f_,f_,f_,f_,f_,f_,f_]
abbrev spec_l3DrawRight.m1 : Array Bool := #[f_,t_,f_,f_,f_,f_,f_,f_,f_,f_,f_,f_,f_,f_]
abbrev spec_l3DrawRight.m2 : Array Bool := #[f_,t_,f_,t_,f_,f_,f_,f_,f_,f_,f_,f_,f_,f_]
abbrev spec_l3DrawRight.m3 : Array Bool := #[f_,t_,f_,t_,f_,t_,f_,f_,f_,f_,f_,f_,f_,f_]
abbrev spec_l3DrawRight.m4 : Array Bool := #[f_,t_,f_,t_,f_,t_,f_,t_,f_,f_,f_,f_,f_,f_]
abbrev spec_l3DrawRight.m5 : Array Bool := #[t_,t_,f_,t_,f_,t_,f_,t_,f_,f_,f_,f_,f_,f_]
abbrev spec_l3DrawRight.m6 : Array Bool := #[t_,t_,t_,t_,f_,t_,f_,t_,f_,f_,f_,f_,f_,f_]
abbrev spec_l3DrawRight.m7 : Array Bool := #[t_,t_,t_,t_,t_,t_,f_,t_,f_,f_,f_,f_,f_,f_]
abbrev spec_l3DrawRight.m8 : Array Bool := #[t_,t_,t_,t_,t_,t_,t_,t_,f_,f_,f_,f_,f_,f_]
abbrev spec_l3DrawRight.m9 : Array Bool := #[t_,t_,t_,t_,t_,t_,t_,t_,t_,f_,f_,f_,f_,f_]
abbrev spec_l3DrawRight.m10 : Array Bool := #[t_,t_,t_,t_,t_,t_,t_,t_,t_,t_,f_,f_,f_,f_]
abbrev spec_l3DrawRight.m11 : Array Bool := #[t_,t_,t_,t_,t_,t_,t_,t_,t_,t_,t_,f_,f_,f_]
abbrev spec_l3DrawRight.m12 : Array Bool := #[t_,t_,t_,t_,t_,t_,t_,t_,t_,t_,t_,t_,f_,f_]
abbrev spec_l3DrawRight.m13 : Array Bool := #[t_,t_,t_,t_,t_,t_,t_,t_,t_,t_,t_,t_,t_,f_]
abbrev spec_l3DrawRight.m14 : Array Bool := #[t_,t_,t_,t_,t_,t_,t_,t_,t_,t_,t_,t_,t_,t_]
def spec_l3DrawRight.l0 : Nat → Int → Int → List Int → Int → Int → Int → Int → List (S_Item) → Option (Int × Int × (List (S_Item)) × Int × Int)
 | 0, _, _, _, _, _, _, _, _ => none
 | k + 1, x4, x5, x1000, x1001, x1002, x1063000, x1063001, x1063002 => if x5 < x4 then ((spec_l2DrawText.f x1000 x1001 x1002).bind fun bt1066 => ((spec_l2DrawText.f x1000 bt1066.2.1 bt1066.2.2).bind fun bt1069 => ((spec_l1Below.f x1000 bt1069.2.1 bt1069.2.2 4).bind fun bt1072 => ((spec_RowPut.f k x1063000 x1063001 x1063002 bt1066.1 bt1069.1 bt1072.1 x5).bind fun bt1075 => ((spec_l1Below.f x1000 bt1072.2.1 bt1072.2.2 12).bind fun bt1082 => (if bt1082.1 = 0 then ((spec_l1Below.f x1000 bt1082.2.1 bt1082.2.2 3).bind fun bt1085 => ((spec_l1Below.f x1000 bt1085.2.1 bt1085.2.2 4).bind fun bt1088 => ((spec_RowTrim.f k bt1075.1 bt1075.2.1 bt1075.2.2.1 (wrap64 (1 + bt1085.1)) bt1088.1).bind fun bt1091 => (spec_l3DrawRight.l0 k x4 (wrap64 (x5 + 1)) x1000 bt1088.2.1 bt1088.2.2 bt1091.1 bt1091.2.1 bt1091.2.2)))) else (if bt1082.1 = 1 then ((spec_l1Below.f x1000 bt1082.2.1 bt1082.2.2 3).bind fun bt1096 => ((spec_RowPack.f k bt1075.1 bt1075.2.1 bt1075.2.2.1 (wrap64 (1 + bt1096.1))).bind fun bt1099 => (spec_l3DrawRight.l0 k x4 (wrap64 (x5 + 1)) x1000 bt1096.2.1 bt1096.2.2 bt1099.1 bt1099.2.1 bt1099.2.2))) else (spec_l3DrawRight.l0 k x4 (wrap64 (x5 + 1)) x1000 bt1082.2.1 bt1082.2.2 bt1075.1 bt1075.2.1 bt1075.2.2.1)))))))) else (some (x1063000, x1063001, x1063002, x1001, x1002))
def spec_l3DrawRight.f (k : Nat) (s0_0 : List Int) (s0_1 : Int) (s0_2 : Int) : Option (Int × Int × (List (S_Item)) × Int × Int) := (spec_l1Below.f s0_0 s0_1 s0_2 14).bind fun bt1063 => (spec_l3DrawRight.l0 k bt1063.1 0 s0_0 bt1063.2.1 bt1063.2.2 0 0 ([] : List (S_Item)))
theorem spec_l3DrawRight.mono_l : ∀ k, (∀ y0 y1 y2 y3 y4 y5 y6 y7, LeO (spec_l3DrawRight.l0 k y0 y1 y2 y3 y4 y5 y6 y7) (spec_l3DrawRight.l0 (k + 1) y0 y1 y2 y3 y4 y5 y6 y7))
 | 0 => fun _ _ _ _ _ _ _ _ r h => by simp [spec_l3DrawRight.l0] at h
 | k + 1 => by
  have ih0 := spec_l3DrawRight.mono_l k
  ·
   intro y0 y1 y2 y3 y4 y5 y6 y7
   unfold spec_l3DrawRight.l0
   exact qeh0_
theorem spec_l3DrawRight.mono : ∀ a0 a1 a2 k, LeO (spec_l3DrawRight.f k a0 a1 a2) (spec_l3DrawRight.f (k + 1) a0 a1 a2) := by
 intro a0 a1 a2 k
 have ih0 := spec_l3DrawRight.mono_l k
 unfold spec_l3DrawRight.f
 exact qeh0_
def spec_l3DrawRight.T6 : Bool × List (List Nat × List Nat) := (true, [([], []), ([], []), ([1], [1]), ([], []), ([3, 2], [3]), ([], []), ([5, 4], [5]), ([], []), ([0, 2, 4, 6, 7, 6], [0, 2, 4, 6, 7]), ([8], [8]), ([9], [9]), ([9], [9]), ([9], [9]), ([10, 8, 0, 1, 2, 3, 4, 5, 6, 7, 8, 9, 10], [10])])
def spec_l3DrawRight.B6 : List Nat := [0, 0, 2, 0, 14, 0, 62, 0, 255, 511, 1023, 1023, 1023, 2047]
theorem spec_l3DrawRight.tab6 : rtab .any (opsOf Try.f96 6) = spec_l3DrawRight.T6 := by kernel_rfl
theorem spec_l3DrawRight.bits6 : waitsOk spec_l3DrawRight.T6.2 spec_l3DrawRight.B6 = true := by kernel_rfl
def spec_l3DrawRight.T9 : Bool × List (List Nat × List Nat) := (true, [([], []), ([], []), ([1], [1]), ([2], [2]), ([], []), ([4, 2], [4]), ([0, 3, 5, 5], [0, 3, 5]), ([6, 6, 0, 1, 2, 3, 4, 5, 6], [6])])
def spec_l3DrawRight.B9 : List Nat := [0, 0, 2, 6, 0, 22, 63, 127]
theorem spec_l3DrawRight.tab9 : rtab .any (opsOf Try.f96 9) = spec_l3DrawRight.T9 := by kernel_rfl
theorem spec_l3DrawRight.bits9 : waitsOk spec_l3DrawRight.T9.2 spec_l3DrawRight.B9 = true := by kernel_rfl
set_option maxHeartbeats 8000000 in
set_option maxRecDepth 100000 in
theorem spec_l3DrawRight.calls (k : Nat) (g : Nat) (s0_0 : List Int) (s0_1 : Int) (s0_2 : Int) (r1 : Int) (r2 : Int) (r3 : List (S_Item)) (r4 : Int) (r5 : Int) (w0 w : World) (hI : IsS_l1Cur w0 w g s0_0 s0_1 s0_2) (hB : Below w0.heap.size w0 w) (h : spec_l3DrawRight.f k s0_0 s0_1 s0_2 = some (r1, r2, r3, r4, r5)) :
 Calls Try.prog 96 #[.pointer (some ⟨g, 0, none⟩)] w fun e w' => ∃ v2_ : Value, e = .returned (.agg #[.int .i64 r1, .int .i64 r2, v2_]) ∧ Kd.R k_Item 33 w' w.heap.size (fun _ => True) v2_ r3 ∧ IsS_l1Cur w0 w' g s0_0 r4 r5 ∧ Below w0.heap.size w0 w' ∧ KeepBut w w' g none := by
 have hu26 := Try.underlying26
 have HI0 := Aside0.mk hI
 have HK := Aside0.mk (KeepBut.refl w g none)
 have HL := Aside0.mk hB.size
 clear hI
 have HW0 := Aside0.mk hB.size
 have HB := Aside0.mk hB
 clear hB
 have H : ((spec_l1Below.f s0_0 s0_1 s0_2 14).bind fun bt1063 => (spec_l3DrawRight.l0 k bt1063.1 0 s0_0 bt1063.2.1 bt1063.2.2 0 0 ([] : List (S_Item)))) = some (r1, r2, r3, r4, r5) := h
 clear h
 replace H := Option.bind_eq_some_iff.mp H
 obtain ⟨⟨t1063, t1064, t1065⟩, A20, H⟩ := H
 replace H : (spec_l3DrawRight.l0 k t1063 0 s0_0 t1064 t1065 0 0 ([] : List (S_Item))) = some (r1, r2, r3, r4, r5) := H
 have A2 := Aside0.mk A20
 clear A20
 have H' := Aside0.mk H
 clear H
 go_enter Try.func96, Try.ntmps96
 go_wp2_with (first | ((with_reducible refine gate_dst (N := 2) rfl ?_); refine box_event ?hg (N := 2) ?hd (cs := #[.int .i64 0, .int .i64 0, .slice none 0 0]) (t := 26) ?hr ?_; (case hd => rfl); (case hg => rfl); (case hr => first | (go_simp; done) | (go_simp; rfl)); intro gb1061 hg w3 hbox hb; have BK1061 := Aside0.mk (hbox); have GW1061 := Aside0.mk ((by rw [hg]; exact (keep_size (w := w) (g := g) (row := none) (hk_ HK.out)) : w.heap.size ≤ gb1061)); have GE1061 := Aside0.mk ((Nat.le_trans HW0.out (by rw [hg]; exact (keep_size (w := w) (g := g) (row := none) (hk_ HK.out)) : w.heap.size ≤ gb1061) : w0.heap.size ≤ gb1061)); have NB0_1061 := Aside0.mk ((by rw [hg]; exact Nat.ne_of_lt (IsS_l1Cur.lt (show IsS_l1Cur w0 _ g s0_0 s0_1 s0_2 from is_l1Cur_ HI0.out)) : g ≠ gb1061)); have NB1061_0 := Aside0.mk ((by rw [hg]; exact Nat.ne_of_gt (IsS_l1Cur.lt (show IsS_l1Cur w0 _ g s0_0 s0_1 s0_2 from is_l1Cur_ HI0.out)) : gb1061 ≠ g)); replace HI0 := Aside0.mk (IsS_l1Cur.below (is_l1Cur_ HI0.out) hb); replace HK := Aside0.mk (KeepBut.trans (hk_ HK.out) (KeepBut.of_below hb g none) (.inl rfl)); replace HB := Aside0.mk (below_step (hi_ HB.out) hb); clear hb hbox hg) | ((with_reducible refine gate_dst (N := 3) rfl ?_); refine box_event ?hg (N := 3) ?hd (cs := #[.int .i64 0, .int .i64 0, .slice none 0 0]) (t := 26) ?hr ?_; (case hd => rfl); (case hg => rfl); (case hr => first | (go_simp; done) | (go_simp; rfl)); intro gb1062 hg w4 hbox hb; have BK1062 := Aside0.mk (hbox); have GW1062 := Aside0.mk ((by rw [hg]; exact (keep_size (w := w) (g := g) (row := none) (hk_ HK.out)) : w.heap.size ≤ gb1062)); have GE1062 := Aside0.mk ((Nat.le_trans HW0.out (by rw [hg]; exact (keep_size (w := w) (g := g) (row := none) (hk_ HK.out)) : w.heap.size ≤ gb1062) : w0.heap.size ≤ gb1062)); have NB1061_1062 := cn_ BK1061 hg; have NB1062_1061 := cm_ BK1061 hg; have NB0_1062 := Aside0.mk ((by rw [hg]; exact Nat.ne_of_lt (IsS_l1Cur.lt (show IsS_l1Cur w0 _ g s0_0 s0_1 s0_2 from is_l1Cur_ HI0.out)) : g ≠ gb1062)); have NB1062_0 := Aside0.mk ((by rw [hg]; exact Nat.ne_of_gt (IsS_l1Cur.lt (show IsS_l1Cur w0 _ g s0_0 s0_1 s0_2 from is_l1Cur_ HI0.out)) : gb1062 ≠ g)); replace HI0 := Aside0.mk (IsS_l1Cur.below (is_l1Cur_ HI0.out) hb); replace BK1061 := cb_ BK1061 hb; replace HK := Aside0.mk (KeepBut.trans (hk_ HK.out) (KeepBut.of_below hb g none) (.inl rfl)); replace HB := Aside0.mk (below_step (hi_ HB.out) hb); clear hb hbox hg; have hnb5 := NB1062_1061.out; have hnc5 := NB1061_1062.out; have hnb6 := NB1062_0.out; have hnc6 := NB0_1062.out; have hcz7_0 : w4.cell? ⟨gb1062, 0, none⟩ = some (.int .i64 0) := bc_ BK1062 0; have hcz7_1 : w4.cell? ⟨gb1062, 1, none⟩ = some (.int .i64 0) := bc_ BK1062 1; have hcz7_2 : w4.cell? ⟨gb1062, 2, none⟩ = some (.slice none 0 0) := bc_ BK1062 2; have hfz7_0 := blk_frozen BK1062.out 0; have hfz7_1 := blk_frozen BK1062.out 1; have hfz7_2 := blk_frozen BK1062.out 2) | ((with_reducible refine gate_callee (f := 76) rfl ?_); refine goesL_ (some 8) rfl rfl Try.func76 (by kernel_rfl) rfl #[.pointer (some ⟨g, 0, none⟩), .int .i64 14] rfl sm_ ?_; (with_reducible refine (spec_l1Below.calls g s0_0 s0_1 s0_2 14 t1063 t1064 t1065 w0 _ ?side1 ?side2 A2.out).mono ?_); (case side1 => repeat (first | (with_reducible first | exact HI0.out | apply IsS_l1Cur.alloc | apply IsS_l1Cur.drewN | apply IsS_l1Cur.drew | apply IsS_l1Cur.set_1 | apply IsS_l1Cur.set_2 | refine IsS_l1Cur.far ?_ NB0_1061.out _ | refine IsS_l1Cur.far ?_ NB0_1062.out _) | exact HI0.out)); (case side2 => repeat (first | (with_reducible first | exact HB.out | apply below_alloc | apply pw_below_drewN | apply below_drew1 | refine below_set ?_ (IsS_l1Cur.ge HI0.out) | refine below_set ?_ GE1061.out | refine below_set ?_ GE1062.out) | exact HB.out)); rintro e w8 ⟨rfl, hi, hb, hk⟩; refine ⟨_, rfl, ?_⟩; replace BK1061 := Aside0.mk (KeepBut.blk hk (g' := gb1061) (o := .cells #[.int .i64 0, .int .i64 0, .slice none 0 0] 26 (0, 0)) (bf_ NB1061_1062.out BK1061.out) NB1061_0.out (by simp)); replace BK1062 := Aside0.mk (KeepBut.blk hk (g' := gb1062) (o := .cells #[.int .i64 0, .int .i64 0, .slice none 0 0] 26 (0, 0)) (bp_ BK1062.out) NB1062_0.out (by simp)); replace HK := Aside0.mk (KeepBut.trans (hk_ HK.out) hk (.inl rfl)); replace HB := Aside0.mk (hb); replace HI0 := Aside0.mk (hi); (try clear hb); (try clear hb2); (try clear hk); (try clear hi)))
 go_loopg [5] k (fun kq v5 w' => ∃ (x5_1 : Int) (x1001_1 : Int) (x1002_1 : Int) (x1063000_1 : Int) (x1063001_1 : Int) (x1063002_1 : List (S_Item)) (u1063002 : Value), v5 = .int .i64 x5_1 ∧ Aside0 (spec_l3DrawRight.l0 kq t1063 x5_1 s0_0 x1001_1 x1002_1 x1063000_1 x1063001_1 x1063002_1 = some (r1, r2, r3, r4, r5)) ∧ Aside0 (kq ≤ k) ∧ Aside0 (Kd.R k_Item 33 w' w.heap.size (fun _ => True) u1063002 x1063002_1) ∧ Aside0 (w'.heap[gb1061]? = some (.cells #[.int .i64 0, .int .i64 0, (.slice none 0 0)] 26 (0, 0))) ∧ Aside0 (w'.heap[gb1062]? = some (.cells #[.int .i64 x1063000_1, .int .i64 x1063001_1, u1063002] 26 (0, 0))) ∧ Aside0 (IsS_l1Cur w0 w' g s0_0 x1001_1 x1002_1) ∧ Aside0 (KeepBut w w' g none) ∧ Aside0 (Below w0.heap.size w0 w'))
 case atStart => exact ⟨(0), (t1064), (t1065), (0), (0), (([] : List (S_Item))), (.slice none 0 0), (qe10_), H', ⟨Nat.le_refl _⟩, ⟨by first | exact Kd.R_nil _ _ _ _ _ | exact Kd.N_nil _ _ _ _ _ | exact Kd.V_nil _ _ _ _ _ | exact Kd.Q_nil _ _ _ _ _ | exact Kd.S_nil _ _ _ _ _⟩, ⟨bq_ BK1061.out⟩, ⟨bq_ BK1062.out⟩, ⟨is_l1Cur_ HI0.out⟩, ⟨qe4_⟩, ⟨qe3_⟩⟩
 case round =>
  clear H'
  (try clear hcz7_0); (try clear hcz7_1); (try clear hcz7_2); (try clear hfz7_0); (try clear hfz7_1); (try clear hfz7_2)
  obtain ⟨x5_1, x1001_1, x1002_1, x1063000_1, x1063001_1, x1063002_1, u1063002, rfl, HA, HK1, HO_1063002, BK1061, BK1062, HI0, HK, HB⟩ := hrel
  cases gk with
  | zero => exact absurd HA.out (by simp [spec_l3DrawRight.l0])
  | succ k1 =>
   have H := HA.out
   clear HA
   simp only [spec_l3DrawRight.l0] at H
   by_cases c9 : x5_1 < t1063
   ·
    rw [if_pos c9] at H
    have c9b0 : decide (x5_1 < t1063) = true := decide_eq_true c9
    clear c9
    replace H := Option.bind_eq_some_iff.mp H
    obtain ⟨⟨t1066, t1067, t1068⟩, A100, H⟩ := H
    replace H : ((spec_l2DrawText.f s0_0 t1067 t1068).bind fun bt1069 => ((spec_l1Below.f s0_0 bt1069.2.1 bt1069.2.2 4).bind fun bt1072 => ((spec_RowPut.f k1 x1063000_1 x1063001_1 x1063002_1 t1066 bt1069.1 bt1072.1 x5_1).bind fun bt1075 => ((spec_l1Below.f s0_0 bt1072.2.1 bt1072.2.2 12).bind fun bt1082 => (if bt1082.1 = 0 then ((spec_l1Below.f s0_0 bt1082.2.1 bt1082.2.2 3).bind fun bt1085 => ((spec_l1Below.f s0_0 bt1085.2.1 bt1085.2.2 4).bind fun bt1088 => ((spec_RowTrim.f k1 bt1075.1 bt1075.2.1 bt1075.2.2.1 (wrap64 (1 + bt1085.1)) bt1088.1).bind fun bt1091 => (spec_l3DrawRight.l0 k1 t1063 (wrap64 (x5_1 + 1)) s0_0 bt1088.2.1 bt1088.2.2 bt1091.1 bt1091.2.1 bt1091.2.2)))) else (if bt1082.1 = 1 then ((spec_l1Below.f s0_0 bt1082.2.1 bt1082.2.2 3).bind fun bt1096 => ((spec_RowPack.f k1 bt1075.1 bt1075.2.1 bt1075.2.2.1 (wrap64 (1 + bt1096.1))).bind fun bt1099 => (spec_l3DrawRight.l0 k1 t1063 (wrap64 (x5_1 + 1)) s0_0 bt1096.2.1 bt1096.2.2 bt1099.1 bt1099.2.1 bt1099.2.2))) else (spec_l3DrawRight.l0 k1 t1063 (wrap64 (x5_1 + 1)) s0_0 bt1082.2.1 bt1082.2.2 bt1075.1 bt1075.2.1 bt1075.2.2.1))))))) = some (r1, r2, r3, r4, r5) := H
    have A10 := Aside0.mk A100
    clear A100
    replace H := Option.bind_eq_some_iff.mp H
    obtain ⟨⟨t1069, t1070, t1071⟩, A110, H⟩ := H
    replace H : ((spec_l1Below.f s0_0 t1070 t1071 4).bind fun bt1072 => ((spec_RowPut.f k1 x1063000_1 x1063001_1 x1063002_1 t1066 t1069 bt1072.1 x5_1).bind fun bt1075 => ((spec_l1Below.f s0_0 bt1072.2.1 bt1072.2.2 12).bind fun bt1082 => (if bt1082.1 = 0 then ((spec_l1Below.f s0_0 bt1082.2.1 bt1082.2.2 3).bind fun bt1085 => ((spec_l1Below.f s0_0 bt1085.2.1 bt1085.2.2 4).bind fun bt1088 => ((spec_RowTrim.f k1 bt1075.1 bt1075.2.1 bt1075.2.2.1 (wrap64 (1 + bt1085.1)) bt1088.1).bind fun bt1091 => (spec_l3DrawRight.l0 k1 t1063 (wrap64 (x5_1 + 1)) s0_0 bt1088.2.1 bt1088.2.2 bt1091.1 bt1091.2.1 bt1091.2.2)))) else (if bt1082.1 = 1 then ((spec_l1Below.f s0_0 bt1082.2.1 bt1082.2.2 3).bind fun bt1096 => ((spec_RowPack.f k1 bt1075.1 bt1075.2.1 bt1075.2.2.1 (wrap64 (1 + bt1096.1))).bind fun bt1099 => (spec_l3DrawRight.l0 k1 t1063 (wrap64 (x5_1 + 1)) s0_0 bt1096.2.1 bt1096.2.2 bt1099.1 bt1099.2.1 bt1099.2.2))) else (spec_l3DrawRight.l0 k1 t1063 (wrap64 (x5_1 + 1)) s0_0 bt1082.2.1 bt1082.2.2 bt1075.1 bt1075.2.1 bt1075.2.2.1)))))) = some (r1, r2, r3, r4, r5) := H
    have A11 := Aside0.mk A110
    clear A110
    replace H := Option.bind_eq_some_iff.mp H
    obtain ⟨⟨t1072, t1073, t1074⟩, A120, H⟩ := H
    replace H : ((spec_RowPut.f k1 x1063000_1 x1063001_1 x1063002_1 t1066 t1069 t1072 x5_1).bind fun bt1075 => ((spec_l1Below.f s0_0 t1073 t1074 12).bind fun bt1082 => (if bt1082.1 = 0 then ((spec_l1Below.f s0_0 bt1082.2.1 bt1082.2.2 3).bind fun bt1085 => ((spec_l1Below.f s0_0 bt1085.2.1 bt1085.2.2 4).bind fun bt1088 => ((spec_RowTrim.f k1 bt1075.1 bt1075.2.1 bt1075.2.2.1 (wrap64 (1 + bt1085.1)) bt1088.1).bind fun bt1091 => (spec_l3DrawRight.l0 k1 t1063 (wrap64 (x5_1 + 1)) s0_0 bt1088.2.1 bt1088.2.2 bt1091.1 bt1091.2.1 bt1091.2.2)))) else (if bt1082.1 = 1 then ((spec_l1Below.f s0_0 bt1082.2.1 bt1082.2.2 3).bind fun bt1096 => ((spec_RowPack.f k1 bt1075.1 bt1075.2.1 bt1075.2.2.1 (wrap64 (1 + bt1096.1))).bind fun bt1099 => (spec_l3DrawRight.l0 k1 t1063 (wrap64 (x5_1 + 1)) s0_0 bt1096.2.1 bt1096.2.2 bt1099.1 bt1099.2.1 bt1099.2.2))) else (spec_l3DrawRight.l0 k1 t1063 (wrap64 (x5_1 + 1)) s0_0 bt1082.2.1 bt1082.2.2 bt1075.1 bt1075.2.1 bt1075.2.2.1))))) = some (r1, r2, r3, r4, r5) := H
    have A12 := Aside0.mk A120
    clear A120
    replace H := Option.bind_eq_some_iff.mp H
    obtain ⟨⟨t1075, t1076, t1077, t1080, t1081⟩, A130, H⟩ := H
    replace H : ((spec_l1Below.f s0_0 t1073 t1074 12).bind fun bt1082 => (if bt1082.1 = 0 then ((spec_l1Below.f s0_0 bt1082.2.1 bt1082.2.2 3).bind fun bt1085 => ((spec_l1Below.f s0_0 bt1085.2.1 bt1085.2.2 4).bind fun bt1088 => ((spec_RowTrim.f k1 t1075 t1076 t1077 (wrap64 (1 + bt1085.1)) bt1088.1).bind fun bt1091 => (spec_l3DrawRight.l0 k1 t1063 (wrap64 (x5_1 + 1)) s0_0 bt1088.2.1 bt1088.2.2 bt1091.1 bt1091.2.1 bt1091.2.2)))) else (if bt1082.1 = 1 then ((spec_l1Below.f s0_0 bt1082.2.1 bt1082.2.2 3).bind fun bt1096 => ((spec_RowPack.f k1 t1075 t1076 t1077 (wrap64 (1 + bt1096.1))).bind fun bt1099 => (spec_l3DrawRight.l0 k1 t1063 (wrap64 (x5_1 + 1)) s0_0 bt1096.2.1 bt1096.2.2 bt1099.1 bt1099.2.1 bt1099.2.2))) else (spec_l3DrawRight.l0 k1 t1063 (wrap64 (x5_1 + 1)) s0_0 bt1082.2.1 bt1082.2.2 t1075 t1076 t1077)))) = some (r1, r2, r3, r4, r5) := H
    have A13 := Aside0.mk A130
    clear A130
    replace H := Option.bind_eq_some_iff.mp H
    obtain ⟨⟨t1082, t1083, t1084⟩, A140, H⟩ := H
    replace H : (if t1082 = 0 then ((spec_l1Below.f s0_0 t1083 t1084 3).bind fun bt1085 => ((spec_l1Below.f s0_0 bt1085.2.1 bt1085.2.2 4).bind fun bt1088 => ((spec_RowTrim.f k1 t1075 t1076 t1077 (wrap64 (1 + bt1085.1)) bt1088.1).bind fun bt1091 => (spec_l3DrawRight.l0 k1 t1063 (wrap64 (x5_1 + 1)) s0_0 bt1088.2.1 bt1088.2.2 bt1091.1 bt1091.2.1 bt1091.2.2)))) else (if t1082 = 1 then ((spec_l1Below.f s0_0 t1083 t1084 3).bind fun bt1096 => ((spec_RowPack.f k1 t1075 t1076 t1077 (wrap64 (1 + bt1096.1))).bind fun bt1099 => (spec_l3DrawRight.l0 k1 t1063 (wrap64 (x5_1 + 1)) s0_0 bt1096.2.1 bt1096.2.2 bt1099.1 bt1099.2.1 bt1099.2.2))) else (spec_l3DrawRight.l0 k1 t1063 (wrap64 (x5_1 + 1)) s0_0 t1083 t1084 t1075 t1076 t1077))) = some (r1, r2, r3, r4, r5) := H
    have A14 := Aside0.mk A140
    clear A140
    by_cases c15 : t1082 = 0
    ·
     rw [if_pos c15] at H
     have c15b0 : (t1082 == 0) = true := beq_iff_eq.mpr c15
     have c15b1 : (t1082 != 0) = false := bne_eq_false_iff_eq.mpr c15
     clear c15
     replace H := Option.bind_eq_some_iff.mp H
     obtain ⟨⟨t1085, t1086, t1087⟩, A160, H⟩ := H
     replace H : ((spec_l1Below.f s0_0 t1086 t1087 4).bind fun bt1088 => ((spec_RowTrim.f k1 t1075 t1076 t1077 (wrap64 (1 + t1085)) bt1088.1).bind fun bt1091 => (spec_l3DrawRight.l0 k1 t1063 (wrap64 (x5_1 + 1)) s0_0 bt1088.2.1 bt1088.2.2 bt1091.1 bt1091.2.1 bt1091.2.2))) = some (r1, r2, r3, r4, r5) := H
     have A16 := Aside0.mk A160
     clear A160
     replace H := Option.bind_eq_some_iff.mp H
     obtain ⟨⟨t1088, t1089, t1090⟩, A170, H⟩ := H
     replace H : ((spec_RowTrim.f k1 t1075 t1076 t1077 (wrap64 (1 + t1085)) t1088).bind fun bt1091 => (spec_l3DrawRight.l0 k1 t1063 (wrap64 (x5_1 + 1)) s0_0 t1089 t1090 bt1091.1 bt1091.2.1 bt1091.2.2)) = some (r1, r2, r3, r4, r5) := H
     have A17 := Aside0.mk A170
     clear A170
     replace H := Option.bind_eq_some_iff.mp H
     obtain ⟨⟨t1091, t1092, t1093⟩, A180, H⟩ := H
     replace H : (spec_l3DrawRight.l0 k1 t1063 (wrap64 (x5_1 + 1)) s0_0 t1089 t1090 t1091 t1092 t1093) = some (r1, r2, r3, r4, r5) := H
     have A18 := Aside0.mk A180
     clear A180
     have H' := Aside0.mk H
     clear H
     try go_wp2
     replace HO_1063002 := Aside0.mk (Kd.R_drew HO_1063002.out)
     replace BK1061 := Aside0.mk (blk_drew BK1061.out)
     replace BK1062 := Aside0.mk (blk_drew BK1062.out)
     replace HI0 := Aside0.mk (IsS_l1Cur.drew HI0.out)
     replace HK := Aside0.mk (keep_drew HK.out)
     replace HB := Aside0.mk (below_drew1 HB.out)
     refine start_ (n := 14) (S := fun w' => w'.cell? ⟨gb1062, 0, none⟩ = some (.int .i64 x1063000_1) ∧ w'.cell? ⟨gb1062, 1, none⟩ = some (.int .i64 x1063001_1) ∧ w'.cell? ⟨gb1062, 2, none⟩ = some (u1063002)) (ds := [13]) spec_l3DrawRight.m0 (by kernel_rfl) rfl rfl ⟨bc_ BK1062 0, bc_ BK1062 1, bc_ BK1062 2⟩ (fun hHeld => ?_); refine with_tabW spec_l3DrawRight.tab6 spec_l3DrawRight.bits6 (fun HT_ HW_ => ?_)
     generalize wr.drew = w19 at HO_1063002 BK1061 BK1062 HI0 HK HB hHeld ⊢
     refine pI_ 1 16 HT_ spec_l3DrawRight.m1 rfl rfl ?_
     refine pI_ 3 18 HT_ spec_l3DrawRight.m2 rfl rfl ?_
     refine pI_ 5 20 HT_ spec_l3DrawRight.m3 rfl rfl ?_
     refine pI_ 7 22 HT_ spec_l3DrawRight.m4 rfl rfl ?_
     refine tk_ 0 15 HT_ HW_ spec_l3DrawRight.m5 rfl rfl hHeld ?_
     refine on_ 2 17 HT_ spec_l3DrawRight.m6 rfl rfl (fun K hK => ?_)
     refine goes_ Try.func111 (by kernel_rfl) rfl #[.pointer (some ⟨g, 0, none⟩)] (by rfl) rfl rfl sm_ ?_
     with_reducible refine (spec_l2DrawText.calls g s0_0 x1001_1 x1002_1 t1066 t1067 t1068 w0 _ ?side1 ?side2 A10.out).mono ?_
     (case side1 => repeat (first | (with_reducible first | exact HI0.out | apply IsS_l1Cur.alloc | apply IsS_l1Cur.drewN | apply IsS_l1Cur.drew | apply IsS_l1Cur.set_1 | apply IsS_l1Cur.set_2 | refine IsS_l1Cur.far ?_ NB0_1061.out _ | refine IsS_l1Cur.far ?_ NB0_1062.out _) | exact HI0.out))
     (case side2 => repeat (first | (with_reducible first | exact HB.out | apply below_alloc | apply pw_below_drewN | apply below_drew1 | refine below_set ?_ (IsS_l1Cur.ge HI0.out) | refine below_set ?_ GE1061.out | refine below_set ?_ GE1062.out) | exact HB.out))
     rintro e w20 ⟨rfl, hi, hb, hk⟩
     refine ⟨_, rfl, ?_⟩
     replace HO_1063002 := Aside0.mk (Kd.R_mono (Kd.R_keep (IsS_l1Cur.apart (show IsS_l1Cur w0 _ g s0_0 x1001_1 x1002_1 from is_l1Cur_ HI0.out) (rq_ HO_1063002.out) (by decide)) hk (fun _ h => h.2)) (fun _ h => h.1))
     replace BK1061 := Aside0.mk (KeepBut.blk hk (g' := gb1061) (o := .cells #[.int .i64 0, .int .i64 0, .slice none 0 0] 26 (0, 0)) (bq_ BK1061.out) NB1061_0.out (by simp))
     replace BK1062 := Aside0.mk (KeepBut.blk hk (g' := gb1062) (o := .cells #[.int .i64 x1063000_1, .int .i64 x1063001_1, u1063002] 26 (0, 0)) (bq_ BK1062.out) NB1062_0.out (by simp))
     replace HK := Aside0.mk (KeepBut.trans (hk_ HK.out) hk (.inl rfl))
     replace HB := Aside0.mk (hb)
     replace HI0 := Aside0.mk (hi)
     (try clear hb); (try clear hb2); (try clear hk); (try clear hi)
     refine hK.out _ _ ⟨bc_ BK1062 0, bc_ BK1062 1, bc_ BK1062 2⟩ (fun hHeld => ?_)
     clear hK K
     refine nm_ ?_
     refine on_ 4 19 HT_ spec_l3DrawRight.m7 rfl rfl (fun K hK => ?_)
     refine goes_ Try.func111 (by kernel_rfl) rfl #[.pointer (some ⟨g, 0, none⟩)] (by rfl) rfl rfl sm_ ?_
     with_reducible refine (spec_l2DrawText.calls g s0_0 t1067 t1068 t1069 t1070 t1071 w0 _ ?side1 ?side2 A11.out).mono ?_
     (case side1 => repeat (first | (with_reducible first | exact HI0.out | apply IsS_l1Cur.alloc | apply IsS_l1Cur.drewN | apply IsS_l1Cur.drew | apply IsS_l1Cur.set_1 | apply IsS_l1Cur.set_2 | refine IsS_l1Cur.far ?_ NB0_1061.out _ | refine IsS_l1Cur.far ?_ NB0_1062.out _) | exact HI0.out))
     (case side2 => repeat (first | (with_reducible first | exact HB.out | apply below_alloc | apply pw_below_drewN | apply below_drew1 | refine below_set ?_ (IsS_l1Cur.ge HI0.out) | refine below_set ?_ GE1061.out | refine below_set ?_ GE1062.out) | exact HB.out))
     rintro e w21 ⟨rfl, hi, hb, hk⟩
     refine ⟨_, rfl, ?_⟩
     replace HO_1063002 := Aside0.mk (Kd.R_mono (Kd.R_keep (IsS_l1Cur.apart (show IsS_l1Cur w0 _ g s0_0 t1067 t1068 from is_l1Cur_ HI0.out) (rq_ HO_1063002.out) (by decide)) hk (fun _ h => h.2)) (fun _ h => h.1))
     replace BK1061 := Aside0.mk (KeepBut.blk hk (g' := gb1061) (o := .cells #[.int .i64 0, .int .i64 0, .slice none 0 0] 26 (0, 0)) (bq_ BK1061.out) NB1061_0.out (by simp))
     replace BK1062 := Aside0.mk (KeepBut.blk hk (g' := gb1062) (o := .cells #[.int .i64 x1063000_1, .int .i64 x1063001_1, u1063002] 26 (0, 0)) (bq_ BK1062.out) NB1062_0.out (by simp))
     replace HK := Aside0.mk (KeepBut.trans (hk_ HK.out) hk (.inl rfl))
     replace HB := Aside0.mk (hb)
     replace HI0 := Aside0.mk (hi)
     (try clear hb); (try clear hk); (try clear hi)
     refine hK.out _ _ ⟨bc_ BK1062 0, bc_ BK1062 1, bc_ BK1062 2⟩ (fun hHeld => ?_)
     clear hK K
     refine nm_ ?_
     refine on_ 6 21 HT_ spec_l3DrawRight.m8 rfl rfl (fun K hK => ?_)
     refine goes_ Try.func76 (by kernel_rfl) rfl #[.pointer (some ⟨g, 0, none⟩), .int .i64 4] (by rfl) rfl rfl sm_ ?_
     with_reducible refine (spec_l1Below.calls g s0_0 t1070 t1071 4 t1072 t1073 t1074 w0 _ ?side1 ?side2 A12.out).mono ?_
     (case side1 => repeat (first | (with_reducible first | exact HI0.out | apply IsS_l1Cur.alloc | apply IsS_l1Cur.drewN | apply IsS_l1Cur.drew | apply IsS_l1Cur.set_1 | apply IsS_l1Cur.set_2 | refine IsS_l1Cur.far ?_ NB0_1061.out _ | refine IsS_l1Cur.far ?_ NB0_1062.out _) | exact HI0.out))
     (case side2 => repeat (first | (with_reducible first | exact HB.out | apply below_alloc | apply pw_below_drewN | apply below_drew1 | refine below_set ?_ (IsS_l1Cur.ge HI0.out) | refine below_set ?_ GE1061.out | refine below_set ?_ GE1062.out) | exact HB.out))
     rintro e w22 ⟨rfl, hi, hb, hk⟩
     refine ⟨_, rfl, ?_⟩
     replace HO_1063002 := Aside0.mk (Kd.R_mono (Kd.R_keep (IsS_l1Cur.apart (show IsS_l1Cur w0 _ g s0_0 t1070 t1071 from is_l1Cur_ HI0.out) (rq_ HO_1063002.out) (by decide)) hk (fun _ h => h.2)) (fun _ h => h.1))
     replace BK1061 := Aside0.mk (KeepBut.blk hk (g' := gb1061) (o := .cells #[.int .i64 0, .int .i64 0, .slice none 0 0] 26 (0, 0)) (bq_ BK1061.out) NB1061_0.out (by simp))
     replace BK1062 := Aside0.mk (KeepBut.blk hk (g' := gb1062) (o := .cells #[.int .i64 x1063000_1, .int .i64 x1063001_1, u1063002] 26 (0, 0)) (bq_ BK1062.out) NB1062_0.out (by simp))
     replace HK := Aside0.mk (KeepBut.trans (hk_ HK.out) hk (.inl rfl))
     replace HB := Aside0.mk (hb)
     replace HI0 := Aside0.mk (hi)
     (try clear hb); (try clear hk); (try clear hi)
     obtain ⟨Ao23, co23, eo23⟩ := Kd.R_slice HO_1063002.out
     (first | subst eo23 | (injection eo23 with f1_ f2_ f3_; have f4_ := f1_.symm; have f5_ := f3_.symm; clear f1_ f2_ f3_; subst f4_; subst f5_))
     refine hK.out _ _ ⟨bc_ BK1062 0, bc_ BK1062 1, bc_ BK1062 2⟩ (fun hHeld => ?_)
     clear hK K
     refine nm_ ?_
     refine on_ 8 23 HT_ spec_l3DrawRight.m9 rfl rfl (fun K hK => ?_)
     refine goes_ Try.func98 (by kernel_rfl) rfl #[.agg #[.int .i64 x1063000_1, .int .i64 x1063001_1, .slice Ao23 x1063002_1.length co23], .string t1066, .string t1069, .int .i64 t1072, .int .i64 x5_1] (by rfl) rfl rfl sm_ ?_
     with_reducible refine (spec_RowPut.calls k1 x1063000_1 x1063001_1 _ _ x1063002_1 t1066 t1069 t1072 x5_1 t1075 t1076 t1077 t1080 t1081 _ ?side1 ?side2 A13.out).mono ?_
     (case side1 => repeat (first | exact (Kd.R_reads' HO_1063002.out).2.2 | (with_reducible refine Kd.C_alloc ?_ _) | (with_reducible refine Kd.C_drewN ?_ _) | (with_reducible refine Kd.C_drew ?_)))
     (case side2 => exact (Kd.R_reads' HO_1063002.out).2.1)
     rintro e w24 ⟨v1078, rfl, ho0, hb⟩
     refine ⟨_, rfl, ?_⟩
     have HO1079 := Aside0.mk (Kd.R_lower (Kd.R_new' ho0 (Kd.R_lt (rq_ HO_1063002.out))) (keep_size (w := w) (g := g) (row := none) (hk_ HK.out)))
     replace HO_1063002 := Aside0.mk (Kd.R_elder' (rq_ HO_1063002.out) (Kd.R_base ho0) hb)
     replace BK1061 := cb_ BK1061 hb
     replace BK1062 := cb_ BK1062 hb
     replace HI0 := Aside0.mk (IsS_l1Cur.below (is_l1Cur_ HI0.out) hb)
     replace HK := Aside0.mk (KeepBut.trans (hk_ HK.out) (KeepBut.of_below hb g none) (.inl rfl))
     replace HB := Aside0.mk (below_step (hi_ HB.out) hb)
     (try clear hb); (try clear ho0)
     obtain ⟨Ao27, co27, eo27⟩ := Kd.R_slice HO1079.out
     (first | subst eo27 | (injection eo27 with f1_ f2_ f3_; have f4_ := f1_.symm; have f5_ := f3_.symm; clear f1_ f2_ f3_; subst f4_; subst f5_))
     refine hK.out _ _ ⟨bc_ BK1062 0, bc_ BK1062 1, bc_ BK1062 2⟩ (fun hHeld => ?_)
     clear hK K
     refine nm_ ?_
     refine pI_ 9 14 HT_ spec_l3DrawRight.m10 rfl rfl ?_
     refine pI_ 10 24 HT_ spec_l3DrawRight.m11 rfl rfl ?_
     refine pI_ 11 25 HT_ spec_l3DrawRight.m12 rfl rfl ?_
     refine pI_ 12 26 HT_ spec_l3DrawRight.m13 rfl rfl ?_
     refine last_ (i := 13) (N := none) spec_l3DrawRight.m14 rfl rfl (one_of HT_.out (by kernel_rfl)) (by decide) (fun K hK => ?_)
     have hs25 : w24.cell? ⟨gb1062, 0, none⟩ = some (.int .i64 x1063000_1) := bc_ BK1062 0
     have hfs25 := blk_frozen BK1062.out 0
     have hns25_0 := NB1061_1062.out
     have hms25_0 := NB1062_1061.out
     have hs26 : w24.cell? ⟨gb1062, 1, none⟩ = some (.int .i64 x1063001_1) := bc_ BK1062 1
     have hfs26 := blk_frozen BK1062.out 1
     have hns26_0 := NB1061_1062.out
     have hms26_0 := NB1062_1061.out
     have hs28 : w24.cell? ⟨gb1062, 2, none⟩ = some (.slice Ao23 x1063002_1.length co23) := bc_ BK1062 2
     have hfs28 := blk_frozen BK1062.out 2
     have hns28_0 := NB1061_1062.out
     have hms28_0 := NB1062_1061.out
     refine skip_ (w1 := ?_) (by rfl) rfl ?_ ?_
     rotate_left; (focus go_simp; rfl)
     refine hK.out _ _ ?_
     clear hK K
     refine done_ (done_of HT_.out (by kernel_rfl)) ?_
     try go_wp2_with (first | ((with_reducible refine gate_callee (f := 76) rfl ?_); refine goesL_ (some 28) rfl rfl Try.func76 (by kernel_rfl) rfl #[.pointer (some ⟨g, 0, none⟩), .int .i64 12] rfl sm_ ?_; (with_reducible refine (spec_l1Below.calls g s0_0 t1073 t1074 12 t1082 t1083 t1084 w0 _ ?side1 ?side2 A14.out).mono ?_); (case side1 => repeat (first | (with_reducible first | exact HI0.out | apply IsS_l1Cur.alloc | apply IsS_l1Cur.drewN | apply IsS_l1Cur.drew | apply IsS_l1Cur.set_1 | apply IsS_l1Cur.set_2 | refine IsS_l1Cur.far ?_ NB0_1061.out _ | refine IsS_l1Cur.far ?_ NB0_1062.out _) | exact HI0.out)); (case side2 => repeat (first | (with_reducible first | exact HB.out | apply below_alloc | apply pw_below_drewN | apply below_drew1 | refine below_set ?_ (IsS_l1Cur.ge HI0.out) | refine below_set ?_ GE1061.out | refine below_set ?_ GE1062.out) | exact HB.out)); rintro e w29 ⟨rfl, hi, hb, hk⟩; refine ⟨_, rfl, ?_⟩; replace HO_1063002 := Aside0.mk (Kd.R_mono (Kd.R_keep (IsS_l1Cur.apart (show IsS_l1Cur w0 _ g s0_0 t1073 t1074 from is_l1Cur_ HI0.out) (rk_ HO_1063002.out BK1062.out) (by decide)) hk (fun _ h => h.2)) (fun _ h => h.1)); replace BK1061 := Aside0.mk (KeepBut.blk hk (g' := gb1061) (o := .cells #[.int .i64 0, .int .i64 0, .slice none 0 0] 26 (0, 0)) (bf_ NB1061_1062.out BK1061.out) NB1061_0.out (by simp)); replace HO1079 := Aside0.mk (Kd.R_mono (Kd.R_keep (IsS_l1Cur.apart (show IsS_l1Cur w0 _ g s0_0 t1073 t1074 from is_l1Cur_ HI0.out) (rk_ HO1079.out BK1062.out) (by decide)) hk (fun _ h => h.2)) (fun _ h => h.1)); replace BK1062 := Aside0.mk (KeepBut.blk hk (g' := gb1062) (o := .cells #[.int .i64 t1075, .int .i64 t1076, .slice Ao27 t1077.length co27] 26 (0, 0)) (bp_ BK1062.out) NB1062_0.out (by simp)); replace HK := Aside0.mk (KeepBut.trans (hk_ HK.out) hk (.inl rfl)); replace HB := Aside0.mk (hb); replace HI0 := Aside0.mk (hi); (try clear hb); (try clear hb2); (try clear hk); (try clear hi)))
     replace HO_1063002 := Aside0.mk (Kd.R_drew HO_1063002.out)
     replace HO1079 := Aside0.mk (Kd.R_drew HO1079.out)
     replace BK1061 := Aside0.mk (blk_drew BK1061.out)
     replace BK1062 := Aside0.mk (blk_drew BK1062.out)
     replace HI0 := Aside0.mk (IsS_l1Cur.drew HI0.out)
     replace HK := Aside0.mk (keep_drew HK.out)
     replace HB := Aside0.mk (below_drew1 HB.out)
     refine start_ (n := 8) (S := fun w' => w'.cell? ⟨gb1062, 0, none⟩ = some (.int .i64 t1075) ∧ w'.cell? ⟨gb1062, 1, none⟩ = some (.int .i64 t1076) ∧ w'.cell? ⟨gb1062, 2, none⟩ = some (.slice Ao27 t1077.length co27)) (ds := [7]) #[false, false, false, false, false, false, false, false] (by kernel_rfl) rfl rfl ⟨bc_ BK1062 0, bc_ BK1062 1, bc_ BK1062 2⟩ (fun hHeld => ?_); refine with_tabW spec_l3DrawRight.tab9 spec_l3DrawRight.bits9 (fun HT_ HW_ => ?_)
     generalize w29.drew = w30 at HO_1063002 HO1079 BK1061 BK1062 HI0 HK HB hHeld ⊢
     refine pI_ 1 32 HT_ #[false, true, false, false, false, false, false, false] rfl rfl ?_
     refine pI_ 4 35 HT_ #[false, true, false, false, true, false, false, false] rfl rfl ?_
     refine tk_ 0 31 HT_ HW_ #[true, true, false, false, true, false, false, false] rfl rfl hHeld ?_
     refine on_ 2 33 HT_ #[true, true, true, false, true, false, false, false] rfl rfl (fun K hK => ?_)
     refine goes_ Try.func76 (by kernel_rfl) rfl #[.pointer (some ⟨g, 0, none⟩), .int .i64 3] (by rfl) rfl rfl sm_ ?_
     with_reducible refine (spec_l1Below.calls g s0_0 t1083 t1084 3 t1085 t1086 t1087 w0 _ ?side1 ?side2 A16.out).mono ?_
     (case side1 => repeat (first | (with_reducible first | exact HI0.out | apply IsS_l1Cur.alloc | apply IsS_l1Cur.drewN | apply IsS_l1Cur.drew | apply IsS_l1Cur.set_1 | apply IsS_l1Cur.set_2 | refine IsS_l1Cur.far ?_ NB0_1061.out _ | refine IsS_l1Cur.far ?_ NB0_1062.out _) | exact HI0.out))
     (case side2 => repeat (first | (with_reducible first | exact HB.out | apply below_alloc | apply pw_below_drewN | apply below_drew1 | refine below_set ?_ (IsS_l1Cur.ge HI0.out) | refine below_set ?_ GE1061.out | refine below_set ?_ GE1062.out) | exact HB.out))
     rintro e w31 ⟨rfl, hi, hb, hk⟩
     refine ⟨_, rfl, ?_⟩
     replace HO_1063002 := Aside0.mk (Kd.R_mono (Kd.R_keep (IsS_l1Cur.apart (show IsS_l1Cur w0 _ g s0_0 t1083 t1084 from is_l1Cur_ HI0.out) (rq_ HO_1063002.out) (by decide)) hk (fun _ h => h.2)) (fun _ h => h.1))
     replace BK1061 := Aside0.mk (KeepBut.blk hk (g' := gb1061) (o := .cells #[.int .i64 0, .int .i64 0, .slice none 0 0] 26 (0, 0)) (bq_ BK1061.out) NB1061_0.out (by simp))
     replace BK1062 := Aside0.mk (KeepBut.blk hk (g' := gb1062) (o := .cells #[.int .i64 t1075, .int .i64 t1076, .slice Ao27 t1077.length co27] 26 (0, 0)) (bq_ BK1062.out) NB1062_0.out (by simp))
     replace HO1079 := Aside0.mk (Kd.R_mono (Kd.R_keep (IsS_l1Cur.apart (show IsS_l1Cur w0 _ g s0_0 t1083 t1084 from is_l1Cur_ HI0.out) (rq_ HO1079.out) (by decide)) hk (fun _ h => h.2)) (fun _ h => h.1))
     replace HK := Aside0.mk (KeepBut.trans (hk_ HK.out) hk (.inl rfl))
     replace HB := Aside0.mk (hb)
     replace HI0 := Aside0.mk (hi)
     (try clear hb); (try clear hb2); (try clear hk); (try clear hi)
     refine hK.out _ _ ⟨bc_ BK1062 0, bc_ BK1062 1, bc_ BK1062 2⟩ (fun hHeld => ?_)
     clear hK K
     refine nm_ ?_
     refine pI_ 3 34 HT_ #[true, true, true, true, true, false, false, false] rfl rfl ?_
     refine on_ 5 36 HT_ #[true, true, true, true, true, true, false, false] rfl rfl (fun K hK => ?_)
     refine goes_ Try.func76 (by kernel_rfl) rfl #[.pointer (some ⟨g, 0, none⟩), .int .i64 4] (by rfl) rfl rfl sm_ ?_
     with_reducible refine (spec_l1Below.calls g s0_0 t1086 t1087 4 t1088 t1089 t1090 w0 _ ?side1 ?side2 A17.out).mono ?_
     (case side1 => repeat (first | (with_reducible first | exact HI0.out | apply IsS_l1Cur.alloc | apply IsS_l1Cur.drewN | apply IsS_l1Cur.drew | apply IsS_l1Cur.set_1 | apply IsS_l1Cur.set_2 | refine IsS_l1Cur.far ?_ NB0_1061.out _ | refine IsS_l1Cur.far ?_ NB0_1062.out _) | exact HI0.out))
     (case side2 => repeat (first | (with_reducible first | exact HB.out | apply below_alloc | apply pw_below_drewN | apply below_drew1 | refine below_set ?_ (IsS_l1Cur.ge HI0.out) | refine below_set ?_ GE1061.out | refine below_set ?_ GE1062.out) | exact HB.out))
     rintro e w32 ⟨rfl, hi, hb, hk⟩
     refine ⟨_, rfl, ?_⟩
     replace HO_1063002 := Aside0.mk (Kd.R_mono (Kd.R_keep (IsS_l1Cur.apart (show IsS_l1Cur w0 _ g s0_0 t1086 t1087 from is_l1Cur_ HI0.out) (rq_ HO_1063002.out) (by decide)) hk (fun _ h => h.2)) (fun _ h => h.1))
     replace BK1061 := Aside0.mk (KeepBut.blk hk (g' := gb1061) (o := .cells #[.int .i64 0, .int .i64 0, .slice none 0 0] 26 (0, 0)) (bq_ BK1061.out) NB1061_0.out (by simp))
     replace BK1062 := Aside0.mk (KeepBut.blk hk (g' := gb1062) (o := .cells #[.int .i64 t1075, .int .i64 t1076, .slice Ao27 t1077.length co27] 26 (0, 0)) (bq_ BK1062.out) NB1062_0.out (by simp))
     replace HO1079 := Aside0.mk (Kd.R_mono (Kd.R_keep (IsS_l1Cur.apart (show IsS_l1Cur w0 _ g s0_0 t1086 t1087 from is_l1Cur_ HI0.out) (rq_ HO1079.out) (by decide)) hk (fun _ h => h.2)) (fun _ h => h.1))
     replace HK := Aside0.mk (KeepBut.trans (hk_ HK.out) hk (.inl rfl))
     replace HB := Aside0.mk (hb)
     replace HI0 := Aside0.mk (hi)
     (try clear hb); (try clear hk); (try clear hi)
     refine hK.out _ _ ⟨bc_ BK1062 0, bc_ BK1062 1, bc_ BK1062 2⟩ (fun hHeld => ?_)
     clear hK K
     refine nm_ ?_
     refine on_ 6 37 HT_ #[true, true, true, true, true, true, true, false] rfl rfl (fun K hK => ?_)
     refine goes_ Try.func13 (by kernel_rfl) rfl #[.agg #[.int .i64 t1075, .int .i64 t1076, .slice Ao27 t1077.length co27], .int .i64 (wrap64 (1 + t1085)), .int .i64 t1088] (by rfl) rfl rfl sm_ ?_
     with_reducible refine (spec_RowTrim.calls k1 t1075 t1076 _ _ t1077 (wrap64 (1 + t1085)) t1088 t1091 t1092 t1093 _ ?side1 ?side2 A18.out).mono ?_
     (case side1 => repeat (first | exact (Kd.R_reads' HO1079.out).2.2 | (with_reducible refine Kd.C_alloc ?_ _) | (with_reducible refine Kd.C_drewN ?_ _) | (with_reducible refine Kd.C_drew ?_)))
     (case side2 => exact (Kd.R_reads' HO1079.out).2.1)
     rintro e w33 ⟨v1094, rfl, ho0, hb⟩
     refine ⟨_, rfl, ?_⟩
     have HO1095 := Aside0.mk (Kd.R_lower (Kd.R_new' (Kd.R_new' ho0 (Kd.R_lt (rq_ HO_1063002.out))) (Kd.R_lt (rq_ HO1079.out))) (keep_size (w := w) (g := g) (row := none) (hk_ HK.out)))
     replace HO_1063002 := Aside0.mk (Kd.R_elder' (rq_ HO_1063002.out) (Kd.R_base ho0) hb)
     replace HO1079 := Aside0.mk (Kd.R_elder' (rq_ HO1079.out) (Kd.R_base ho0) hb)
     replace BK1061 := cb_ BK1061 hb
     replace BK1062 := cb_ BK1062 hb
     replace HI0 := Aside0.mk (IsS_l1Cur.below (is_l1Cur_ HI0.out) hb)
     replace HK := Aside0.mk (KeepBut.trans (hk_ HK.out) (KeepBut.of_below hb g none) (.inl rfl))
     replace HB := Aside0.mk (below_step (hi_ HB.out) hb)
     (try clear hb); (try clear ho0)
     obtain ⟨Ao36, co36, eo36⟩ := Kd.R_slice HO1095.out
     (first | subst eo36 | (injection eo36 with f1_ f2_ f3_; have f4_ := f1_.symm; have f5_ := f3_.symm; clear f1_ f2_ f3_; subst f4_; subst f5_))
     refine hK.out _ _ ⟨bc_ BK1062 0, bc_ BK1062 1, bc_ BK1062 2⟩ (fun hHeld => ?_)
     clear hK K
     refine nm_ ?_
     refine last_ (i := 7) (N := none) #[true, true, true, true, true, true, true, true] rfl rfl (one_of HT_.out (by kernel_rfl)) (by decide) (fun K hK => ?_)
     have hs34 : w33.cell? ⟨gb1062, 0, none⟩ = some (.int .i64 t1075) := bc_ BK1062 0
     have hfs34 := blk_frozen BK1062.out 0
     have hns34_0 := NB1061_1062.out
     have hms34_0 := NB1062_1061.out
     have hs35 : w33.cell? ⟨gb1062, 1, none⟩ = some (.int .i64 t1076) := bc_ BK1062 1
     have hfs35 := blk_frozen BK1062.out 1
     have hns35_0 := NB1061_1062.out
     have hms35_0 := NB1062_1061.out
     have hs37 : w33.cell? ⟨gb1062, 2, none⟩ = some (.slice Ao27 t1077.length co27) := bc_ BK1062 2
     have hfs37 := blk_frozen BK1062.out 2
     have hns37_0 := NB1061_1062.out
     have hms37_0 := NB1062_1061.out
     refine skip_ (w1 := ?_) (by rfl) rfl ?_ ?_
     rotate_left; (focus go_simp; rfl)
     refine hK.out _ _ ?_
     clear hK K
     refine done_ (done_of HT_.out (by kernel_rfl)) ?_
     try go_wp2
     go_roundg k1
     case measure => have := HK1.out; omega
     case rel => exact ⟨(wrap64 (x5_1 + 1)), (t1089), (t1090), (t1091), (t1092), (t1093), (.slice Ao36 t1093.length co36), (qe10_), H', ⟨by have := HK1.out; omega⟩, ⟨by (with_reducible repeat (first | apply Kd.R_alloc | apply Kd.R_drewN | apply Kd.R_drew)); exact Kd.R_mono (Kd.R_far (p := ⟨gb1062, 2, none⟩) (Kd.R_far (p := ⟨gb1062, 1, none⟩) (Kd.R_far (p := ⟨gb1062, 0, none⟩) (Kd.R_types HO1095.out BK1062.out (by decide)) (fun _ hk => hk.2) (.int .i64 t1091)) (fun _ hk => hk.2) (.int .i64 t1092)) (fun _ hk => hk.2) (.slice Ao36 t1093.length co36)) (fun _ hk => trivial)⟩, ⟨bf_ NB1061_1062.out BK1061.out⟩, ⟨bp_ BK1062.out⟩, ⟨is_l1Cur_ HI0.out⟩, ⟨qe4_⟩, ⟨qe3_⟩⟩
    ·
     rw [if_neg c15] at H
     have c15b0 : (t1082 == 0) = false := beq_eq_false_iff_ne.mpr c15
     have c15b1 : (t1082 != 0) = true := bne_iff_ne.mpr c15
     by_cases c38 : t1082 = 1
     ·
      rw [if_pos c38] at H
      have c38b0 : (t1082 == 1) = true := beq_iff_eq.mpr c38
      have c38b1 : (t1082 != 1) = false := bne_eq_false_iff_eq.mpr c38
      clear c38
      replace H := Option.bind_eq_some_iff.mp H
      obtain ⟨⟨t1096, t1097, t1098⟩, A390, H⟩ := H
      replace H : ((spec_RowPack.f k1 t1075 t1076 t1077 (wrap64 (1 + t1096))).bind fun bt1099 => (spec_l3DrawRight.l0 k1 t1063 (wrap64 (x5_1 + 1)) s0_0 t1097 t1098 bt1099.1 bt1099.2.1 bt1099.2.2)) = some (r1, r2, r3, r4, r5) := H
      have A39 := Aside0.mk A390
      clear A390
      replace H := Option.bind_eq_some_iff.mp H
      obtain ⟨⟨t1099, t1100, t1101⟩, A400, H⟩ := H
      replace H : (spec_l3DrawRight.l0 k1 t1063 (wrap64 (x5_1 + 1)) s0_0 t1097 t1098 t1099 t1100 t1101) = some (r1, r2, r3, r4, r5) := H
      have A40 := Aside0.mk A400
      clear A400
      have H' := Aside0.mk H
      clear H
      try go_wp2
      replace HO_1063002 := Aside0.mk (Kd.R_drew HO_1063002.out)
      replace BK1061 := Aside0.mk (blk_drew BK1061.out)
      replace BK1062 := Aside0.mk (blk_drew BK1062.out)
      replace HI0 := Aside0.mk (IsS_l1Cur.drew HI0.out)
      replace HK := Aside0.mk (keep_drew HK.out)
      replace HB := Aside0.mk (below_drew1 HB.out)
      refine start_ (n := 14) (S := fun w' => w'.cell? ⟨gb1062, 0, none⟩ = some (.int .i64 x1063000_1) ∧ w'.cell? ⟨gb1062, 1, none⟩ = some (.int .i64 x1063001_1) ∧ w'.cell? ⟨gb1062, 2, none⟩ = some (u1063002)) (ds := [13]) spec_l3DrawRight.m0 (by kernel_rfl) rfl rfl ⟨bc_ BK1062 0, bc_ BK1062 1, bc_ BK1062 2⟩ (fun hHeld => ?_); refine with_tabW spec_l3DrawRight.tab6 spec_l3DrawRight.bits6 (fun HT_ HW_ => ?_)
      generalize wr.drew = w41 at HO_1063002 BK1061 BK1062 HI0 HK HB hHeld ⊢
      refine pI_ 1 16 HT_ spec_l3DrawRight.m1 rfl rfl ?_
      refine pI_ 3 18 HT_ spec_l3DrawRight.m2 rfl rfl ?_
      refine pI_ 5 20 HT_ spec_l3DrawRight.m3 rfl rfl ?_
      refine pI_ 7 22 HT_ spec_l3DrawRight.m4 rfl rfl ?_
      refine tk_ 0 15 HT_ HW_ spec_l3DrawRight.m5 rfl rfl hHeld ?_
      refine on_ 2 17 HT_ spec_l3DrawRight.m6 rfl rfl (fun K hK => ?_)
      refine goes_ Try.func111 (by kernel_rfl) rfl #[.pointer (some ⟨g, 0, none⟩)] (by rfl) rfl rfl sm_ ?_
      with_reducible refine (spec_l2DrawText.calls g s0_0 x1001_1 x1002_1 t1066 t1067 t1068 w0 _ ?side1 ?side2 A10.out).mono ?_
      (case side1 => repeat (first | (with_reducible first | exact HI0.out | apply IsS_l1Cur.alloc | apply IsS_l1Cur.drewN | apply IsS_l1Cur.drew | apply IsS_l1Cur.set_1 | apply IsS_l1Cur.set_2 | refine IsS_l1Cur.far ?_ NB0_1061.out _ | refine IsS_l1Cur.far ?_ NB0_1062.out _) | exact HI0.out))
      (case side2 => repeat (first | (with_reducible first | exact HB.out | apply below_alloc | apply pw_below_drewN | apply below_drew1 | refine below_set ?_ (IsS_l1Cur.ge HI0.out) | refine below_set ?_ GE1061.out | refine below_set ?_ GE1062.out) | exact HB.out))
      rintro e w42 ⟨rfl, hi, hb, hk⟩
      refine ⟨_, rfl, ?_⟩
      replace HO_1063002 := Aside0.mk (Kd.R_mono (Kd.R_keep (IsS_l1Cur.apart (show IsS_l1Cur w0 _ g s0_0 x1001_1 x1002_1 from is_l1Cur_ HI0.out) (rq_ HO_1063002.out) (by decide)) hk (fun _ h => h.2)) (fun _ h => h.1))
      replace BK1061 := Aside0.mk (KeepBut.blk hk (g' := gb1061) (o := .cells #[.int .i64 0, .int .i64 0, .slice none 0 0] 26 (0, 0)) (bq_ BK1061.out) NB1061_0.out (by simp))
      replace BK1062 := Aside0.mk (KeepBut.blk hk (g' := gb1062) (o := .cells #[.int .i64 x1063000_1, .int .i64 x1063001_1, u1063002] 26 (0, 0)) (bq_ BK1062.out) NB1062_0.out (by simp))
      replace HK := Aside0.mk (KeepBut.trans (hk_ HK.out) hk (.inl rfl))
      replace HB := Aside0.mk (hb)
      replace HI0 := Aside0.mk (hi)
      (try clear hb); (try clear hb2); (try clear hk); (try clear hi)
      refine hK.out _ _ ⟨bc_ BK1062 0, bc_ BK1062 1, bc_ BK1062 2⟩ (fun hHeld => ?_)
      clear hK K
      refine nm_ ?_
      refine on_ 4 19 HT_ spec_l3DrawRight.m7 rfl rfl (fun K hK => ?_)
      refine goes_ Try.func111 (by kernel_rfl) rfl #[.pointer (some ⟨g, 0, none⟩)] (by rfl) rfl rfl sm_ ?_
      with_reducible refine (spec_l2DrawText.calls g s0_0 t1067 t1068 t1069 t1070 t1071 w0 _ ?side1 ?side2 A11.out).mono ?_
      (case side1 => repeat (first | (with_reducible first | exact HI0.out | apply IsS_l1Cur.alloc | apply IsS_l1Cur.drewN | apply IsS_l1Cur.drew | apply IsS_l1Cur.set_1 | apply IsS_l1Cur.set_2 | refine IsS_l1Cur.far ?_ NB0_1061.out _ | refine IsS_l1Cur.far ?_ NB0_1062.out _) | exact HI0.out))
      (case side2 => repeat (first | (with_reducible first | exact HB.out | apply below_alloc | apply pw_below_drewN | apply below_drew1 | refine below_set ?_ (IsS_l1Cur.ge HI0.out) | refine below_set ?_ GE1061.out | refine below_set ?_ GE1062.out) | exact HB.out))
      rintro e w43 ⟨rfl, hi, hb, hk⟩
      refine ⟨_, rfl, ?_⟩
      replace HO_1063002 := Aside0.mk (Kd.R_mono (Kd.R_keep (IsS_l1Cur.apart (show IsS_l1Cur w0 _ g s0_0 t1067 t1068 from is_l1Cur_ HI0.out) (rq_ HO_1063002.out) (by decide)) hk (fun _ h => h.2)) (fun _ h => h.1))
      replace BK1061 := Aside0.mk (KeepBut.blk hk (g' := gb1061) (o := .cells #[.int .i64 0, .int .i64 0, .slice none 0 0] 26 (0, 0)) (bq_ BK1061.out) NB1061_0.out (by simp))
      replace BK1062 := Aside0.mk (KeepBut.blk hk (g' := gb1062) (o := .cells #[.int .i64 x1063000_1, .int .i64 x1063001_1, u1063002] 26 (0, 0)) (bq_ BK1062.out) NB1062_0.out (by simp))
      replace HK := Aside0.mk (KeepBut.trans (hk_ HK.out) hk (.inl rfl))
      replace HB := Aside0.mk (hb)
      replace HI0 := Aside0.mk (hi)
      (try clear hb); (try clear hk); (try clear hi)
      refine hK.out _ _ ⟨bc_ BK1062 0, bc_ BK1062 1, bc_ BK1062 2⟩ (fun hHeld => ?_)
      clear hK K
      refine nm_ ?_
      refine on_ 6 21 HT_ spec_l3DrawRight.m8 rfl rfl (fun K hK => ?_)
      refine goes_ Try.func76 (by kernel_rfl) rfl #[.pointer (some ⟨g, 0, none⟩), .int .i64 4] (by rfl) rfl rfl sm_ ?_
      with_reducible refine (spec_l1Below.calls g s0_0 t1070 t1071 4 t1072 t1073 t1074 w0 _ ?side1 ?side2 A12.out).mono ?_
      (case side1 => repeat (first | (with_reducible first | exact HI0.out | apply IsS_l1Cur.alloc | apply IsS_l1Cur.drewN | apply IsS_l1Cur.drew | apply IsS_l1Cur.set_1 | apply IsS_l1Cur.set_2 | refine IsS_l1Cur.far ?_ NB0_1061.out _ | refine IsS_l1Cur.far ?_ NB0_1062.out _) | exact HI0.out))
      (case side2 => repeat (first | (with_reducible first | exact HB.out | apply below_alloc | apply pw_below_drewN | apply below_drew1 | refine below_set ?_ (IsS_l1Cur.ge HI0.out) | refine below_set ?_ GE1061.out | refine below_set ?_ GE1062.out) | exact HB.out))
      rintro e w44 ⟨rfl, hi, hb, hk⟩
      refine ⟨_, rfl, ?_⟩
      replace HO_1063002 := Aside0.mk (Kd.R_mono (Kd.R_keep (IsS_l1Cur.apart (show IsS_l1Cur w0 _ g s0_0 t1070 t1071 from is_l1Cur_ HI0.out) (rq_ HO_1063002.out) (by decide)) hk (fun _ h => h.2)) (fun _ h => h.1))
      replace BK1061 := Aside0.mk (KeepBut.blk hk (g' := gb1061) (o := .cells #[.int .i64 0, .int .i64 0, .slice none 0 0] 26 (0, 0)) (bq_ BK1061.out) NB1061_0.out (by simp))
      replace BK1062 := Aside0.mk (KeepBut.blk hk (g' := gb1062) (o := .cells #[.int .i64 x1063000_1, .int .i64 x1063001_1, u1063002] 26 (0, 0)) (bq_ BK1062.out) NB1062_0.out (by simp))
      replace HK := Aside0.mk (KeepBut.trans (hk_ HK.out) hk (.inl rfl))
      replace HB := Aside0.mk (hb)
      replace HI0 := Aside0.mk (hi)
      (try clear hb); (try clear hk); (try clear hi)
      obtain ⟨Ao45, co45, eo45⟩ := Kd.R_slice HO_1063002.out
      (first | subst eo45 | (injection eo45 with f1_ f2_ f3_; have f4_ := f1_.symm; have f5_ := f3_.symm; clear f1_ f2_ f3_; subst f4_; subst f5_))
      refine hK.out _ _ ⟨bc_ BK1062 0, bc_ BK1062 1, bc_ BK1062 2⟩ (fun hHeld => ?_)
      clear hK K
      refine nm_ ?_
      refine on_ 8 23 HT_ spec_l3DrawRight.m9 rfl rfl (fun K hK => ?_)
      refine goes_ Try.func98 (by kernel_rfl) rfl #[.agg #[.int .i64 x1063000_1, .int .i64 x1063001_1, .slice Ao45 x1063002_1.length co45], .string t1066, .string t1069, .int .i64 t1072, .int .i64 x5_1] (by rfl) rfl rfl sm_ ?_
      with_reducible refine (spec_RowPut.calls k1 x1063000_1 x1063001_1 _ _ x1063002_1 t1066 t1069 t1072 x5_1 t1075 t1076 t1077 t1080 t1081 _ ?side1 ?side2 A13.out).mono ?_
      (case side1 => repeat (first | exact (Kd.R_reads' HO_1063002.out).2.2 | (with_reducible refine Kd.C_alloc ?_ _) | (with_reducible refine Kd.C_drewN ?_ _) | (with_reducible refine Kd.C_drew ?_)))
      (case side2 => exact (Kd.R_reads' HO_1063002.out).2.1)
      rintro e w46 ⟨v1078, rfl, ho0, hb⟩
      refine ⟨_, rfl, ?_⟩
      have HO1079 := Aside0.mk (Kd.R_lower (Kd.R_new' ho0 (Kd.R_lt (rq_ HO_1063002.out))) (keep_size (w := w) (g := g) (row := none) (hk_ HK.out)))
      replace HO_1063002 := Aside0.mk (Kd.R_elder' (rq_ HO_1063002.out) (Kd.R_base ho0) hb)
      replace BK1061 := cb_ BK1061 hb
      replace BK1062 := cb_ BK1062 hb
      replace HI0 := Aside0.mk (IsS_l1Cur.below (is_l1Cur_ HI0.out) hb)
      replace HK := Aside0.mk (KeepBut.trans (hk_ HK.out) (KeepBut.of_below hb g none) (.inl rfl))
      replace HB := Aside0.mk (below_step (hi_ HB.out) hb)
      (try clear hb); (try clear ho0)
      obtain ⟨Ao49, co49, eo49⟩ := Kd.R_slice HO1079.out
      (first | subst eo49 | (injection eo49 with f1_ f2_ f3_; have f4_ := f1_.symm; have f5_ := f3_.symm; clear f1_ f2_ f3_; subst f4_; subst f5_))
      refine hK.out _ _ ⟨bc_ BK1062 0, bc_ BK1062 1, bc_ BK1062 2⟩ (fun hHeld => ?_)
      clear hK K
      refine nm_ ?_
      refine pI_ 9 14 HT_ spec_l3DrawRight.m10 rfl rfl ?_
      refine pI_ 10 24 HT_ spec_l3DrawRight.m11 rfl rfl ?_
      refine pI_ 11 25 HT_ spec_l3DrawRight.m12 rfl rfl ?_
      refine pI_ 12 26 HT_ spec_l3DrawRight.m13 rfl rfl ?_
      refine last_ (i := 13) (N := none) spec_l3DrawRight.m14 rfl rfl (one_of HT_.out (by kernel_rfl)) (by decide) (fun K hK => ?_)
      have hs47 : w46.cell? ⟨gb1062, 0, none⟩ = some (.int .i64 x1063000_1) := bc_ BK1062 0
      have hfs47 := blk_frozen BK1062.out 0
      have hns47_0 := NB1061_1062.out
      have hms47_0 := NB1062_1061.out
      have hs48 : w46.cell? ⟨gb1062, 1, none⟩ = some (.int .i64 x1063001_1) := bc_ BK1062 1
      have hfs48 := blk_frozen BK1062.out 1
      have hns48_0 := NB1061_1062.out
      have hms48_0 := NB1062_1061.out
      have hs50 : w46.cell? ⟨gb1062, 2, none⟩ = some (.slice Ao45 x1063002_1.length co45) := bc_ BK1062 2
      have hfs50 := blk_frozen BK1062.out 2
      have hns50_0 := NB1061_1062.out
      have hms50_0 := NB1062_1061.out
      refine skip_ (w1 := ?_) (by rfl) rfl ?_ ?_
      rotate_left; (focus go_simp; rfl)
      refine hK.out _ _ ?_
      clear hK K
      refine done_ (done_of HT_.out (by kernel_rfl)) ?_
      try go_wp2_with (first | ((with_reducible refine gate_callee (f := 76) rfl ?_); refine goesL_ (some 28) rfl rfl Try.func76 (by kernel_rfl) rfl #[.pointer (some ⟨g, 0, none⟩), .int .i64 12] rfl sm_ ?_; (with_reducible refine (spec_l1Below.calls g s0_0 t1073 t1074 12 t1082 t1083 t1084 w0 _ ?side1 ?side2 A14.out).mono ?_); (case side1 => repeat (first | (with_reducible first | exact HI0.out | apply IsS_l1Cur.alloc | apply IsS_l1Cur.drewN | apply IsS_l1Cur.drew | apply IsS_l1Cur.set_1 | apply IsS_l1Cur.set_2 | refine IsS_l1Cur.far ?_ NB0_1061.out _ | refine IsS_l1Cur.far ?_ NB0_1062.out _) | exact HI0.out)); (case side2 => repeat (first | (with_reducible first | exact HB.out | apply below_alloc | apply pw_below_drewN | apply below_drew1 | refine below_set ?_ (IsS_l1Cur.ge HI0.out) | refine below_set ?_ GE1061.out | refine below_set ?_ GE1062.out) | exact HB.out)); rintro e w51 ⟨rfl, hi, hb, hk⟩; refine ⟨_, rfl, ?_⟩; replace HO_1063002 := Aside0.mk (Kd.R_mono (Kd.R_keep (IsS_l1Cur.apart (show IsS_l1Cur w0 _ g s0_0 t1073 t1074 from is_l1Cur_ HI0.out) (rk_ HO_1063002.out BK1062.out) (by decide)) hk (fun _ h => h.2)) (fun _ h => h.1)); replace BK1061 := Aside0.mk (KeepBut.blk hk (g' := gb1061) (o := .cells #[.int .i64 0, .int .i64 0, .slice none 0 0] 26 (0, 0)) (bf_ NB1061_1062.out BK1061.out) NB1061_0.out (by simp)); replace HO1079 := Aside0.mk (Kd.R_mono (Kd.R_keep (IsS_l1Cur.apart (show IsS_l1Cur w0 _ g s0_0 t1073 t1074 from is_l1Cur_ HI0.out) (rk_ HO1079.out BK1062.out) (by decide)) hk (fun _ h => h.2)) (fun _ h => h.1)); replace BK1062 := Aside0.mk (KeepBut.blk hk (g' := gb1062) (o := .cells #[.int .i64 t1075, .int .i64 t1076, .slice Ao49 t1077.length co49] 26 (0, 0)) (bp_ BK1062.out) NB1062_0.out (by simp)); replace HK := Aside0.mk (KeepBut.trans (hk_ HK.out) hk (.inl rfl)); replace HB := Aside0.mk (hb); replace HI0 := Aside0.mk (hi); (try clear hb); (try clear hb2); (try clear hk); (try clear hi)))
      replace HO_1063002 := Aside0.mk (Kd.R_drew HO_1063002.out)
      replace HO1079 := Aside0.mk (Kd.R_drew HO1079.out)
      replace BK1061 := Aside0.mk (blk_drew BK1061.out)
      replace BK1062 := Aside0.mk (blk_drew BK1062.out)
      replace HI0 := Aside0.mk (IsS_l1Cur.drew HI0.out)
      replace HK := Aside0.mk (keep_drew HK.out)
      replace HB := Aside0.mk (below_drew1 HB.out)
      refine start_ (n := 6) (S := fun w' => w'.cell? ⟨gb1062, 0, none⟩ = some (.int .i64 t1075) ∧ w'.cell? ⟨gb1062, 1, none⟩ = some (.int .i64 t1076) ∧ w'.cell? ⟨gb1062, 2, none⟩ = some (.slice Ao49 t1077.length co49)) (ds := [5]) #[false, false, false, false, false, false] (by kernel_rfl) rfl rfl ⟨bc_ BK1062 0, bc_ BK1062 1, bc_ BK1062 2⟩ (fun hHeld => ?_)
      generalize w51.drew = w52 at HO_1063002 HO1079 BK1061 BK1062 HI0 HK HB hHeld ⊢
      refine pure_ (i := 1) (N := some 41) (v := ?_) (a' := ?_) #[false, true, false, false, false, false] rfl rfl (by kernel_rfl) (fun _ _ _ h => h) (Or.inl ⟨by rfl, ?_⟩) ?_ ?_; rotate_left; (focus intro w'; go_simp; with_reducible rfl); rotate_left; (focus simp only [Act.put, List.setIfInBounds_toArray, List.set_cons_zero, List.set_cons_succ, i64_w, i32_w]; rfl)
      refine take_ (i := 0) (N := some 40) (v := ?_) (a' := ?_) #[true, true, false, false, false, false] rfl rfl (by kernel_rfl) (fun _ _ _ h => h) (Or.inl ⟨by rfl, ?_⟩) hHeld ?_ ?_
      rotate_left
      ·
       rintro w' ⟨s0, s1, s2⟩
       go_simp
       with_reducible rfl
      rotate_left; (focus simp only [Act.put, List.setIfInBounds_toArray, List.set_cons_zero, List.set_cons_succ, i64_w, i32_w]; rfl)
      refine one_ (i := 2) (N := some 42) #[true, true, true, false, false, false] rfl rfl (by kernel_rfl) (by decide) (fun K hK => ?_)
      refine goes_ Try.func76 (by kernel_rfl) rfl #[.pointer (some ⟨g, 0, none⟩), .int .i64 3] (by rfl) rfl rfl sm_ ?_
      with_reducible refine (spec_l1Below.calls g s0_0 t1083 t1084 3 t1096 t1097 t1098 w0 _ ?side1 ?side2 A39.out).mono ?_
      (case side1 => repeat (first | (with_reducible first | exact HI0.out | apply IsS_l1Cur.alloc | apply IsS_l1Cur.drewN | apply IsS_l1Cur.drew | apply IsS_l1Cur.set_1 | apply IsS_l1Cur.set_2 | refine IsS_l1Cur.far ?_ NB0_1061.out _ | refine IsS_l1Cur.far ?_ NB0_1062.out _) | exact HI0.out))
      (case side2 => repeat (first | (with_reducible first | exact HB.out | apply below_alloc | apply pw_below_drewN | apply below_drew1 | refine below_set ?_ (IsS_l1Cur.ge HI0.out) | refine below_set ?_ GE1061.out | refine below_set ?_ GE1062.out) | exact HB.out))
      rintro e w53 ⟨rfl, hi, hb, hk⟩
      refine ⟨_, rfl, ?_⟩
      replace HO_1063002 := Aside0.mk (Kd.R_mono (Kd.R_keep (IsS_l1Cur.apart (show IsS_l1Cur w0 _ g s0_0 t1083 t1084 from is_l1Cur_ HI0.out) (rq_ HO_1063002.out) (by decide)) hk (fun _ h => h.2)) (fun _ h => h.1))
      replace BK1061 := Aside0.mk (KeepBut.blk hk (g' := gb1061) (o := .cells #[.int .i64 0, .int .i64 0, .slice none 0 0] 26 (0, 0)) (bq_ BK1061.out) NB1061_0.out (by simp))
      replace BK1062 := Aside0.mk (KeepBut.blk hk (g' := gb1062) (o := .cells #[.int .i64 t1075, .int .i64 t1076, .slice Ao49 t1077.length co49] 26 (0, 0)) (bq_ BK1062.out) NB1062_0.out (by simp))
      replace HO1079 := Aside0.mk (Kd.R_mono (Kd.R_keep (IsS_l1Cur.apart (show IsS_l1Cur w0 _ g s0_0 t1083 t1084 from is_l1Cur_ HI0.out) (rq_ HO1079.out) (by decide)) hk (fun _ h => h.2)) (fun _ h => h.1))
      replace HK := Aside0.mk (KeepBut.trans (hk_ HK.out) hk (.inl rfl))
      replace HB := Aside0.mk (hb)
      replace HI0 := Aside0.mk (hi)
      (try clear hb); (try clear hb2); (try clear hk); (try clear hi)
      refine hK.out _ _ ⟨bc_ BK1062 0, bc_ BK1062 1, bc_ BK1062 2⟩ (fun hHeld => ?_)
      clear hK K
      refine nm_ ?_
      refine pure_ (i := 3) (N := some 43) (v := ?_) (a' := ?_) #[true, true, true, true, false, false] rfl rfl (by kernel_rfl) (fun _ _ _ h => h) (Or.inl ⟨by rfl, ?_⟩) ?_ ?_; rotate_left; (focus intro w'; go_simp; with_reducible rfl); rotate_left; (focus simp only [Act.put, List.setIfInBounds_toArray, List.set_cons_zero, List.set_cons_succ, i64_w, i32_w]; rfl)
      refine one_ (i := 4) (N := some 44) #[true, true, true, true, true, false] rfl rfl (by kernel_rfl) (by decide) (fun K hK => ?_)
      refine goes_ Try.func112 (by kernel_rfl) rfl #[.agg #[.int .i64 t1075, .int .i64 t1076, .slice Ao49 t1077.length co49], .int .i64 (wrap64 (1 + t1096))] (by rfl) rfl rfl sm_ ?_
      with_reducible refine (spec_RowPack.calls k1 t1075 t1076 _ _ t1077 (wrap64 (1 + t1096)) t1099 t1100 t1101 _ ?side1 ?side2 A40.out).mono ?_
      (case side1 => repeat (first | exact (Kd.R_reads' HO1079.out).2.2 | (with_reducible refine Kd.C_alloc ?_ _) | (with_reducible refine Kd.C_drewN ?_ _) | (with_reducible refine Kd.C_drew ?_)))
      (case side2 => exact (Kd.R_reads' HO1079.out).2.1)
      rintro e w54 ⟨v1102, rfl, ho0, hb⟩
      refine ⟨_, rfl, ?_⟩
      have HO1103 := Aside0.mk (Kd.R_lower (Kd.R_new' (Kd.R_new' ho0 (Kd.R_lt (rq_ HO_1063002.out))) (Kd.R_lt (rq_ HO1079.out))) (keep_size (w := w) (g := g) (row := none) (hk_ HK.out)))
      replace HO_1063002 := Aside0.mk (Kd.R_elder' (rq_ HO_1063002.out) (Kd.R_base ho0) hb)
      replace HO1079 := Aside0.mk (Kd.R_elder' (rq_ HO1079.out) (Kd.R_base ho0) hb)
      replace BK1061 := cb_ BK1061 hb
      replace BK1062 := cb_ BK1062 hb
      replace HI0 := Aside0.mk (IsS_l1Cur.below (is_l1Cur_ HI0.out) hb)
      replace HK := Aside0.mk (KeepBut.trans (hk_ HK.out) (KeepBut.of_below hb g none) (.inl rfl))
      replace HB := Aside0.mk (below_step (hi_ HB.out) hb)
      (try clear hb); (try clear ho0)
      obtain ⟨Ao57, co57, eo57⟩ := Kd.R_slice HO1103.out
      (first | subst eo57 | (injection eo57 with f1_ f2_ f3_; have f4_ := f1_.symm; have f5_ := f3_.symm; clear f1_ f2_ f3_; subst f4_; subst f5_))
      refine hK.out _ _ ⟨bc_ BK1062 0, bc_ BK1062 1, bc_ BK1062 2⟩ (fun hHeld => ?_)
      clear hK K
      refine nm_ ?_
      refine last_ (i := 5) (N := none) #[true, true, true, true, true, true] rfl rfl (by kernel_rfl) (by decide) (fun K hK => ?_)
      have hs55 : w54.cell? ⟨gb1062, 0, none⟩ = some (.int .i64 t1075) := bc_ BK1062 0
      have hfs55 := blk_frozen BK1062.out 0
      have hns55_0 := NB1061_1062.out
      have hms55_0 := NB1062_1061.out
      have hs56 : w54.cell? ⟨gb1062, 1, none⟩ = some (.int .i64 t1076) := bc_ BK1062 1
      have hfs56 := blk_frozen BK1062.out 1
      have hns56_0 := NB1061_1062.out
      have hms56_0 := NB1062_1061.out
      have hs58 : w54.cell? ⟨gb1062, 2, none⟩ = some (.slice Ao49 t1077.length co49) := bc_ BK1062 2
      have hfs58 := blk_frozen BK1062.out 2
      have hns58_0 := NB1061_1062.out
      have hms58_0 := NB1062_1061.out
      refine skip_ (w1 := ?_) (by rfl) rfl ?_ ?_
      rotate_left; (focus go_simp; rfl)
      refine hK.out _ _ ?_
      clear hK K
      refine done_ (by kernel_rfl) ?_
      try go_wp2
      go_roundg k1
      case measure => have := HK1.out; omega
      case rel => exact ⟨(wrap64 (x5_1 + 1)), (t1097), (t1098), (t1099), (t1100), (t1101), (.slice Ao57 t1101.length co57), (qe10_), H', ⟨by have := HK1.out; omega⟩, ⟨by (with_reducible repeat (first | apply Kd.R_alloc | apply Kd.R_drewN | apply Kd.R_drew)); exact Kd.R_mono (Kd.R_far (p := ⟨gb1062, 2, none⟩) (Kd.R_far (p := ⟨gb1062, 1, none⟩) (Kd.R_far (p := ⟨gb1062, 0, none⟩) (Kd.R_types HO1103.out BK1062.out (by decide)) (fun _ hk => hk.2) (.int .i64 t1099)) (fun _ hk => hk.2) (.int .i64 t1100)) (fun _ hk => hk.2) (.slice Ao57 t1101.length co57)) (fun _ hk => trivial)⟩, ⟨bf_ NB1061_1062.out BK1061.out⟩, ⟨bp_ BK1062.out⟩, ⟨is_l1Cur_ HI0.out⟩, ⟨qe4_⟩, ⟨qe3_⟩⟩
     ·
      rw [if_neg c38] at H
      have c38b0 : (t1082 == 1) = false := beq_eq_false_iff_ne.mpr c38
      have c38b1 : (t1082 != 1) = true := bne_iff_ne.mpr c38
      have H' := Aside0.mk H
      clear H
      try go_wp2
      replace HO_1063002 := Aside0.mk (Kd.R_drew HO_1063002.out)
      replace BK1061 := Aside0.mk (blk_drew BK1061.out)
      replace BK1062 := Aside0.mk (blk_drew BK1062.out)
      replace HI0 := Aside0.mk (IsS_l1Cur.drew HI0.out)
      replace HK := Aside0.mk (keep_drew HK.out)
      replace HB := Aside0.mk (below_drew1 HB.out)
      refine start_ (n := 14) (S := fun w' => w'.cell? ⟨gb1062, 0, none⟩ = some (.int .i64 x1063000_1) ∧ w'.cell? ⟨gb1062, 1, none⟩ = some (.int .i64 x1063001_1) ∧ w'.cell? ⟨gb1062, 2, none⟩ = some (u1063002)) (ds := [13]) spec_l3DrawRight.m0 (by kernel_rfl) rfl rfl ⟨bc_ BK1062 0, bc_ BK1062 1, bc_ BK1062 2⟩ (fun hHeld => ?_); refine with_tabW spec_l3DrawRight.tab6 spec_l3DrawRight.bits6 (fun HT_ HW_ => ?_)
      generalize wr.drew = w59 at HO_1063002 BK1061 BK1062 HI0 HK HB hHeld ⊢
      refine pI_ 1 16 HT_ spec_l3DrawRight.m1 rfl rfl ?_
      refine pI_ 3 18 HT_ spec_l3DrawRight.m2 rfl rfl ?_
      refine pI_ 5 20 HT_ spec_l3DrawRight.m3 rfl rfl ?_
      refine pI_ 7 22 HT_ spec_l3DrawRight.m4 rfl rfl ?_
      refine tk_ 0 15 HT_ HW_ spec_l3DrawRight.m5 rfl rfl hHeld ?_
      refine on_ 2 17 HT_ spec_l3DrawRight.m6 rfl rfl (fun K hK => ?_)
      refine goes_ Try.func111 (by kernel_rfl) rfl #[.pointer (some ⟨g, 0, none⟩)] (by rfl) rfl rfl sm_ ?_
      with_reducible refine (spec_l2DrawText.calls g s0_0 x1001_1 x1002_1 t1066 t1067 t1068 w0 _ ?side1 ?side2 A10.out).mono ?_
      (case side1 => repeat (first | (with_reducible first | exact HI0.out | apply IsS_l1Cur.alloc | apply IsS_l1Cur.drewN | apply IsS_l1Cur.drew | apply IsS_l1Cur.set_1 | apply IsS_l1Cur.set_2 | refine IsS_l1Cur.far ?_ NB0_1061.out _ | refine IsS_l1Cur.far ?_ NB0_1062.out _) | exact HI0.out))
      (case side2 => repeat (first | (with_reducible first | exact HB.out | apply below_alloc | apply pw_below_drewN | apply below_drew1 | refine below_set ?_ (IsS_l1Cur.ge HI0.out) | refine below_set ?_ GE1061.out | refine below_set ?_ GE1062.out) | exact HB.out))
      rintro e w60 ⟨rfl, hi, hb, hk⟩
      refine ⟨_, rfl, ?_⟩
      replace HO_1063002 := Aside0.mk (Kd.R_mono (Kd.R_keep (IsS_l1Cur.apart (show IsS_l1Cur w0 _ g s0_0 x1001_1 x1002_1 from is_l1Cur_ HI0.out) (rq_ HO_1063002.out) (by decide)) hk (fun _ h => h.2)) (fun _ h => h.1))
      replace BK1061 := Aside0.mk (KeepBut.blk hk (g' := gb1061) (o := .cells #[.int .i64 0, .int .i64 0, .slice none 0 0] 26 (0, 0)) (bq_ BK1061.out) NB1061_0.out (by simp))
      replace BK1062 := Aside0.mk (KeepBut.blk hk (g' := gb1062) (o := .cells #[.int .i64 x1063000_1, .int .i64 x1063001_1, u1063002] 26 (0, 0)) (bq_ BK1062.out) NB1062_0.out (by simp))
      replace HK := Aside0.mk (KeepBut.trans (hk_ HK.out) hk (.inl rfl))
      replace HB := Aside0.mk (hb)
      replace HI0 := Aside0.mk (hi)
      (try clear hb); (try clear hb2); (try clear hk); (try clear hi)
      refine hK.out _ _ ⟨bc_ BK1062 0, bc_ BK1062 1, bc_ BK1062 2⟩ (fun hHeld => ?_)
      clear hK K
      refine nm_ ?_
      refine on_ 4 19 HT_ spec_l3DrawRight.m7 rfl rfl (fun K hK => ?_)
      refine goes_ Try.func111 (by kernel_rfl) rfl #[.pointer (some ⟨g, 0, none⟩)] (by rfl) rfl rfl sm_ ?_
      with_reducible refine (spec_l2DrawText.calls g s0_0 t1067 t1068 t1069 t1070 t1071 w0 _ ?side1 ?side2 A11.out).mono ?_
      (case side1 => repeat (first | (with_reducible first | exact HI0.out | apply IsS_l1Cur.alloc | apply IsS_l1Cur.drewN | apply IsS_l1Cur.drew | apply IsS_l1Cur.set_1 | apply IsS_l1Cur.set_2 | refine IsS_l1Cur.far ?_ NB0_1061.out _ | refine IsS_l1Cur.far ?_ NB0_1062.out _) | exact HI0.out))
      (case side2 => repeat (first | (with_reducible first | exact HB.out | apply below_alloc | apply pw_below_drewN | apply below_drew1 | refine below_set ?_ (IsS_l1Cur.ge HI0.out) | refine below_set ?_ GE1061.out | refine below_set ?_ GE1062.out) | exact HB.out))
      rintro e w61 ⟨rfl, hi, hb, hk⟩
      refine ⟨_, rfl, ?_⟩
      replace HO_1063002 := Aside0.mk (Kd.R_mono (Kd.R_keep (IsS_l1Cur.apart (show IsS_l1Cur w0 _ g s0_0 t1067 t1068 from is_l1Cur_ HI0.out) (rq_ HO_1063002.out) (by decide)) hk (fun _ h => h.2)) (fun _ h => h.1))
      replace BK1061 := Aside0.mk (KeepBut.blk hk (g' := gb1061) (o := .cells #[.int .i64 0, .int .i64 0, .slice none 0 0] 26 (0, 0)) (bq_ BK1061.out) NB1061_0.out (by simp))
      replace BK1062 := Aside0.mk (KeepBut.blk hk (g' := gb1062) (o := .cells #[.int .i64 x1063000_1, .int .i64 x1063001_1, u1063002] 26 (0, 0)) (bq_ BK1062.out) NB1062_0.out (by simp))
      replace HK := Aside0.mk (KeepBut.trans (hk_ HK.out) hk (.inl rfl))
      replace HB := Aside0.mk (hb)
      replace HI0 := Aside0.mk (hi)
      (try clear hb); (try clear hk); (try clear hi)
      refine hK.out _ _ ⟨bc_ BK1062 0, bc_ BK1062 1, bc_ BK1062 2⟩ (fun hHeld => ?_)
      clear hK K
      refine nm_ ?_
      refine on_ 6 21 HT_ spec_l3DrawRight.m8 rfl rfl (fun K hK => ?_)
      refine goes_ Try.func76 (by kernel_rfl) rfl #[.pointer (some ⟨g, 0, none⟩), .int .i64 4] (by rfl) rfl rfl sm_ ?_
      with_reducible refine (spec_l1Below.calls g s0_0 t1070 t1071 4 t1072 t1073 t1074 w0 _ ?side1 ?side2 A12.out).mono ?_
      (case side1 => repeat (first | (with_reducible first | exact HI0.out | apply IsS_l1Cur.alloc | apply IsS_l1Cur.drewN | apply IsS_l1Cur.drew | apply IsS_l1Cur.set_1 | apply IsS_l1Cur.set_2 | refine IsS_l1Cur.far ?_ NB0_1061.out _ | refine IsS_l1Cur.far ?_ NB0_1062.out _) | exact HI0.out))
      (case side2 => repeat (first | (with_reducible first | exact HB.out | apply below_alloc | apply pw_below_drewN | apply below_drew1 | refine below_set ?_ (IsS_l1Cur.ge HI0.out) | refine below_set ?_ GE1061.out | refine below_set ?_ GE1062.out) | exact HB.out))
      rintro e w62 ⟨rfl, hi, hb, hk⟩
      refine ⟨_, rfl, ?_⟩
      replace HO_1063002 := Aside0.mk (Kd.R_mono (Kd.R_keep (IsS_l1Cur.apart (show IsS_l1Cur w0 _ g s0_0 t1070 t1071 from is_l1Cur_ HI0.out) (rq_ HO_1063002.out) (by decide)) hk (fun _ h => h.2)) (fun _ h => h.1))
      replace BK1061 := Aside0.mk (KeepBut.blk hk (g' := gb1061) (o := .cells #[.int .i64 0, .int .i64 0, .slice none 0 0] 26 (0, 0)) (bq_ BK1061.out) NB1061_0.out (by simp))
      replace BK1062 := Aside0.mk (KeepBut.blk hk (g' := gb1062) (o := .cells #[.int .i64 x1063000_1, .int .i64 x1063001_1, u1063002] 26 (0, 0)) (bq_ BK1062.out) NB1062_0.out (by simp))
      replace HK := Aside0.mk (KeepBut.trans (hk_ HK.out) hk (.inl rfl))
      replace HB := Aside0.mk (hb)
      replace HI0 := Aside0.mk (hi)
      (try clear hb); (try clear hk); (try clear hi)
      obtain ⟨Ao63, co63, eo63⟩ := Kd.R_slice HO_1063002.out
      (first | subst eo63 | (injection eo63 with f1_ f2_ f3_; have f4_ := f1_.symm; have f5_ := f3_.symm; clear f1_ f2_ f3_; subst f4_; subst f5_))
      refine hK.out _ _ ⟨bc_ BK1062 0, bc_ BK1062 1, bc_ BK1062 2⟩ (fun hHeld => ?_)
      clear hK K
      refine nm_ ?_
      refine on_ 8 23 HT_ spec_l3DrawRight.m9 rfl rfl (fun K hK => ?_)
      refine goes_ Try.func98 (by kernel_rfl) rfl #[.agg #[.int .i64 x1063000_1, .int .i64 x1063001_1, .slice Ao63 x1063002_1.length co63], .string t1066, .string t1069, .int .i64 t1072, .int .i64 x5_1] (by rfl) rfl rfl sm_ ?_
      with_reducible refine (spec_RowPut.calls k1 x1063000_1 x1063001_1 _ _ x1063002_1 t1066 t1069 t1072 x5_1 t1075 t1076 t1077 t1080 t1081 _ ?side1 ?side2 A13.out).mono ?_
      (case side1 => repeat (first | exact (Kd.R_reads' HO_1063002.out).2.2 | (with_reducible refine Kd.C_alloc ?_ _) | (with_reducible refine Kd.C_drewN ?_ _) | (with_reducible refine Kd.C_drew ?_)))
      (case side2 => exact (Kd.R_reads' HO_1063002.out).2.1)
      rintro e w64 ⟨v1078, rfl, ho0, hb⟩
      refine ⟨_, rfl, ?_⟩
      have HO1079 := Aside0.mk (Kd.R_lower (Kd.R_new' ho0 (Kd.R_lt (rq_ HO_1063002.out))) (keep_size (w := w) (g := g) (row := none) (hk_ HK.out)))
      replace HO_1063002 := Aside0.mk (Kd.R_elder' (rq_ HO_1063002.out) (Kd.R_base ho0) hb)
      replace BK1061 := cb_ BK1061 hb
      replace BK1062 := cb_ BK1062 hb
      replace HI0 := Aside0.mk (IsS_l1Cur.below (is_l1Cur_ HI0.out) hb)
      replace HK := Aside0.mk (KeepBut.trans (hk_ HK.out) (KeepBut.of_below hb g none) (.inl rfl))
      replace HB := Aside0.mk (below_step (hi_ HB.out) hb)
      (try clear hb); (try clear ho0)
      obtain ⟨Ao67, co67, eo67⟩ := Kd.R_slice HO1079.out
      (first | subst eo67 | (injection eo67 with f1_ f2_ f3_; have f4_ := f1_.symm; have f5_ := f3_.symm; clear f1_ f2_ f3_; subst f4_; subst f5_))
      refine hK.out _ _ ⟨bc_ BK1062 0, bc_ BK1062 1, bc_ BK1062 2⟩ (fun hHeld => ?_)
      clear hK K
      refine nm_ ?_
      refine pI_ 9 14 HT_ spec_l3DrawRight.m10 rfl rfl ?_
      refine pI_ 10 24 HT_ spec_l3DrawRight.m11 rfl rfl ?_
      refine pI_ 11 25 HT_ spec_l3DrawRight.m12 rfl rfl ?_
      refine pI_ 12 26 HT_ spec_l3DrawRight.m13 rfl rfl ?_
      refine last_ (i := 13) (N := none) spec_l3DrawRight.m14 rfl rfl (one_of HT_.out (by kernel_rfl)) (by decide) (fun K hK => ?_)
      have hs65 : w64.cell? ⟨gb1062, 0, none⟩ = some (.int .i64 x1063000_1) := bc_ BK1062 0
      have hfs65 := blk_frozen BK1062.out 0
      have hns65_0 := NB1061_1062.out
      have hms65_0 := NB1062_1061.out
      have hs66 : w64.cell? ⟨gb1062, 1, none⟩ = some (.int .i64 x1063001_1) := bc_ BK1062 1
      have hfs66 := blk_frozen BK1062.out 1
      have hns66_0 := NB1061_1062.out
      have hms66_0 := NB1062_1061.out
      have hs68 : w64.cell? ⟨gb1062, 2, none⟩ = some (.slice Ao63 x1063002_1.length co63) := bc_ BK1062 2
      have hfs68 := blk_frozen BK1062.out 2
      have hns68_0 := NB1061_1062.out
      have hms68_0 := NB1062_1061.out
      refine skip_ (w1 := ?_) (by rfl) rfl ?_ ?_
      rotate_left; (focus go_simp; rfl)
      refine hK.out _ _ ?_
      clear hK K
      refine done_ (done_of HT_.out (by kernel_rfl)) ?_
      try go_wp2_with (first | ((with_reducible refine gate_callee (f := 76) rfl ?_); refine goesL_ (some 28) rfl rfl Try.func76 (by kernel_rfl) rfl #[.pointer (some ⟨g, 0, none⟩), .int .i64 12] rfl sm_ ?_; (with_reducible refine (spec_l1Below.calls g s0_0 t1073 t1074 12 t1082 t1083 t1084 w0 _ ?side1 ?side2 A14.out).mono ?_); (case side1 => repeat (first | (with_reducible first | exact HI0.out | apply IsS_l1Cur.alloc | apply IsS_l1Cur.drewN | apply IsS_l1Cur.drew | apply IsS_l1Cur.set_1 | apply IsS_l1Cur.set_2 | refine IsS_l1Cur.far ?_ NB0_1061.out _ | refine IsS_l1Cur.far ?_ NB0_1062.out _) | exact HI0.out)); (case side2 => repeat (first | (with_reducible first | exact HB.out | apply below_alloc | apply pw_below_drewN | apply below_drew1 | refine below_set ?_ (IsS_l1Cur.ge HI0.out) | refine below_set ?_ GE1061.out | refine below_set ?_ GE1062.out) | exact HB.out)); rintro e w69 ⟨rfl, hi, hb, hk⟩; refine ⟨_, rfl, ?_⟩; replace HO_1063002 := Aside0.mk (Kd.R_mono (Kd.R_keep (IsS_l1Cur.apart (show IsS_l1Cur w0 _ g s0_0 t1073 t1074 from is_l1Cur_ HI0.out) (rk_ HO_1063002.out BK1062.out) (by decide)) hk (fun _ h => h.2)) (fun _ h => h.1)); replace BK1061 := Aside0.mk (KeepBut.blk hk (g' := gb1061) (o := .cells #[.int .i64 0, .int .i64 0, .slice none 0 0] 26 (0, 0)) (bf_ NB1061_1062.out BK1061.out) NB1061_0.out (by simp)); replace HO1079 := Aside0.mk (Kd.R_mono (Kd.R_keep (IsS_l1Cur.apart (show IsS_l1Cur w0 _ g s0_0 t1073 t1074 from is_l1Cur_ HI0.out) (rk_ HO1079.out BK1062.out) (by decide)) hk (fun _ h => h.2)) (fun _ h => h.1)); replace BK1062 := Aside0.mk (KeepBut.blk hk (g' := gb1062) (o := .cells #[.int .i64 t1075, .int .i64 t1076, .slice Ao67 t1077.length co67] 26 (0, 0)) (bp_ BK1062.out) NB1062_0.out (by simp)); replace HK := Aside0.mk (KeepBut.trans (hk_ HK.out) hk (.inl rfl)); replace HB := Aside0.mk (hb); replace HI0 := Aside0.mk (hi); (try clear hb); (try clear hb2); (try clear hk); (try clear hi)))
      go_roundg k1
      case measure => have := HK1.out; omega
      case rel => exact ⟨(wrap64 (x5_1 + 1)), (t1083), (t1084), (t1075), (t1076), (t1077), (.slice Ao67 t1077.length co67), (qe10_), H', ⟨by have := HK1.out; omega⟩, ⟨by (with_reducible repeat (first | apply Kd.R_alloc | apply Kd.R_drewN | apply Kd.R_drew)); exact Kd.R_mono HO1079.out (fun _ hk => trivial)⟩, ⟨bq_ BK1061.out⟩, ⟨bq_ BK1062.out⟩, ⟨is_l1Cur_ HI0.out⟩, ⟨qe4_⟩, ⟨qe3_⟩⟩
   ·
    rw [if_neg c9] at H
    have c9b0 : decide (x5_1 < t1063) = false := decide_eq_false c9
    clear c9
    simp only [Option.some.injEq, Prod.mk.injEq] at H
    obtain ⟨rfl, rfl, rfl, rfl, rfl⟩ := H
    have hnb70 := NB1062_1061.out
    have hnc70 := NB1061_1062.out
    have hnb71 := NB1062_0.out
    have hnc71 := NB0_1062.out
    have hcz72_0 : wr.cell? ⟨gb1062, 0, none⟩ = some (.int .i64 x1063000_1) := bc_ BK1062 0
    have hcz72_1 : wr.cell? ⟨gb1062, 1, none⟩ = some (.int .i64 x1063001_1) := bc_ BK1062 1
    have hcz72_2 : wr.cell? ⟨gb1062, 2, none⟩ = some (u1063002) := bc_ BK1062 2
    have hfz72_0 := blk_frozen BK1062.out 0
    have hfz72_1 := blk_frozen BK1062.out 1
    have hfz72_2 := blk_frozen BK1062.out 2
    have hnb73 := NB1061_0.out
    have hnc73 := NB0_1061.out
    have hcz74_0 : wr.cell? ⟨gb1061, 0, none⟩ = some (.int .i64 0) := bc_ BK1061 0
    have hcz74_1 : wr.cell? ⟨gb1061, 1, none⟩ = some (.int .i64 0) := bc_ BK1061 1
    have hcz74_2 : wr.cell? ⟨gb1061, 2, none⟩ = some (.slice none 0 0) := bc_ BK1061 2
    have hfz74_0 := blk_frozen BK1061.out 0
    have hfz74_1 := blk_frozen BK1061.out 1
    have hfz74_2 := blk_frozen BK1061.out 2
    obtain ⟨Ao75, co75, eo75⟩ := Kd.R_slice HO_1063002.out
    subst eo75
    go_wp2
    refine bodyPost_ret (results_cell_row rfl _ _ gb1061 26 #[.int .i64 x1063000_1, .int .i64 x1063001_1, .slice Ao75 x1063002_1.length co75] (0, 0) _ rfl (bp_ BK1061.out) Try.underlying26 rfl (by kernel_rfl)) rfl ?_
    exact ⟨_, er_, by (with_reducible repeat (first | apply Kd.R_alloc | apply Kd.R_drewN | apply Kd.R_drew)); exact Kd.R_mono (Kd.R_far (p := ⟨gb1061, 2, none⟩) (Kd.R_far (p := ⟨gb1061, 1, none⟩) (Kd.R_far (p := ⟨gb1061, 0, none⟩) (Kd.R_types HO_1063002.out BK1061.out (by decide)) (fun _ hk => hk.2) (.int .i64 x1063000_1)) (fun _ hk => hk.2) (.int .i64 x1063001_1)) (fun _ hk => hk.2) (.slice Ao75 x1063002_1.length co75)) (fun _ hk => trivial), is_l1Cur_ HI0.out, qe3_, qe4_⟩
/-! ### spec_l3Draw: function 51 -/
abbrev spec_l3Draw.m0 : Array Bool := #[t_,t_,t_,t_,t_,t_,f_,f_,f_,f_,f_,f_]
def spec_l3Draw.l0 : Nat → List Int → Int → Int → Int → Int → List (S_Item) → Option (Int × Int × (List (S_Item)) × Int × Int)
 | 0, _, _, _, _, _, _ => none
 | k + 1, x1000, x1001, x1002, x1113000, x1113001, x1113002 => if (x1113002.length : Int) < 80 then ((spec_RowPut.f k x1113000 x1113001 x1113002 (⟨#[]⟩ : ByteArray) (⟨#[]⟩ : ByteArray) 0 0).bind fun bt1140 => (spec_l3Draw.l0 k x1000 x1001 x1002 bt1140.1 bt1140.2.1 bt1140.2.2.1)) else (some (x1113000, x1113001, x1113002, x1001, x1002))
def spec_l3Draw.f (k : Nat) (s0_0 : List Int) (s0_1 : Int) (s0_2 : Int) : Option (Int × Int × (List (S_Item)) × Int × Int) := (spec_l3DrawRight.f k s0_0 s0_1 s0_2).bind fun bt1105 => ((spec_l1Below.f s0_0 bt1105.2.2.2.1 bt1105.2.2.2.2 14).bind fun bt1113 => (if bt1113.1 = 0 then ((spec_l1PickInt.f s0_0 bt1113.2.1 bt1113.2.2 (([(-1), 0, 1, 99] : List Int))).bind fun bt1119 => (some (bt1119.1, bt1105.2.1, bt1105.2.2.1, bt1119.2.1, bt1119.2.2))) else (if bt1113.1 = 1 then ((spec_l1PickInt.f s0_0 bt1113.2.1 bt1113.2.2 (([0, 3, 100000, 100001] : List Int))).bind fun bt1125 => (some (bt1105.1, bt1125.1, bt1105.2.2.1, bt1125.2.1, bt1125.2.2))) else (if bt1113.1 = 2 then ((spec_l1Below.f s0_0 bt1113.2.1 bt1113.2.2 20).bind fun bt1128 => ((spec_l1Pick.f s0_0 bt1128.2.1 bt1128.2.2 (([(⟨#[97]⟩ : ByteArray), (⟨#[65]⟩ : ByteArray)] : List ByteArray))).bind fun bt1134 => (if bt1105.2.2.1.length < 2513169434916 then (some (bt1105.1, bt1105.2.1, (bt1105.2.2.1 ++ [(⟨bt1128.1, bt1134.1, (⟨#[]⟩ : ByteArray), 0, 0⟩ : S_Item)]), bt1134.2.1, bt1134.2.2)) else (none)))) else (if bt1113.1 = 3 then (spec_l3Draw.l0 k s0_0 bt1113.2.1 bt1113.2.2 bt1105.1 bt1105.2.1 bt1105.2.2.1) else (some (bt1105.1, bt1105.2.1, bt1105.2.2.1, bt1113.2.1, bt1113.2.2)))))))
theorem spec_l3Draw.mono_l : ∀ k, (∀ y0 y1 y2 y3 y4 y5, LeO (spec_l3Draw.l0 k y0 y1 y2 y3 y4 y5) (spec_l3Draw.l0 (k + 1) y0 y1 y2 y3 y4 y5))
 | 0 => fun _ _ _ _ _ _ r h => by simp [spec_l3Draw.l0] at h
 | k + 1 => by
  have ih0 := spec_l3Draw.mono_l k
  ·
   intro y0 y1 y2 y3 y4 y5
   unfold spec_l3Draw.l0
   exact qeh1_
theorem spec_l3Draw.mono : ∀ a0 a1 a2 k, LeO (spec_l3Draw.f k a0 a1 a2) (spec_l3Draw.f (k + 1) a0 a1 a2) := by
 intro a0 a1 a2 k
 have ih0 := spec_l3Draw.mono_l k
 unfold spec_l3Draw.f
 exact qeh1_
def spec_l3Draw.T8 : Bool × List (List Nat × List Nat) := (true, [([], []), ([0], [0]), ([], []), ([2], [2]), ([], []), ([], []), ([4, 5, 3], [4, 5]), ([3, 6], [3, 6]), ([7], [7]), ([1, 8, 6], [1, 8]), ([0, 1, 2, 3, 4, 5, 6, 7, 8, 9], []), ([10, 9, 9, 0, 1, 2, 3, 4, 5, 6, 7, 8, 9], [9, 10])])
def spec_l3Draw.B8 : List Nat := [0, 1, 0, 4, 0, 0, 60, 124, 252, 511, 1023, 2047]
theorem spec_l3Draw.tab8 : rtab .any (opsOf Try.f51 8) = spec_l3Draw.T8 := by kernel_rfl
theorem spec_l3Draw.bits8 : waitsOk spec_l3Draw.T8.2 spec_l3Draw.B8 = true := by kernel_rfl
set_option maxHeartbeats 8000000 in
set_option maxRecDepth 100000 in
theorem spec_l3Draw.calls (k : Nat) (g : Nat) (s0_0 : List Int) (s0_1 : Int) (s0_2 : Int) (r1 : Int) (r2 : Int) (r3 : List (S_Item)) (r4 : Int) (r5 : Int) (w0 w : World) (hI : IsS_l1Cur w0 w g s0_0 s0_1 s0_2) (hB : Below w0.heap.size w0 w) (h : spec_l3Draw.f k s0_0 s0_1 s0_2 = some (r1, r2, r3, r4, r5)) :
 Calls Try.prog 51 #[.pointer (some ⟨g, 0, none⟩)] w fun e w' => ∃ v2_ : Value, e = .returned (.agg #[.int .i64 r1, .int .i64 r2, v2_]) ∧ Kd.R k_Item 33 w' w.heap.size (fun _ => True) v2_ r3 ∧ IsS_l1Cur w0 w' g s0_0 r4 r5 ∧ Below w0.heap.size w0 w' ∧ KeepBut w w' g none := by
 have hu26 := Try.underlying26
 have hu33 := Try.underlying33
 have HI0 := Aside0.mk hI
 have HK := Aside0.mk (KeepBut.refl w g none)
 have HL := Aside0.mk hB.size
 clear hI
 have HW0 := Aside0.mk hB.size
 have HB := Aside0.mk hB
 clear hB
 have H : ((spec_l3DrawRight.f k s0_0 s0_1 s0_2).bind fun bt1105 => ((spec_l1Below.f s0_0 bt1105.2.2.2.1 bt1105.2.2.2.2 14).bind fun bt1113 => (if bt1113.1 = 0 then ((spec_l1PickInt.f s0_0 bt1113.2.1 bt1113.2.2 (([(-1), 0, 1, 99] : List Int))).bind fun bt1119 => (some (bt1119.1, bt1105.2.1, bt1105.2.2.1, bt1119.2.1, bt1119.2.2))) else (if bt1113.1 = 1 then ((spec_l1PickInt.f s0_0 bt1113.2.1 bt1113.2.2 (([0, 3, 100000, 100001] : List Int))).bind fun bt1125 => (some (bt1105.1, bt1125.1, bt1105.2.2.1, bt1125.2.1, bt1125.2.2))) else (if bt1113.1 = 2 then ((spec_l1Below.f s0_0 bt1113.2.1 bt1113.2.2 20).bind fun bt1128 => ((spec_l1Pick.f s0_0 bt1128.2.1 bt1128.2.2 (([(⟨#[97]⟩ : ByteArray), (⟨#[65]⟩ : ByteArray)] : List ByteArray))).bind fun bt1134 => (if bt1105.2.2.1.length < 2513169434916 then (some (bt1105.1, bt1105.2.1, (bt1105.2.2.1 ++ [(⟨bt1128.1, bt1134.1, (⟨#[]⟩ : ByteArray), 0, 0⟩ : S_Item)]), bt1134.2.1, bt1134.2.2)) else (none)))) else (if bt1113.1 = 3 then (spec_l3Draw.l0 k s0_0 bt1113.2.1 bt1113.2.2 bt1105.1 bt1105.2.1 bt1105.2.2.1) else (some (bt1105.1, bt1105.2.1, bt1105.2.2.1, bt1113.2.1, bt1113.2.2)))))))) = some (r1, r2, r3, r4, r5) := h
 clear h
 replace H := Option.bind_eq_some_iff.mp H
 obtain ⟨⟨t1105, t1106, t1107, t1110, t1111⟩, A20, H⟩ := H
 replace H : ((spec_l1Below.f s0_0 t1110 t1111 14).bind fun bt1113 => (if bt1113.1 = 0 then ((spec_l1PickInt.f s0_0 bt1113.2.1 bt1113.2.2 (([(-1), 0, 1, 99] : List Int))).bind fun bt1119 => (some (bt1119.1, t1106, t1107, bt1119.2.1, bt1119.2.2))) else (if bt1113.1 = 1 then ((spec_l1PickInt.f s0_0 bt1113.2.1 bt1113.2.2 (([0, 3, 100000, 100001] : List Int))).bind fun bt1125 => (some (t1105, bt1125.1, t1107, bt1125.2.1, bt1125.2.2))) else (if bt1113.1 = 2 then ((spec_l1Below.f s0_0 bt1113.2.1 bt1113.2.2 20).bind fun bt1128 => ((spec_l1Pick.f s0_0 bt1128.2.1 bt1128.2.2 (([(⟨#[97]⟩ : ByteArray), (⟨#[65]⟩ : ByteArray)] : List ByteArray))).bind fun bt1134 => (if t1107.length < 2513169434916 then (some (t1105, t1106, (t1107 ++ [(⟨bt1128.1, bt1134.1, (⟨#[]⟩ : ByteArray), 0, 0⟩ : S_Item)]), bt1134.2.1, bt1134.2.2)) else (none)))) else (if bt1113.1 = 3 then (spec_l3Draw.l0 k s0_0 bt1113.2.1 bt1113.2.2 t1105 t1106 t1107) else (some (t1105, t1106, t1107, bt1113.2.1, bt1113.2.2))))))) = some (r1, r2, r3, r4, r5) := H
 have A2 := Aside0.mk A20
 clear A20
 replace H := Option.bind_eq_some_iff.mp H
 obtain ⟨⟨t1113, t1114, t1115⟩, A30, H⟩ := H
 replace H : (if t1113 = 0 then ((spec_l1PickInt.f s0_0 t1114 t1115 (([(-1), 0, 1, 99] : List Int))).bind fun bt1119 => (some (bt1119.1, t1106, t1107, bt1119.2.1, bt1119.2.2))) else (if t1113 = 1 then ((spec_l1PickInt.f s0_0 t1114 t1115 (([0, 3, 100000, 100001] : List Int))).bind fun bt1125 => (some (t1105, bt1125.1, t1107, bt1125.2.1, bt1125.2.2))) else (if t1113 = 2 then ((spec_l1Below.f s0_0 t1114 t1115 20).bind fun bt1128 => ((spec_l1Pick.f s0_0 bt1128.2.1 bt1128.2.2 (([(⟨#[97]⟩ : ByteArray), (⟨#[65]⟩ : ByteArray)] : List ByteArray))).bind fun bt1134 => (if t1107.length < 2513169434916 then (some (t1105, t1106, (t1107 ++ [(⟨bt1128.1, bt1134.1, (⟨#[]⟩ : ByteArray), 0, 0⟩ : S_Item)]), bt1134.2.1, bt1134.2.2)) else (none)))) else (if t1113 = 3 then (spec_l3Draw.l0 k s0_0 t1114 t1115 t1105 t1106 t1107) else (some (t1105, t1106, t1107, t1114, t1115)))))) = some (r1, r2, r3, r4, r5) := H
 have A3 := Aside0.mk A30
 clear A30
 by_cases c4 : t1113 = 0
 ·
  rw [if_pos c4] at H
  have c4b0 : (t1113 == 0) = true := beq_iff_eq.mpr c4
  have c4b1 : (t1113 != 0) = false := bne_eq_false_iff_eq.mpr c4
  clear c4
  obtain ⟨y1116, hy1116⟩ : ∃ y_ : List Int, y_ = (([(-1), 0, 1, 99] : List Int)) := ⟨_, rfl⟩
  replace H : ((spec_l1PickInt.f s0_0 t1114 t1115 y1116).bind fun bt1119 => (some (bt1119.1, t1106, t1107, bt1119.2.1, bt1119.2.2))) = some (r1, r2, r3, r4, r5) := by first | (rw [hy1116]; with_reducible exact H) | (have H2_ := (Option.bind_some _ _).symm.trans H; rw [hy1116]; with_reducible exact H2_) | (have H2_ := (Option.bind_some _ _).symm.trans H; with_reducible exact H2_) | with_reducible exact H | (rw [hy1116]; exact H) | exact H
  have Ny1116 := Aside0.mk hy1116
  clear hy1116
  replace H := Option.bind_eq_some_iff.mp H
  obtain ⟨⟨t1119, t1120, t1121⟩, A50, H⟩ := H
  replace H : (some (t1119, t1106, t1107, t1120, t1121)) = some (r1, r2, r3, r4, r5) := H
  have A5 := Aside0.mk A50
  clear A50
  simp only [Option.some.injEq, Prod.mk.injEq] at H
  obtain ⟨rfl, rfl, rfl, rfl, rfl⟩ := H
  go_enter Try.func51, Try.ntmps51
  go_wp2_with (first | ((with_reducible refine gate_dst (N := 2) rfl ?_); refine box_event ?hg (N := 2) ?hd (cs := #[.int .i64 0, .int .i64 0, .slice none 0 0]) (t := 26) ?hr ?_; (case hd => rfl); (case hg => rfl); (case hr => first | (go_simp; done) | (go_simp; rfl)); intro gb1104 hg w6 hbox hb; have BK1104 := Aside0.mk (hbox); have GW1104 := Aside0.mk ((by rw [hg]; exact (keep_size (w := w) (g := g) (row := none) (hk_ HK.out)) : w.heap.size ≤ gb1104)); have GE1104 := Aside0.mk ((Nat.le_trans HW0.out (by rw [hg]; exact (keep_size (w := w) (g := g) (row := none) (hk_ HK.out)) : w.heap.size ≤ gb1104) : w0.heap.size ≤ gb1104)); have NB0_1104 := Aside0.mk ((by rw [hg]; exact Nat.ne_of_lt (IsS_l1Cur.lt (show IsS_l1Cur w0 _ g s0_0 s0_1 s0_2 from is_l1Cur_ HI0.out)) : g ≠ gb1104)); have NB1104_0 := Aside0.mk ((by rw [hg]; exact Nat.ne_of_gt (IsS_l1Cur.lt (show IsS_l1Cur w0 _ g s0_0 s0_1 s0_2 from is_l1Cur_ HI0.out)) : gb1104 ≠ g)); replace HI0 := Aside0.mk (IsS_l1Cur.below (is_l1Cur_ HI0.out) hb); replace HK := Aside0.mk (KeepBut.trans (hk_ HK.out) (KeepBut.of_below hb g none) (.inl rfl)); replace HB := Aside0.mk (below_step (hi_ HB.out) hb); clear hb hbox hg) | ((with_reducible refine gate_callee (f := 96) rfl ?_); refine goesL_ (some 5) rfl rfl Try.func96 (by kernel_rfl) rfl #[.pointer (some ⟨g, 0, none⟩)] rfl sm_ ?_; (with_reducible refine (spec_l3DrawRight.calls k g s0_0 s0_1 s0_2 t1105 t1106 t1107 t1110 t1111 w0 _ ?side1 ?side2 A2.out).mono ?_); (case side1 => repeat (first | (with_reducible first | exact HI0.out | apply IsS_l1Cur.alloc | apply IsS_l1Cur.drewN | apply IsS_l1Cur.drew | apply IsS_l1Cur.set_1 | apply IsS_l1Cur.set_2 | refine IsS_l1Cur.far ?_ NB0_1104.out _) | exact HI0.out)); (case side2 => repeat (first | (with_reducible first | exact HB.out | apply below_alloc | apply pw_below_drewN | apply below_drew1 | refine below_set ?_ (IsS_l1Cur.ge HI0.out) | refine below_set ?_ GE1104.out) | exact HB.out)); rintro e w7 ⟨v1108, rfl, ho0, hi, hb, hk⟩; refine ⟨_, rfl, ?_⟩; have HO1109 := Aside0.mk (Kd.R_lower ho0 (keep_size (w := w) (g := g) (row := none) (hk_ HK.out))); replace BK1104 := Aside0.mk (KeepBut.blk hk (g' := gb1104) (o := .cells #[.int .i64 0, .int .i64 0, .slice none 0 0] 26 (0, 0)) (bq_ BK1104.out) NB1104_0.out (by simp)); replace HK := Aside0.mk (KeepBut.trans (hk_ HK.out) hk (.inl rfl)); replace HB := Aside0.mk (hb); replace HI0 := Aside0.mk (hi); (try clear hb); (try clear hb2); (try clear hk); (try clear hi); (try clear ho0)) | ((with_reducible refine gate_dst (N := 3) rfl ?_); refine box_event ?hg (N := 3) ?hd (cs := #[.int .i64 0, .int .i64 0, .slice none 0 0]) (t := 26) ?hr ?_; (case hd => rfl); (case hg => rfl); (case hr => first | (go_simp; done) | (go_simp; rfl)); intro gb1112 hg w8 hbox hb; have BK1112 := Aside0.mk (hbox); have GW1112 := Aside0.mk ((by rw [hg]; exact (keep_size (w := w) (g := g) (row := none) (hk_ HK.out)) : w.heap.size ≤ gb1112)); have GE1112 := Aside0.mk ((Nat.le_trans HW0.out (by rw [hg]; exact (keep_size (w := w) (g := g) (row := none) (hk_ HK.out)) : w.heap.size ≤ gb1112) : w0.heap.size ≤ gb1112)); have NB1104_1112 := cn_ BK1104 hg; have NB1112_1104 := cm_ BK1104 hg; have NB0_1112 := Aside0.mk ((by rw [hg]; exact Nat.ne_of_lt (IsS_l1Cur.lt (show IsS_l1Cur w0 _ g s0_0 t1110 t1111 from is_l1Cur_ HI0.out)) : g ≠ gb1112)); have NB1112_0 := Aside0.mk ((by rw [hg]; exact Nat.ne_of_gt (IsS_l1Cur.lt (show IsS_l1Cur w0 _ g s0_0 t1110 t1111 from is_l1Cur_ HI0.out)) : gb1112 ≠ g)); replace HO1109 := cr_ HO1109 hb; replace HI0 := Aside0.mk (IsS_l1Cur.below (is_l1Cur_ HI0.out) hb); replace BK1104 := cb_ BK1104 hb; replace HK := Aside0.mk (KeepBut.trans (hk_ HK.out) (KeepBut.of_below hb g none) (.inl rfl)); replace HB := Aside0.mk (below_step (hi_ HB.out) hb); clear hb hbox hg; have hnb9 := NB1112_1104.out; have hnc9 := NB1104_1112.out; have hnb10 := NB1112_0.out; have hnc10 := NB0_1112.out; have hcz11_0 : w8.cell? ⟨gb1112, 0, none⟩ = some (.int .i64 0) := bc_ BK1112 0; have hcz11_1 : w8.cell? ⟨gb1112, 1, none⟩ = some (.int .i64 0) := bc_ BK1112 1; have hcz11_2 : w8.cell? ⟨gb1112, 2, none⟩ = some (.slice none 0 0) := bc_ BK1112 2; have hfz11_0 := blk_frozen BK1112.out 0; have hfz11_1 := blk_frozen BK1112.out 1; have hfz11_2 := blk_frozen BK1112.out 2; obtain ⟨Ao12, co12, eo12⟩ := Kd.R_slice HO1109.out; subst eo12) | ((with_reducible refine gate_callee (f := 76) rfl ?_); refine goesL_ (some 7) rfl rfl Try.func76 (by kernel_rfl) rfl #[.pointer (some ⟨g, 0, none⟩), .int .i64 14] rfl sm_ ?_; (with_reducible refine (spec_l1Below.calls g s0_0 t1110 t1111 14 t1113 t1114 t1115 w0 _ ?side1 ?side2 A3.out).mono ?_); (case side1 => repeat (first | (with_reducible first | exact HI0.out | apply IsS_l1Cur.alloc | apply IsS_l1Cur.drewN | apply IsS_l1Cur.drew | apply IsS_l1Cur.set_1 | apply IsS_l1Cur.set_2 | refine IsS_l1Cur.far ?_ NB0_1104.out _ | refine IsS_l1Cur.far ?_ NB0_1112.out _) | exact HI0.out)); (case side2 => repeat (first | (with_reducible first | exact HB.out | apply below_alloc | apply pw_below_drewN | apply below_drew1 | refine below_set ?_ (IsS_l1Cur.ge HI0.out) | refine below_set ?_ GE1104.out | refine below_set ?_ GE1112.out) | exact HB.out)); rintro e w13 ⟨rfl, hi, hb, hk⟩; refine ⟨_, rfl, ?_⟩; replace BK1104 := Aside0.mk (KeepBut.blk hk (g' := gb1104) (o := .cells #[.int .i64 0, .int .i64 0, .slice none 0 0] 26 (0, 0)) (bf_ NB1104_1112.out BK1104.out) NB1104_0.out (by simp)); replace HO1109 := Aside0.mk (Kd.R_mono (Kd.R_keep (IsS_l1Cur.apart (show IsS_l1Cur w0 _ g s0_0 t1110 t1111 from is_l1Cur_ HI0.out) (rk_ HO1109.out BK1112.out) (by decide)) hk (fun _ h => h.2)) (fun _ h => h.1)); replace BK1112 := Aside0.mk (KeepBut.blk hk (g' := gb1112) (o := .cells #[.int .i64 t1105, .int .i64 t1106, .slice Ao12 t1107.length co12] 26 (0, 0)) (bp_ BK1112.out) NB1112_0.out (by simp)); replace HK := Aside0.mk (KeepBut.trans (hk_ HK.out) hk (.inl rfl)); replace HB := Aside0.mk (hb); replace HI0 := Aside0.mk (hi); (try clear hb); (try clear hb2); (try clear hk); (try clear hi)) | ((with_reducible refine gate_dst (N := 11) rfl ?_); refine Kd.R_lit (Kd.int .i64) _ 3 ?hg (N := 11) ?hd (xs := ([(-1), 0, 1, 99] : List Int)) (inner := [.int .i64 (-1), .int .i64 0, .int .i64 1, .int .i64 99]) (ok := fun _ => True) (okp := fun _ => True) ?hr ?hp (fun _ hk => hk) trivial (Below.refl _ _) (Nat.le_refl _) (by simp) ?_; (case hd => rfl); (case hg => rfl); (case hr => first | (go_simp; done) | (go_simp; rfl)); (case hp => exact (Reps.one (show Kd.M (Kd.int .i64) _ _ _ (-1) [.int .i64 (-1)] from rfl) (Reps.one (show Kd.M (Kd.int .i64) _ _ _ 0 [.int .i64 0] from rfl) (Reps.one (show Kd.M (Kd.int .i64) _ _ _ 1 [.int .i64 1] from rfl) (Reps.one (show Kd.M (Kd.int .i64) _ _ _ 99 [.int .i64 99] from rfl) (Reps.none _ _)))))); intro v1117 w14 ho15 hb hg_ hnew_; clear hg_ hnew_; (first | rw [← Ny1116.out] at ho15 | (simp only [Int.reduceToNat] at ho15; rw [← Ny1116.out] at ho15)); have HO1118 := Aside0.mk (Kd.R_lower ho15 (keep_size (w := w) (g := g) (row := none) (hk_ HK.out))); replace HO1109 := cr_ HO1109 hb; replace HI0 := Aside0.mk (IsS_l1Cur.below (is_l1Cur_ HI0.out) hb); replace BK1104 := cb_ BK1104 hb; replace BK1112 := cb_ BK1112 hb; replace HK := Aside0.mk (KeepBut.trans (hk_ HK.out) (KeepBut.of_below hb g none) (.inl rfl)); replace HB := Aside0.mk (below_step (hi_ HB.out) hb); clear hb ho15; obtain ⟨Ao16, co16, eo16⟩ := Kd.R_slice HO1118.out; subst eo16) | ((with_reducible refine gate_callee (f := 52) rfl ?_); refine goesL_ (some 12) rfl rfl Try.func52 (by kernel_rfl) rfl #[.pointer (some ⟨g, 0, none⟩), .slice Ao16 y1116.length co16] rfl sm_ ?_; (with_reducible refine (spec_l1PickInt.calls g s0_0 t1114 t1115 _ _ y1116 t1119 t1120 t1121 w0 _ ?side1 ?side2 ?side3 ?side4 ?side5 A5.out).mono ?_); (case side1 => repeat (first | (with_reducible first | exact HI0.out | apply IsS_l1Cur.alloc | apply IsS_l1Cur.drewN | apply IsS_l1Cur.drew | apply IsS_l1Cur.set_1 | apply IsS_l1Cur.set_2 | refine IsS_l1Cur.far ?_ NB0_1104.out _ | refine IsS_l1Cur.far ?_ NB0_1112.out _) | exact HI0.out)); (case side2 => repeat (first | (with_reducible first | exact HB.out | apply below_alloc | apply pw_below_drewN | apply below_drew1 | refine below_set ?_ (IsS_l1Cur.ge HI0.out) | refine below_set ?_ GE1104.out | refine below_set ?_ GE1112.out) | exact HB.out)); (case side3 => repeat (first | exact (Kd.R_reads' HO1118.out).2.2 | (with_reducible refine Kd.C_alloc ?_ _) | (with_reducible refine Kd.C_drewN ?_ _) | (with_reducible refine Kd.C_drew ?_))); (case side4 => exact (Kd.R_reads' HO1118.out).2.1); (case side5 => exact far_slice (IsS_l1Cur.own_ne HI0.out HO1118.out (by decide))); rintro e w17 ⟨rfl, hi, hb, hk⟩; refine ⟨_, rfl, ?_⟩; replace BK1104 := Aside0.mk (KeepBut.blk hk (g' := gb1104) (o := .cells #[.int .i64 0, .int .i64 0, .slice none 0 0] 26 (0, 0)) (bq_ BK1104.out) NB1104_0.out (by simp)); replace HO1109 := Aside0.mk (Kd.R_mono (Kd.R_keep (IsS_l1Cur.apart (show IsS_l1Cur w0 _ g s0_0 t1114 t1115 from is_l1Cur_ HI0.out) (rq_ HO1109.out) (by decide)) hk (fun _ h => h.2)) (fun _ h => h.1)); replace BK1112 := Aside0.mk (KeepBut.blk hk (g' := gb1112) (o := .cells #[.int .i64 t1105, .int .i64 t1106, .slice Ao12 t1107.length co12] 26 (0, 0)) (bq_ BK1112.out) NB1112_0.out (by simp)); replace HO1118 := Aside0.mk (Kd.R_mono (Kd.R_keep (IsS_l1Cur.apart (show IsS_l1Cur w0 _ g s0_0 t1114 t1115 from is_l1Cur_ HI0.out) (rq_ HO1118.out) (by decide)) hk (fun _ h => h.2)) (fun _ h => h.1)); replace HK := Aside0.mk (KeepBut.trans (hk_ HK.out) hk (.inl rfl)); replace HB := Aside0.mk (hb); replace HI0 := Aside0.mk (hi); (try clear hb); (try clear hb2); (try clear hk); (try clear hi); have hcz18_0 : w17.cell? ⟨gb1112, 0, none⟩ = some (.int .i64 t1105) := bc_ BK1112 0; have hcz18_1 : w17.cell? ⟨gb1112, 1, none⟩ = some (.int .i64 t1106) := bc_ BK1112 1; have hcz18_2 : w17.cell? ⟨gb1112, 2, none⟩ = some (.slice Ao12 t1107.length co12) := bc_ BK1112 2; have hfz18_0 := blk_frozen BK1112.out 0; have hfz18_1 := blk_frozen BK1112.out 1; have hfz18_2 := blk_frozen BK1112.out 2; have hnb19 := NB1104_0.out; have hnc19 := NB0_1104.out; have hcz20_0 : w17.cell? ⟨gb1104, 0, none⟩ = some (.int .i64 0) := bc_ BK1104 0; have hcz20_1 : w17.cell? ⟨gb1104, 1, none⟩ = some (.int .i64 0) := bc_ BK1104 1; have hcz20_2 : w17.cell? ⟨gb1104, 2, none⟩ = some (.slice none 0 0) := bc_ BK1104 2; have hfz20_0 := blk_frozen BK1104.out 0; have hfz20_1 := blk_frozen BK1104.out 1; have hfz20_2 := blk_frozen BK1104.out 2))
  refine bodyPost_ret (results_cell_row rfl _ _ gb1104 26 #[.int .i64 t1119, .int .i64 t1106, .slice Ao12 t1107.length co12] (0, 0) _ rfl (by_ BK1104.out) Try.underlying26 rfl (by kernel_rfl)) rfl ?_
  exact ⟨_, er_, by (with_reducible repeat (first | apply Kd.R_alloc | apply Kd.R_drewN | apply Kd.R_drew)); exact Kd.R_mono (Kd.R_far (p := ⟨gb1104, 2, none⟩) (Kd.R_far (p := ⟨gb1104, 1, none⟩) (Kd.R_far (p := ⟨gb1104, 0, none⟩) (Kd.R_far (p := ⟨gb1112, 0, none⟩) (Kd.R_types (Kd.R_types HO1109.out BK1112.out (by decide)) BK1104.out (by decide)) (fun _ hk => hk.1.2) (.int .i64 t1119)) (fun _ hk => hk.2) (.int .i64 t1119)) (fun _ hk => hk.2) (.int .i64 t1106)) (fun _ hk => hk.2) (.slice Ao12 t1107.length co12)) (fun _ hk => trivial), is_l1Cur_ HI0.out, qe0_, qe1_⟩
 ·
  rw [if_neg c4] at H
  have c4b0 : (t1113 == 0) = false := beq_eq_false_iff_ne.mpr c4
  have c4b1 : (t1113 != 0) = true := bne_iff_ne.mpr c4
  by_cases c21 : t1113 = 1
  ·
   rw [if_pos c21] at H
   have c21b0 : (t1113 == 1) = true := beq_iff_eq.mpr c21
   have c21b1 : (t1113 != 1) = false := bne_eq_false_iff_eq.mpr c21
   clear c21
   obtain ⟨y1122, hy1122⟩ : ∃ y_ : List Int, y_ = (([0, 3, 100000, 100001] : List Int)) := ⟨_, rfl⟩
   replace H : ((spec_l1PickInt.f s0_0 t1114 t1115 y1122).bind fun bt1125 => (some (t1105, bt1125.1, t1107, bt1125.2.1, bt1125.2.2))) = some (r1, r2, r3, r4, r5) := by first | (rw [hy1122]; with_reducible exact H) | (have H2_ := (Option.bind_some _ _).symm.trans H; rw [hy1122]; with_reducible exact H2_) | (have H2_ := (Option.bind_some _ _).symm.trans H; with_reducible exact H2_) | with_reducible exact H | (rw [hy1122]; exact H) | exact H
   have Ny1122 := Aside0.mk hy1122
   clear hy1122
   replace H := Option.bind_eq_some_iff.mp H
   obtain ⟨⟨t1125, t1126, t1127⟩, A220, H⟩ := H
   replace H : (some (t1105, t1125, t1107, t1126, t1127)) = some (r1, r2, r3, r4, r5) := H
   have A22 := Aside0.mk A220
   clear A220
   simp only [Option.some.injEq, Prod.mk.injEq] at H
   obtain ⟨rfl, rfl, rfl, rfl, rfl⟩ := H
   go_enter Try.func51, Try.ntmps51
   go_wp2_with (first | ((with_reducible refine gate_dst (N := 2) rfl ?_); refine box_event ?hg (N := 2) ?hd (cs := #[.int .i64 0, .int .i64 0, .slice none 0 0]) (t := 26) ?hr ?_; (case hd => rfl); (case hg => rfl); (case hr => first | (go_simp; done) | (go_simp; rfl)); intro gb1104 hg w23 hbox hb; have BK1104 := Aside0.mk (hbox); have GW1104 := Aside0.mk ((by rw [hg]; exact (keep_size (w := w) (g := g) (row := none) (hk_ HK.out)) : w.heap.size ≤ gb1104)); have GE1104 := Aside0.mk ((Nat.le_trans HW0.out (by rw [hg]; exact (keep_size (w := w) (g := g) (row := none) (hk_ HK.out)) : w.heap.size ≤ gb1104) : w0.heap.size ≤ gb1104)); have NB0_1104 := Aside0.mk ((by rw [hg]; exact Nat.ne_of_lt (IsS_l1Cur.lt (show IsS_l1Cur w0 _ g s0_0 s0_1 s0_2 from is_l1Cur_ HI0.out)) : g ≠ gb1104)); have NB1104_0 := Aside0.mk ((by rw [hg]; exact Nat.ne_of_gt (IsS_l1Cur.lt (show IsS_l1Cur w0 _ g s0_0 s0_1 s0_2 from is_l1Cur_ HI0.out)) : gb1104 ≠ g)); replace HI0 := Aside0.mk (IsS_l1Cur.below (is_l1Cur_ HI0.out) hb); replace HK := Aside0.mk (KeepBut.trans (hk_ HK.out) (KeepBut.of_below hb g none) (.inl rfl)); replace HB := Aside0.mk (below_step (hi_ HB.out) hb); clear hb hbox hg) | ((with_reducible refine gate_callee (f := 96) rfl ?_); refine goesL_ (some 5) rfl rfl Try.func96 (by kernel_rfl) rfl #[.pointer (some ⟨g, 0, none⟩)] rfl sm_ ?_; (with_reducible refine (spec_l3DrawRight.calls k g s0_0 s0_1 s0_2 t1105 t1106 t1107 t1110 t1111 w0 _ ?side1 ?side2 A2.out).mono ?_); (case side1 => repeat (first | (with_reducible first | exact HI0.out | apply IsS_l1Cur.alloc | apply IsS_l1Cur.drewN | apply IsS_l1Cur.drew | apply IsS_l1Cur.set_1 | apply IsS_l1Cur.set_2 | refine IsS_l1Cur.far ?_ NB0_1104.out _) | exact HI0.out)); (case side2 => repeat (first | (with_reducible first | exact HB.out | apply below_alloc | apply pw_below_drewN | apply below_drew1 | refine below_set ?_ (IsS_l1Cur.ge HI0.out) | refine below_set ?_ GE1104.out) | exact HB.out)); rintro e w24 ⟨v1108, rfl, ho0, hi, hb, hk⟩; refine ⟨_, rfl, ?_⟩; have HO1109 := Aside0.mk (Kd.R_lower ho0 (keep_size (w := w) (g := g) (row := none) (hk_ HK.out))); replace BK1104 := Aside0.mk (KeepBut.blk hk (g' := gb1104) (o := .cells #[.int .i64 0, .int .i64 0, .slice none 0 0] 26 (0, 0)) (bq_ BK1104.out) NB1104_0.out (by simp)); replace HK := Aside0.mk (KeepBut.trans (hk_ HK.out) hk (.inl rfl)); replace HB := Aside0.mk (hb); replace HI0 := Aside0.mk (hi); (try clear hb); (try clear hb2); (try clear hk); (try clear hi); (try clear ho0)) | ((with_reducible refine gate_dst (N := 3) rfl ?_); refine box_event ?hg (N := 3) ?hd (cs := #[.int .i64 0, .int .i64 0, .slice none 0 0]) (t := 26) ?hr ?_; (case hd => rfl); (case hg => rfl); (case hr => first | (go_simp; done) | (go_simp; rfl)); intro gb1112 hg w25 hbox hb; have BK1112 := Aside0.mk (hbox); have GW1112 := Aside0.mk ((by rw [hg]; exact (keep_size (w := w) (g := g) (row := none) (hk_ HK.out)) : w.heap.size ≤ gb1112)); have GE1112 := Aside0.mk ((Nat.le_trans HW0.out (by rw [hg]; exact (keep_size (w := w) (g := g) (row := none) (hk_ HK.out)) : w.heap.size ≤ gb1112) : w0.heap.size ≤ gb1112)); have NB1104_1112 := cn_ BK1104 hg; have NB1112_1104 := cm_ BK1104 hg; have NB0_1112 := Aside0.mk ((by rw [hg]; exact Nat.ne_of_lt (IsS_l1Cur.lt (show IsS_l1Cur w0 _ g s0_0 t1110 t1111 from is_l1Cur_ HI0.out)) : g ≠ gb1112)); have NB1112_0 := Aside0.mk ((by rw [hg]; exact Nat.ne_of_gt (IsS_l1Cur.lt (show IsS_l1Cur w0 _ g s0_0 t1110 t1111 from is_l1Cur_ HI0.out)) : gb1112 ≠ g)); replace HO1109 := cr_ HO1109 hb; replace HI0 := Aside0.mk (IsS_l1Cur.below (is_l1Cur_ HI0.out) hb); replace BK1104 := cb_ BK1104 hb; replace HK := Aside0.mk (KeepBut.trans (hk_ HK.out) (KeepBut.of_below hb g none) (.inl rfl)); replace HB := Aside0.mk (below_step (hi_ HB.out) hb); clear hb hbox hg; have hnb26 := NB1112_1104.out; have hnc26 := NB1104_1112.out; have hnb27 := NB1112_0.out; have hnc27 := NB0_1112.out; have hcz28_0 : w25.cell? ⟨gb1112, 0, none⟩ = some (.int .i64 0) := bc_ BK1112 0; have hcz28_1 : w25.cell? ⟨gb1112, 1, none⟩ = some (.int .i64 0) := bc_ BK1112 1; have hcz28_2 : w25.cell? ⟨gb1112, 2, none⟩ = some (.slice none 0 0) := bc_ BK1112 2; have hfz28_0 := blk_frozen BK1112.out 0; have hfz28_1 := blk_frozen BK1112.out 1; have hfz28_2 := blk_frozen BK1112.out 2; obtain ⟨Ao29, co29, eo29⟩ := Kd.R_slice HO1109.out; subst eo29) | ((with_reducible refine gate_callee (f := 76) rfl ?_); refine goesL_ (some 7) rfl rfl Try.func76 (by kernel_rfl) rfl #[.pointer (some ⟨g, 0, none⟩), .int .i64 14] rfl sm_ ?_; (with_reducible refine (spec_l1Below.calls g s0_0 t1110 t1111 14 t1113 t1114 t1115 w0 _ ?side1 ?side2 A3.out).mono ?_); (case side1 => repeat (first | (with_reducible first | exact HI0.out | apply IsS_l1Cur.alloc | apply IsS_l1Cur.drewN | apply IsS_l1Cur.drew | apply IsS_l1Cur.set_1 | apply IsS_l1Cur.set_2 | refine IsS_l1Cur.far ?_ NB0_1104.out _ | refine IsS_l1Cur.far ?_ NB0_1112.out _) | exact HI0.out)); (case side2 => repeat (first | (with_reducible first | exact HB.out | apply below_alloc | apply pw_below_drewN | apply below_drew1 | refine below_set ?_ (IsS_l1Cur.ge HI0.out) | refine below_set ?_ GE1104.out | refine below_set ?_ GE1112.out) | exact HB.out)); rintro e w30 ⟨rfl, hi, hb, hk⟩; refine ⟨_, rfl, ?_⟩; replace BK1104 := Aside0.mk (KeepBut.blk hk (g' := gb1104) (o := .cells #[.int .i64 0, .int .i64 0, .slice none 0 0] 26 (0, 0)) (bf_ NB1104_1112.out BK1104.out) NB1104_0.out (by simp)); replace HO1109 := Aside0.mk (Kd.R_mono (Kd.R_keep (IsS_l1Cur.apart (show IsS_l1Cur w0 _ g s0_0 t1110 t1111 from is_l1Cur_ HI0.out) (rk_ HO1109.out BK1112.out) (by decide)) hk (fun _ h => h.2)) (fun _ h => h.1)); replace BK1112 := Aside0.mk (KeepBut.blk hk (g' := gb1112) (o := .cells #[.int .i64 t1105, .int .i64 t1106, .slice Ao29 t1107.length co29] 26 (0, 0)) (bp_ BK1112.out) NB1112_0.out (by simp)); replace HK := Aside0.mk (KeepBut.trans (hk_ HK.out) hk (.inl rfl)); replace HB := Aside0.mk (hb); replace HI0 := Aside0.mk (hi); (try clear hb); (try clear hb2); (try clear hk); (try clear hi)) | ((with_reducible refine gate_dst (N := 17) rfl ?_); refine Kd.R_lit (Kd.int .i64) _ 3 ?hg (N := 17) ?hd (xs := ([0, 3, 100000, 100001] : List Int)) (inner := [.int .i64 0, .int .i64 3, .int .i64 100000, .int .i64 100001]) (ok := fun _ => True) (okp := fun _ => True) ?hr ?hp (fun _ hk => hk) trivial (Below.refl _ _) (Nat.le_refl _) (by simp) ?_; (case hd => rfl); (case hg => rfl); (case hr => first | (go_simp; done) | (go_simp; rfl)); (case hp => exact (Reps.one (show Kd.M (Kd.int .i64) _ _ _ 0 [.int .i64 0] from rfl) (Reps.one (show Kd.M (Kd.int .i64) _ _ _ 3 [.int .i64 3] from rfl) (Reps.one (show Kd.M (Kd.int .i64) _ _ _ 100000 [.int .i64 100000] from rfl) (Reps.one (show Kd.M (Kd.int .i64) _ _ _ 100001 [.int .i64 100001] from rfl) (Reps.none _ _)))))); intro v1123 w31 ho32 hb hg_ hnew_; clear hg_ hnew_; (first | rw [← Ny1122.out] at ho32 | (simp only [Int.reduceToNat] at ho32; rw [← Ny1122.out] at ho32)); have HO1124 := Aside0.mk (Kd.R_lower ho32 (keep_size (w := w) (g := g) (row := none) (hk_ HK.out))); replace HO1109 := cr_ HO1109 hb; replace HI0 := Aside0.mk (IsS_l1Cur.below (is_l1Cur_ HI0.out) hb); replace BK1104 := cb_ BK1104 hb; replace BK1112 := cb_ BK1112 hb; replace HK := Aside0.mk (KeepBut.trans (hk_ HK.out) (KeepBut.of_below hb g none) (.inl rfl)); replace HB := Aside0.mk (below_step (hi_ HB.out) hb); clear hb ho32; obtain ⟨Ao33, co33, eo33⟩ := Kd.R_slice HO1124.out; subst eo33) | ((with_reducible refine gate_callee (f := 52) rfl ?_); refine goesL_ (some 18) rfl rfl Try.func52 (by kernel_rfl) rfl #[.pointer (some ⟨g, 0, none⟩), .slice Ao33 y1122.length co33] rfl sm_ ?_; (with_reducible refine (spec_l1PickInt.calls g s0_0 t1114 t1115 _ _ y1122 t1125 t1126 t1127 w0 _ ?side1 ?side2 ?side3 ?side4 ?side5 A22.out).mono ?_); (case side1 => repeat (first | (with_reducible first | exact HI0.out | apply IsS_l1Cur.alloc | apply IsS_l1Cur.drewN | apply IsS_l1Cur.drew | apply IsS_l1Cur.set_1 | apply IsS_l1Cur.set_2 | refine IsS_l1Cur.far ?_ NB0_1104.out _ | refine IsS_l1Cur.far ?_ NB0_1112.out _) | exact HI0.out)); (case side2 => repeat (first | (with_reducible first | exact HB.out | apply below_alloc | apply pw_below_drewN | apply below_drew1 | refine below_set ?_ (IsS_l1Cur.ge HI0.out) | refine below_set ?_ GE1104.out | refine below_set ?_ GE1112.out) | exact HB.out)); (case side3 => repeat (first | exact (Kd.R_reads' HO1124.out).2.2 | (with_reducible refine Kd.C_alloc ?_ _) | (with_reducible refine Kd.C_drewN ?_ _) | (with_reducible refine Kd.C_drew ?_))); (case side4 => exact (Kd.R_reads' HO1124.out).2.1); (case side5 => exact far_slice (IsS_l1Cur.own_ne HI0.out HO1124.out (by decide))); rintro e w34 ⟨rfl, hi, hb, hk⟩; refine ⟨_, rfl, ?_⟩; replace BK1104 := Aside0.mk (KeepBut.blk hk (g' := gb1104) (o := .cells #[.int .i64 0, .int .i64 0, .slice none 0 0] 26 (0, 0)) (bq_ BK1104.out) NB1104_0.out (by simp)); replace HO1109 := Aside0.mk (Kd.R_mono (Kd.R_keep (IsS_l1Cur.apart (show IsS_l1Cur w0 _ g s0_0 t1114 t1115 from is_l1Cur_ HI0.out) (rq_ HO1109.out) (by decide)) hk (fun _ h => h.2)) (fun _ h => h.1)); replace BK1112 := Aside0.mk (KeepBut.blk hk (g' := gb1112) (o := .cells #[.int .i64 t1105, .int .i64 t1106, .slice Ao29 t1107.length co29] 26 (0, 0)) (bq_ BK1112.out) NB1112_0.out (by simp)); replace HO1124 := Aside0.mk (Kd.R_mono (Kd.R_keep (IsS_l1Cur.apart (show IsS_l1Cur w0 _ g s0_0 t1114 t1115 from is_l1Cur_ HI0.out) (rq_ HO1124.out) (by decide)) hk (fun _ h => h.2)) (fun _ h => h.1)); replace HK := Aside0.mk (KeepBut.trans (hk_ HK.out) hk (.inl rfl)); replace HB := Aside0.mk (hb); replace HI0 := Aside0.mk (hi); (try clear hb); (try clear hb2); (try clear hk); (try clear hi); have hcz35_0 : w34.cell? ⟨gb1112, 0, none⟩ = some (.int .i64 t1105) := bc_ BK1112 0; have hcz35_1 : w34.cell? ⟨gb1112, 1, none⟩ = some (.int .i64 t1106) := bc_ BK1112 1; have hcz35_2 : w34.cell? ⟨gb1112, 2, none⟩ = some (.slice Ao29 t1107.length co29) := bc_ BK1112 2; have hfz35_0 := blk_frozen BK1112.out 0; have hfz35_1 := blk_frozen BK1112.out 1; have hfz35_2 := blk_frozen BK1112.out 2; have hnb36 := NB1104_0.out; have hnc36 := NB0_1104.out; have hcz37_0 : w34.cell? ⟨gb1104, 0, none⟩ = some (.int .i64 0) := bc_ BK1104 0; have hcz37_1 : w34.cell? ⟨gb1104, 1, none⟩ = some (.int .i64 0) := bc_ BK1104 1; have hcz37_2 : w34.cell? ⟨gb1104, 2, none⟩ = some (.slice none 0 0) := bc_ BK1104 2; have hfz37_0 := blk_frozen BK1104.out 0; have hfz37_1 := blk_frozen BK1104.out 1; have hfz37_2 := blk_frozen BK1104.out 2))
   refine bodyPost_ret (results_cell_row rfl _ _ gb1104 26 #[.int .i64 t1105, .int .i64 t1125, .slice Ao29 t1107.length co29] (0, 0) _ rfl (by_ BK1104.out) Try.underlying26 rfl (by kernel_rfl)) rfl ?_
   exact ⟨_, er_, by (with_reducible repeat (first | apply Kd.R_alloc | apply Kd.R_drewN | apply Kd.R_drew)); exact Kd.R_mono (Kd.R_far (p := ⟨gb1104, 2, none⟩) (Kd.R_far (p := ⟨gb1104, 1, none⟩) (Kd.R_far (p := ⟨gb1104, 0, none⟩) (Kd.R_far (p := ⟨gb1112, 1, none⟩) (Kd.R_types (Kd.R_types HO1109.out BK1112.out (by decide)) BK1104.out (by decide)) (fun _ hk => hk.1.2) (.int .i64 t1125)) (fun _ hk => hk.2) (.int .i64 t1105)) (fun _ hk => hk.2) (.int .i64 t1125)) (fun _ hk => hk.2) (.slice Ao29 t1107.length co29)) (fun _ hk => trivial), is_l1Cur_ HI0.out, qe0_, qe1_⟩
  ·
   rw [if_neg c21] at H
   have c21b0 : (t1113 == 1) = false := beq_eq_false_iff_ne.mpr c21
   have c21b1 : (t1113 != 1) = true := bne_iff_ne.mpr c21
   by_cases c38 : t1113 = 2
   ·
    rw [if_pos c38] at H
    have c38b0 : (t1113 == 2) = true := beq_iff_eq.mpr c38
    have c38b1 : (t1113 != 2) = false := bne_eq_false_iff_eq.mpr c38
    clear c38
    replace H := Option.bind_eq_some_iff.mp H
    obtain ⟨⟨t1128, t1129, t1130⟩, A390, H⟩ := H
    replace H : ((spec_l1Pick.f s0_0 t1129 t1130 (([(⟨#[97]⟩ : ByteArray), (⟨#[65]⟩ : ByteArray)] : List ByteArray))).bind fun bt1134 => (if t1107.length < 2513169434916 then (some (t1105, t1106, (t1107 ++ [(⟨t1128, bt1134.1, (⟨#[]⟩ : ByteArray), 0, 0⟩ : S_Item)]), bt1134.2.1, bt1134.2.2)) else (none))) = some (r1, r2, r3, r4, r5) := H
    have A39 := Aside0.mk A390
    clear A390
    obtain ⟨y1131, hy1131⟩ : ∃ y_ : List ByteArray, y_ = (([(⟨#[97]⟩ : ByteArray), (⟨#[65]⟩ : ByteArray)] : List ByteArray)) := ⟨_, rfl⟩
    replace H : ((spec_l1Pick.f s0_0 t1129 t1130 y1131).bind fun bt1134 => (if t1107.length < 2513169434916 then (some (t1105, t1106, (t1107 ++ [(⟨t1128, bt1134.1, (⟨#[]⟩ : ByteArray), 0, 0⟩ : S_Item)]), bt1134.2.1, bt1134.2.2)) else (none))) = some (r1, r2, r3, r4, r5) := by first | (rw [hy1131]; with_reducible exact H) | (have H2_ := (Option.bind_some _ _).symm.trans H; rw [hy1131]; with_reducible exact H2_) | (have H2_ := (Option.bind_some _ _).symm.trans H; with_reducible exact H2_) | with_reducible exact H | (rw [hy1131]; exact H) | exact H
    have Ny1131 := Aside0.mk hy1131
    clear hy1131
    replace H := Option.bind_eq_some_iff.mp H
    obtain ⟨⟨t1134, t1135, t1136⟩, A400, H⟩ := H
    replace H : (if t1107.length < 2513169434916 then (some (t1105, t1106, (t1107 ++ [(⟨t1128, t1134, (⟨#[]⟩ : ByteArray), 0, 0⟩ : S_Item)]), t1135, t1136)) else (none)) = some (r1, r2, r3, r4, r5) := H
    have A40 := Aside0.mk A400
    clear A400
    by_cases c41 : t1107.length < 2513169434916
    ·
     rw [if_pos c41] at H
     have LMc41 := Aside0.mk c41
     clear c41
     obtain ⟨y1137, hy1137⟩ : ∃ y_ : List (S_Item), y_ = (t1107 ++ [(⟨t1128, t1134, (⟨#[]⟩ : ByteArray), 0, 0⟩ : S_Item)]) := ⟨_, rfl⟩
     replace H : (some (t1105, t1106, y1137, t1135, t1136)) = some (r1, r2, r3, r4, r5) := by first | (rw [hy1137]; with_reducible exact H) | (have H2_ := (Option.bind_some _ _).symm.trans H; rw [hy1137]; with_reducible exact H2_) | (have H2_ := (Option.bind_some _ _).symm.trans H; with_reducible exact H2_) | with_reducible exact H | (rw [hy1137]; exact H) | exact H
     have Ny1137 := Aside0.mk hy1137
     clear hy1137
     simp only [Option.some.injEq, Prod.mk.injEq] at H
     obtain ⟨rfl, rfl, rfl, rfl, rfl⟩ := H
     go_enter Try.func51, Try.ntmps51
     try go_wp2_with (first | ((with_reducible refine gate_dst (N := 2) rfl ?_); refine box_event ?hg (N := 2) ?hd (cs := #[.int .i64 0, .int .i64 0, .slice none 0 0]) (t := 26) ?hr ?_; (case hd => rfl); (case hg => rfl); (case hr => first | (go_simp; done) | (go_simp; rfl)); intro gb1104 hg w42 hbox hb; have BK1104 := Aside0.mk (hbox); have GW1104 := Aside0.mk ((by rw [hg]; exact (keep_size (w := w) (g := g) (row := none) (hk_ HK.out)) : w.heap.size ≤ gb1104)); have GE1104 := Aside0.mk ((Nat.le_trans HW0.out (by rw [hg]; exact (keep_size (w := w) (g := g) (row := none) (hk_ HK.out)) : w.heap.size ≤ gb1104) : w0.heap.size ≤ gb1104)); have NB0_1104 := Aside0.mk ((by rw [hg]; exact Nat.ne_of_lt (IsS_l1Cur.lt (show IsS_l1Cur w0 _ g s0_0 s0_1 s0_2 from is_l1Cur_ HI0.out)) : g ≠ gb1104)); have NB1104_0 := Aside0.mk ((by rw [hg]; exact Nat.ne_of_gt (IsS_l1Cur.lt (show IsS_l1Cur w0 _ g s0_0 s0_1 s0_2 from is_l1Cur_ HI0.out)) : gb1104 ≠ g)); replace HI0 := Aside0.mk (IsS_l1Cur.below (is_l1Cur_ HI0.out) hb); replace HK := Aside0.mk (KeepBut.trans (hk_ HK.out) (KeepBut.of_below hb g none) (.inl rfl)); replace HB := Aside0.mk (below_step (hi_ HB.out) hb); clear hb hbox hg) | ((with_reducible refine gate_callee (f := 96) rfl ?_); refine goesL_ (some 5) rfl rfl Try.func96 (by kernel_rfl) rfl #[.pointer (some ⟨g, 0, none⟩)] rfl sm_ ?_; (with_reducible refine (spec_l3DrawRight.calls k g s0_0 s0_1 s0_2 t1105 t1106 t1107 t1110 t1111 w0 _ ?side1 ?side2 A2.out).mono ?_); (case side1 => repeat (first | (with_reducible first | exact HI0.out | apply IsS_l1Cur.alloc | apply IsS_l1Cur.drewN | apply IsS_l1Cur.drew | apply IsS_l1Cur.set_1 | apply IsS_l1Cur.set_2 | refine IsS_l1Cur.far ?_ NB0_1104.out _) | exact HI0.out)); (case side2 => repeat (first | (with_reducible first | exact HB.out | apply below_alloc | apply pw_below_drewN | apply below_drew1 | refine below_set ?_ (IsS_l1Cur.ge HI0.out) | refine below_set ?_ GE1104.out) | exact HB.out)); rintro e w43 ⟨v1108, rfl, ho0, hi, hb, hk⟩; refine ⟨_, rfl, ?_⟩; have HO1109 := Aside0.mk (Kd.R_lower ho0 (keep_size (w := w) (g := g) (row := none) (hk_ HK.out))); replace BK1104 := Aside0.mk (KeepBut.blk hk (g' := gb1104) (o := .cells #[.int .i64 0, .int .i64 0, .slice none 0 0] 26 (0, 0)) (bq_ BK1104.out) NB1104_0.out (by simp)); replace HK := Aside0.mk (KeepBut.trans (hk_ HK.out) hk (.inl rfl)); replace HB := Aside0.mk (hb); replace HI0 := Aside0.mk (hi); (try clear hb); (try clear hb2); (try clear hk); (try clear hi); (try clear ho0)) | ((with_reducible refine gate_dst (N := 3) rfl ?_); refine box_event ?hg (N := 3) ?hd (cs := #[.int .i64 0, .int .i64 0, .slice none 0 0]) (t := 26) ?hr ?_; (case hd => rfl); (case hg => rfl); (case hr => first | (go_simp; done) | (go_simp; rfl)); intro gb1112 hg w44 hbox hb; have BK1112 := Aside0.mk (hbox); have GW1112 := Aside0.mk ((by rw [hg]; exact (keep_size (w := w) (g := g) (row := none) (hk_ HK.out)) : w.heap.size ≤ gb1112)); have GE1112 := Aside0.mk ((Nat.le_trans HW0.out (by rw [hg]; exact (keep_size (w := w) (g := g) (row := none) (hk_ HK.out)) : w.heap.size ≤ gb1112) : w0.heap.size ≤ gb1112)); have NB1104_1112 := cn_ BK1104 hg; have NB1112_1104 := cm_ BK1104 hg; have NB0_1112 := Aside0.mk ((by rw [hg]; exact Nat.ne_of_lt (IsS_l1Cur.lt (show IsS_l1Cur w0 _ g s0_0 t1110 t1111 from is_l1Cur_ HI0.out)) : g ≠ gb1112)); have NB1112_0 := Aside0.mk ((by rw [hg]; exact Nat.ne_of_gt (IsS_l1Cur.lt (show IsS_l1Cur w0 _ g s0_0 t1110 t1111 from is_l1Cur_ HI0.out)) : gb1112 ≠ g)); replace HO1109 := cr_ HO1109 hb; replace HI0 := Aside0.mk (IsS_l1Cur.below (is_l1Cur_ HI0.out) hb); replace BK1104 := cb_ BK1104 hb; replace HK := Aside0.mk (KeepBut.trans (hk_ HK.out) (KeepBut.of_below hb g none) (.inl rfl)); replace HB := Aside0.mk (below_step (hi_ HB.out) hb); clear hb hbox hg; have hnb45 := NB1112_1104.out; have hnc45 := NB1104_1112.out; have hnb46 := NB1112_0.out; have hnc46 := NB0_1112.out; have hcz47_0 : w44.cell? ⟨gb1112, 0, none⟩ = some (.int .i64 0) := bc_ BK1112 0; have hcz47_1 : w44.cell? ⟨gb1112, 1, none⟩ = some (.int .i64 0) := bc_ BK1112 1; have hcz47_2 : w44.cell? ⟨gb1112, 2, none⟩ = some (.slice none 0 0) := bc_ BK1112 2; have hfz47_0 := blk_frozen BK1112.out 0; have hfz47_1 := blk_frozen BK1112.out 1; have hfz47_2 := blk_frozen BK1112.out 2; obtain ⟨Ao48, co48, eo48⟩ := Kd.R_slice HO1109.out; subst eo48) | ((with_reducible refine gate_callee (f := 76) rfl ?_); refine goesL_ (some 7) rfl rfl Try.func76 (by kernel_rfl) rfl #[.pointer (some ⟨g, 0, none⟩), .int .i64 14] rfl sm_ ?_; (with_reducible refine (spec_l1Below.calls g s0_0 t1110 t1111 14 t1113 t1114 t1115 w0 _ ?side1 ?side2 A3.out).mono ?_); (case side1 => repeat (first | (with_reducible first | exact HI0.out | apply IsS_l1Cur.alloc | apply IsS_l1Cur.drewN | apply IsS_l1Cur.drew | apply IsS_l1Cur.set_1 | apply IsS_l1Cur.set_2 | refine IsS_l1Cur.far ?_ NB0_1104.out _ | refine IsS_l1Cur.far ?_ NB0_1112.out _) | exact HI0.out)); (case side2 => repeat (first | (with_reducible first | exact HB.out | apply below_alloc | apply pw_below_drewN | apply below_drew1 | refine below_set ?_ (IsS_l1Cur.ge HI0.out) | refine below_set ?_ GE1104.out | refine below_set ?_ GE1112.out) | exact HB.out)); rintro e w49 ⟨rfl, hi, hb, hk⟩; refine ⟨_, rfl, ?_⟩; replace BK1104 := Aside0.mk (KeepBut.blk hk (g' := gb1104) (o := .cells #[.int .i64 0, .int .i64 0, .slice none 0 0] 26 (0, 0)) (bf_ NB1104_1112.out BK1104.out) NB1104_0.out (by simp)); replace HO1109 := Aside0.mk (Kd.R_mono (Kd.R_keep (IsS_l1Cur.apart (show IsS_l1Cur w0 _ g s0_0 t1110 t1111 from is_l1Cur_ HI0.out) (rk_ HO1109.out BK1112.out) (by decide)) hk (fun _ h => h.2)) (fun _ h => h.1)); replace BK1112 := Aside0.mk (KeepBut.blk hk (g' := gb1112) (o := .cells #[.int .i64 t1105, .int .i64 t1106, .slice Ao48 t1107.length co48] 26 (0, 0)) (bp_ BK1112.out) NB1112_0.out (by simp)); replace HK := Aside0.mk (KeepBut.trans (hk_ HK.out) hk (.inl rfl)); replace HB := Aside0.mk (hb); replace HI0 := Aside0.mk (hi); (try clear hb); (try clear hb2); (try clear hk); (try clear hi)))
     replace HO1109 := Aside0.mk (Kd.R_drew HO1109.out)
     replace BK1104 := Aside0.mk (blk_drew BK1104.out)
     replace BK1112 := Aside0.mk (blk_drew BK1112.out)
     replace HI0 := Aside0.mk (IsS_l1Cur.drew HI0.out)
     replace HK := Aside0.mk (keep_drew HK.out)
     replace HB := Aside0.mk (below_drew1 HB.out)
     refine start_ (n := 12) (S := fun w' => w'.cell? ⟨gb1112, 0, none⟩ = some (.int .i64 t1105) ∧ w'.cell? ⟨gb1112, 1, none⟩ = some (.int .i64 t1106) ∧ w'.cell? ⟨gb1112, 2, none⟩ = some (.slice Ao48 t1107.length co48)) (ds := [11]) #[false, false, false, false, false, false, false, false, false, false, false, false] (by kernel_rfl) rfl rfl ⟨bc_ BK1112 0, bc_ BK1112 1, bc_ BK1112 2⟩ (fun hHeld => ?_); refine with_tabW spec_l3Draw.tab8 spec_l3Draw.bits8 (fun HT_ HW_ => ?_)
     generalize w49.drew = w50 at HO1109 BK1104 BK1112 HI0 HK HB hHeld ⊢
     refine pI_ 0 22 HT_ #[true, false, false, false, false, false, false, false, false, false, false, false] rfl rfl ?_
     refine pI_ 2 24 HT_ #[true, false, true, false, false, false, false, false, false, false, false, false] rfl rfl ?_
     refine pI_ 4 26 HT_ #[true, false, true, false, true, false, false, false, false, false, false, false] rfl rfl ?_
     refine tk_ 1 23 HT_ HW_ #[true, true, true, false, true, false, false, false, false, false, false, false] rfl rfl hHeld ?_
     refine join_ (σ := Value) 6 spec_l3Draw.m0 (fun s_ => [(25, .int .i64 t1128), (27, s_)]) (fun s_ w' => (w'.cell? ⟨gb1112, 0, none⟩ = some (.int .i64 t1105) ∧ w'.cell? ⟨gb1112, 1, none⟩ = some (.int .i64 t1106) ∧ w'.cell? ⟨gb1112, 2, none⟩ = some (.slice Ao48 t1107.length co48)) ∧ (Kd.R k_Item 33 w' w.heap.size (fun _ => True) (.slice Ao48 t1107.length co48) t1107) ∧ (Kd.R Kd.string 9 w' w.heap.size (fun _ => True) s_ y1131) ∧ (w'.heap[gb1104]? = some (.cells #[.int .i64 0, .int .i64 0, .slice none 0 0] 26 (0, 0))) ∧ (w'.heap[gb1112]? = some (.cells #[.int .i64 t1105, .int .i64 t1106, .slice Ao48 t1107.length co48] 26 (0, 0))) ∧ (IsS_l1Cur w0 w' g s0_0 t1129 t1130) ∧ (KeepBut w w' g none) ∧ (Below w0.heap.size w0 w')) ?_ ?_
     rotate_left
     ·
      intro hCont
      refine two_ (i := 3) (j := 5) (Ni := some 25) (Nj := some 27) #[true, true, true, true, true, false, false, false, false, false, false, false] #[true, true, true, false, true, true, false, false, false, false, false, false] rfl rfl rfl rfl (two_of HT_.out (by kernel_rfl)) (by decide) (by decide) (fun K hK => ?_) (fun K hK => ?_)
      ·
       skip
       refine goes_ Try.func76 (by kernel_rfl) rfl #[.pointer (some ⟨g, 0, none⟩), .int .i64 20] (by rfl) rfl rfl sm_ ?_
       with_reducible refine (spec_l1Below.calls g s0_0 t1114 t1115 20 t1128 t1129 t1130 w0 _ ?side1 ?side2 A39.out).mono ?_
       (case side1 => repeat (first | (with_reducible first | exact HI0.out | apply IsS_l1Cur.alloc | apply IsS_l1Cur.drewN | apply IsS_l1Cur.drew | apply IsS_l1Cur.set_1 | apply IsS_l1Cur.set_2 | refine IsS_l1Cur.far ?_ NB0_1104.out _ | refine IsS_l1Cur.far ?_ NB0_1112.out _) | exact HI0.out))
       (case side2 => repeat (first | (with_reducible first | exact HB.out | apply below_alloc | apply pw_below_drewN | apply below_drew1 | refine below_set ?_ (IsS_l1Cur.ge HI0.out) | refine below_set ?_ GE1104.out | refine below_set ?_ GE1112.out) | exact HB.out))
       rintro e w51 ⟨rfl, hi, hb, hk⟩
       refine ⟨_, rfl, ?_⟩
       replace BK1104 := Aside0.mk (KeepBut.blk hk (g' := gb1104) (o := .cells #[.int .i64 0, .int .i64 0, .slice none 0 0] 26 (0, 0)) (bq_ BK1104.out) NB1104_0.out (by simp))
       replace HO1109 := Aside0.mk (Kd.R_mono (Kd.R_keep (IsS_l1Cur.apart (show IsS_l1Cur w0 _ g s0_0 t1114 t1115 from is_l1Cur_ HI0.out) (rq_ HO1109.out) (by decide)) hk (fun _ h => h.2)) (fun _ h => h.1))
       replace BK1112 := Aside0.mk (KeepBut.blk hk (g' := gb1112) (o := .cells #[.int .i64 t1105, .int .i64 t1106, .slice Ao48 t1107.length co48] 26 (0, 0)) (bq_ BK1112.out) NB1112_0.out (by simp))
       replace HK := Aside0.mk (KeepBut.trans (hk_ HK.out) hk (.inl rfl))
       replace HB := Aside0.mk (hb)
       replace HI0 := Aside0.mk (hi)
       (try clear hb); (try clear hb2); (try clear hk); (try clear hi)
       refine hK.out _ _ ⟨bc_ BK1112 0, bc_ BK1112 1, bc_ BK1112 2⟩ (fun hHeld => ?_)
       clear hK K
       refine nm_ ?_
       refine on_ 5 27 HT_ spec_l3Draw.m0 rfl rfl (fun K hK => ?_)
       refine Kd.R_lit_step Kd.string _ 9 ?hg (N := 27) ?hd (xs := ([(⟨#[97]⟩ : ByteArray), (⟨#[65]⟩ : ByteArray)] : List ByteArray)) (inner := [.string (⟨#[97]⟩ : ByteArray), .string (⟨#[65]⟩ : ByteArray)]) (ok := fun _ => True) (okp := fun _ => True) ?hr ?hp (fun _ hk => hk) trivial (Below.refl _ _) (Nat.le_refl _) (by simp) ?_; (case hd => rfl); (case hg => rfl); (case hr => first | (go_simp; done) | (go_simp; rfl)); (case hp => exact (Reps.one (show Kd.M Kd.string _ _ _ (⟨#[97]⟩ : ByteArray) [.string (⟨#[97]⟩ : ByteArray)] from rfl) (Reps.one (show Kd.M Kd.string _ _ _ (⟨#[65]⟩ : ByteArray) [.string (⟨#[65]⟩ : ByteArray)] from rfl) (Reps.none _ _))))
       intro v1132 w52 ho53 hb hg_ hnew_
       clear hg_ hnew_
       (first | rw [← Ny1131.out] at ho53 | (simp only [Int.reduceToNat] at ho53; rw [← Ny1131.out] at ho53))
       have HO1133 := Aside0.mk (Kd.R_lower ho53 (keep_size (w := w) (g := g) (row := none) (hk_ HK.out)))
       replace HO1109 := cr_ HO1109 hb
       replace HI0 := Aside0.mk (IsS_l1Cur.below (is_l1Cur_ HI0.out) hb)
       replace BK1104 := cb_ BK1104 hb
       replace BK1112 := cb_ BK1112 hb
       replace HK := Aside0.mk (KeepBut.trans (hk_ HK.out) (KeepBut.of_below hb g none) (.inl rfl))
       replace HB := Aside0.mk (below_step (hi_ HB.out) hb)
       clear hb ho53
       refine hK.out _ _ ⟨bc_ BK1112 0, bc_ BK1112 1, bc_ BK1112 2⟩ (fun hHeld => ?_)
       clear hK K
       refine nm_ ?_
       exact norm_ (by simp only [putAll, Act.put, List.setIfInBounds_toArray, List.set_cons_zero, List.set_cons_succ]) (hCont (v1132) _ ⟨hHeld, (rq_ HO1109.out), (rq_ HO1133.out), (bq_ BK1104.out), (bq_ BK1112.out), (is_l1Cur_ HI0.out), (hk_ HK.out), (hi_ HB.out)⟩)
      ·
       skip
       refine Kd.R_lit_step Kd.string _ 9 ?hg (N := 27) ?hd (xs := ([(⟨#[97]⟩ : ByteArray), (⟨#[65]⟩ : ByteArray)] : List ByteArray)) (inner := [.string (⟨#[97]⟩ : ByteArray), .string (⟨#[65]⟩ : ByteArray)]) (ok := fun _ => True) (okp := fun _ => True) ?hr ?hp (fun _ hk => hk) trivial (Below.refl _ _) (Nat.le_refl _) (by simp) ?_; (case hd => rfl); (case hg => rfl); (case hr => first | (go_simp; done) | (go_simp; rfl)); (case hp => exact (Reps.one (show Kd.M Kd.string _ _ _ (⟨#[97]⟩ : ByteArray) [.string (⟨#[97]⟩ : ByteArray)] from rfl) (Reps.one (show Kd.M Kd.string _ _ _ (⟨#[65]⟩ : ByteArray) [.string (⟨#[65]⟩ : ByteArray)] from rfl) (Reps.none _ _))))
       intro v1132 w51 ho52 hb hg_ hnew_
       clear hg_ hnew_
       (first | rw [← Ny1131.out] at ho52 | (simp only [Int.reduceToNat] at ho52; rw [← Ny1131.out] at ho52))
       have HO1133 := Aside0.mk (Kd.R_lower ho52 (keep_size (w := w) (g := g) (row := none) (hk_ HK.out)))
       replace HO1109 := cr_ HO1109 hb
       replace HI0 := Aside0.mk (IsS_l1Cur.below (is_l1Cur_ HI0.out) hb)
       replace BK1104 := cb_ BK1104 hb
       replace BK1112 := cb_ BK1112 hb
       replace HK := Aside0.mk (KeepBut.trans (hk_ HK.out) (KeepBut.of_below hb g none) (.inl rfl))
       replace HB := Aside0.mk (below_step (hi_ HB.out) hb)
       clear hb ho52
       refine hK.out _ _ ⟨bc_ BK1112 0, bc_ BK1112 1, bc_ BK1112 2⟩ (fun hHeld => ?_)
       clear hK K
       refine nm_ ?_
       refine on_ 3 25 HT_ spec_l3Draw.m0 rfl rfl (fun K hK => ?_)
       refine goes_ Try.func76 (by kernel_rfl) rfl #[.pointer (some ⟨g, 0, none⟩), .int .i64 20] (by rfl) rfl rfl sm_ ?_
       with_reducible refine (spec_l1Below.calls g s0_0 t1114 t1115 20 t1128 t1129 t1130 w0 _ ?side1 ?side2 A39.out).mono ?_
       (case side1 => repeat (first | (with_reducible first | exact HI0.out | apply IsS_l1Cur.alloc | apply IsS_l1Cur.drewN | apply IsS_l1Cur.drew | apply IsS_l1Cur.set_1 | apply IsS_l1Cur.set_2 | refine IsS_l1Cur.far ?_ NB0_1104.out _ | refine IsS_l1Cur.far ?_ NB0_1112.out _) | exact HI0.out))
       (case side2 => repeat (first | (with_reducible first | exact HB.out | apply below_alloc | apply pw_below_drewN | apply below_drew1 | refine below_set ?_ (IsS_l1Cur.ge HI0.out) | refine below_set ?_ GE1104.out | refine below_set ?_ GE1112.out) | exact HB.out))
       rintro e w53 ⟨rfl, hi, hb, hk⟩
       refine ⟨_, rfl, ?_⟩
       replace BK1104 := Aside0.mk (KeepBut.blk hk (g' := gb1104) (o := .cells #[.int .i64 0, .int .i64 0, .slice none 0 0] 26 (0, 0)) (bq_ BK1104.out) NB1104_0.out (by simp))
       replace HO1109 := Aside0.mk (Kd.R_mono (Kd.R_keep (IsS_l1Cur.apart (show IsS_l1Cur w0 _ g s0_0 t1114 t1115 from is_l1Cur_ HI0.out) (rq_ HO1109.out) (by decide)) hk (fun _ h => h.2)) (fun _ h => h.1))
       replace BK1112 := Aside0.mk (KeepBut.blk hk (g' := gb1112) (o := .cells #[.int .i64 t1105, .int .i64 t1106, .slice Ao48 t1107.length co48] 26 (0, 0)) (bq_ BK1112.out) NB1112_0.out (by simp))
       replace HO1133 := Aside0.mk (Kd.R_mono (Kd.R_keep (IsS_l1Cur.apart (show IsS_l1Cur w0 _ g s0_0 t1114 t1115 from is_l1Cur_ HI0.out) (rq_ HO1133.out) (by decide)) hk (fun _ h => h.2)) (fun _ h => h.1))
       replace HK := Aside0.mk (KeepBut.trans (hk_ HK.out) hk (.inl rfl))
       replace HB := Aside0.mk (hb)
       replace HI0 := Aside0.mk (hi)
       (try clear hb); (try clear hb2); (try clear hk); (try clear hi)
       refine hK.out _ _ ⟨bc_ BK1112 0, bc_ BK1112 1, bc_ BK1112 2⟩ (fun hHeld => ?_)
       clear hK K
       refine nm_ ?_
       exact norm_ (by simp only [putAll, Act.put, List.setIfInBounds_toArray, List.set_cons_zero, List.set_cons_succ]) (hCont (v1132) _ ⟨hHeld, (rq_ HO1109.out), (rq_ HO1133.out), (bq_ BK1104.out), (bq_ BK1112.out), (is_l1Cur_ HI0.out), (hk_ HK.out), (hi_ HB.out)⟩)
     rintro v1132 w54 ⟨hS_, h0_, h1_, h2_, h3_, h4_, h5_, h6_⟩
     have n0_ : Aside0 (Kd.R k_Item 33 w54 w.heap.size (fun _ => True) (.slice Ao48 t1107.length co48) t1107) := ⟨h0_⟩
     have n1_ : Aside0 (Kd.R Kd.string 9 w54 w.heap.size (fun _ => True) v1132 y1131) := ⟨h1_⟩
     have n2_ : Aside0 (w54.heap[gb1104]? = some (.cells #[.int .i64 0, .int .i64 0, .slice none 0 0] 26 (0, 0))) := ⟨h2_⟩
     have n3_ : Aside0 (w54.heap[gb1112]? = some (.cells #[.int .i64 t1105, .int .i64 t1106, .slice Ao48 t1107.length co48] 26 (0, 0))) := ⟨h3_⟩
     have n4_ : Aside0 (IsS_l1Cur w0 w54 g s0_0 t1129 t1130) := ⟨h4_⟩
     have n5_ : Aside0 (KeepBut w w54 g none) := ⟨h5_⟩
     have n6_ : Aside0 (Below w0.heap.size w0 w54) := ⟨h6_⟩
     clear HO1109
     clear BK1104
     clear BK1112
     clear HI0
     clear HK
     clear HB
     clear h0_ h1_ h2_ h3_ h4_ h5_ h6_
     have HO1109 := n0_
     have HO1133 := n1_
     have BK1104 := n2_
     have BK1112 := n3_
     have HI0 := n4_
     have HK := n5_
     have HB := n6_
     clear n0_ n1_ n2_ n3_ n4_ n5_ n6_
     have hHeld : w54.cell? ⟨gb1112, 0, none⟩ = some (.int .i64 t1105) ∧ w54.cell? ⟨gb1112, 1, none⟩ = some (.int .i64 t1106) ∧ w54.cell? ⟨gb1112, 2, none⟩ = some (.slice Ao48 t1107.length co48) := hS_
     obtain ⟨Ao55, co55, eo55⟩ := Kd.R_slice HO1133.out
     (first | subst eo55 | (injection eo55 with f1_ f2_ f3_; have f4_ := f1_.symm; have f5_ := f3_.symm; clear f1_ f2_ f3_; subst f4_; subst f5_))
     refine norm_ (a' := ?_) ?_ ?_
     rotate_left; (focus simp only [putAll, Act.put, List.setIfInBounds_toArray, List.set_cons_zero, List.set_cons_succ]; rfl)
     refine on_ 6 28 HT_ #[true, true, true, true, true, true, true, false, false, false, false, false] rfl rfl (fun K hK => ?_)
     refine goes_ Try.func97 (by kernel_rfl) rfl #[.pointer (some ⟨g, 0, none⟩), .slice Ao55 y1131.length co55] (by rfl) rfl rfl sm_ ?_
     with_reducible refine (spec_l1Pick.calls g s0_0 t1129 t1130 _ _ y1131 t1134 t1135 t1136 w0 _ ?side1 ?side2 ?side3 ?side4 ?side5 A40.out).mono ?_
     (case side1 => repeat (first | (with_reducible first | exact HI0.out | apply IsS_l1Cur.alloc | apply IsS_l1Cur.drewN | apply IsS_l1Cur.drew | apply IsS_l1Cur.set_1 | apply IsS_l1Cur.set_2 | refine IsS_l1Cur.far ?_ NB0_1104.out _ | refine IsS_l1Cur.far ?_ NB0_1112.out _) | exact HI0.out))
     (case side2 => repeat (first | (with_reducible first | exact HB.out | apply below_alloc | apply pw_below_drewN | apply below_drew1 | refine below_set ?_ (IsS_l1Cur.ge HI0.out) | refine below_set ?_ GE1104.out | refine below_set ?_ GE1112.out) | exact HB.out))
     (case side3 => repeat (first | exact (Kd.R_reads' HO1133.out).2.2 | (with_reducible refine Kd.C_alloc ?_ _) | (with_reducible refine Kd.C_drewN ?_ _) | (with_reducible refine Kd.C_drew ?_)))
     (case side4 => exact (Kd.R_reads' HO1133.out).2.1)
     (case side5 => exact far_slice (IsS_l1Cur.own_ne HI0.out HO1133.out (by decide)))
     rintro e w56 ⟨rfl, hi, hb, hk⟩
     refine ⟨_, rfl, ?_⟩
     replace BK1104 := Aside0.mk (KeepBut.blk hk (g' := gb1104) (o := .cells #[.int .i64 0, .int .i64 0, .slice none 0 0] 26 (0, 0)) (bq_ BK1104.out) NB1104_0.out (by simp))
     replace HO1109 := Aside0.mk (Kd.R_mono (Kd.R_keep (IsS_l1Cur.apart (show IsS_l1Cur w0 _ g s0_0 t1129 t1130 from is_l1Cur_ HI0.out) (rq_ HO1109.out) (by decide)) hk (fun _ h => h.2)) (fun _ h => h.1))
     replace BK1112 := Aside0.mk (KeepBut.blk hk (g' := gb1112) (o := .cells #[.int .i64 t1105, .int .i64 t1106, .slice Ao48 t1107.length co48] 26 (0, 0)) (bq_ BK1112.out) NB1112_0.out (by simp))
     replace HO1133 := Aside0.mk (Kd.R_mono (Kd.R_keep (IsS_l1Cur.apart (show IsS_l1Cur w0 _ g s0_0 t1129 t1130 from is_l1Cur_ HI0.out) (rq_ HO1133.out) (by decide)) hk (fun _ h => h.2)) (fun _ h => h.1))
     replace HK := Aside0.mk (KeepBut.trans (hk_ HK.out) hk (.inl rfl))
     replace HB := Aside0.mk (hb)
     replace HI0 := Aside0.mk (hi)
     (try clear hb); (try clear hb2); (try clear hk); (try clear hi)
     refine hK.out _ _ ⟨bc_ BK1112 0, bc_ BK1112 1, bc_ BK1112 2⟩ (fun hHeld => ?_)
     clear hK K
     refine nm_ ?_
     refine pI_ 7 29 HT_ #[true, true, true, true, true, true, true, true, false, false, false, false] rfl rfl ?_
     refine on_ 8 30 HT_ #[true, true, true, true, true, true, true, true, true, false, false, false] rfl rfl (fun K hK => ?_)
     refine value_ (w1 := ?_) (v := ?_) (by rfl) rfl ?_ ?_
     rotate_left 2
     ·
      go_simp
      constructor
      ·
       rfl
      ·
       rfl
     refine hK.out _ _ ⟨(blk_cell (blk_alloc BK1112.out _) 0).trans rfl, (blk_cell (blk_alloc BK1112.out _) 1).trans rfl, (blk_cell (blk_alloc BK1112.out _) 2).trans rfl⟩ (fun hHeld => ?_)
     clear hK K
     refine nm_ ?_
     refine on_ 9 31 HT_ #[true, true, true, true, true, true, true, true, true, true, false, false] rfl rfl (fun K hK => ?_)
     refine Kd.R_append_step k_Item w.heap.size (by rfl) (.tmp 23) (.tmp 30) 24 33 (.agg #[(.int .i64 0), (.string ⟨#[]⟩), (.string ⟨#[]⟩), (.int .i64 0), (.int .i64 0)]) 56 rfl Try.underlying24 info33 rfl (by decide) (by omega) (.slice Ao48 t1107.length co48) t1107 (⟨t1128, t1134, (⟨#[]⟩ : ByteArray), 0, 0⟩ : S_Item) [.int .i64 t1128, .string t1134, .string (⟨#[]⟩ : ByteArray), .int .i64 0, .int .i64 0] (fun _ => True) (fun _ => False) rfl rfl ?aP (fun _ hk => hk.elim) ?aF ?aO (Below.refl _ _) ?aS ?aL ?_
     (case aP => exact k_Item_mkM _ _ _ (⟨t1128, t1134, (⟨#[]⟩ : ByteArray), 0, 0⟩ : S_Item))
     (case aF => exact (fun _ _ => trivial))
     (case aO => exact (rq_ HO1109.out))
     (case aS => exact (keep_size (w := w) (g := g) (row := none) (hk_ HK.out)))
     (case aL => have := LMc41.out; omega)
     intro v1138 w57 ho hb hg hat
     rw [← Ny1137.out] at ho
     have HO1139 := Aside0.mk (ho)
     replace HI0 := Aside0.mk (IsS_l1Cur.grown (is_l1Cur_ HI0.out) hg (IsS_l1Cur.own_ne HI0.out HO1109.out (by decide)))
     replace BK1104 := Aside0.mk (blk_grown (g := gb1104) (o := .cells #[.int .i64 0, .int .i64 0, .slice none 0 0] 26 (0, 0)) (bq_ BK1104.out) hg (Kd.R_ne HO1109.out BK1104.out (by decide)))
     replace BK1112 := Aside0.mk (blk_grown (g := gb1112) (o := .cells #[.int .i64 t1105, .int .i64 t1106, .slice Ao48 t1107.length co48] 26 (0, 0)) (bq_ BK1112.out) hg (Kd.R_ne HO1109.out BK1112.out (by decide)))
     replace HO1133 := Aside0.mk (Kd.R_over' (rq_ HO1133.out) (Kd.R_typed (rq_ HO1109.out)) (by decide) hg)
     replace HB := Aside0.mk (below_weaken (hi_ HB.out) HL.out hb)
     replace HK := Aside0.mk (KeepBut.trans (hk_ HK.out) (KeepBut.of_grown hg g) (Kd.R_base2 HO1109.out))
     clear HO1109
     clear ho hb hg hat
     obtain ⟨Ao58, co58, eo58⟩ := Kd.R_slice HO1139.out
     (first | subst eo58 | (injection eo58 with f1_ f2_ f3_; have f4_ := f1_.symm; have f5_ := f3_.symm; clear f1_ f2_ f3_; subst f4_; subst f5_))
     refine hK.out _ _ ⟨bc_ BK1112 0, bc_ BK1112 1, bc_ BK1112 2⟩ (fun hHeld => ?_)
     clear hK K
     refine nm_ ?_
     refine pI_ 10 32 HT_ #[true, true, true, true, true, true, true, true, true, true, true, false] rfl rfl ?_
     refine last_ (i := 11) (N := none) #[true, true, true, true, true, true, true, true, true, true, true, true] rfl rfl (one_of HT_.out (by kernel_rfl)) (by decide) (fun K hK => ?_)
     have hs59 : w57.cell? ⟨gb1112, 2, none⟩ = some (.slice Ao48 t1107.length co48) := bc_ BK1112 2
     have hfs59 := blk_frozen BK1112.out 2
     have hns59_0 := NB1104_1112.out
     have hms59_0 := NB1112_1104.out
     refine skip_ (w1 := ?_) (by rfl) rfl ?_ ?_
     rotate_left; (focus go_simp; rfl)
     refine hK.out _ _ ?_
     clear hK K
     refine done_ (done_of HT_.out (by kernel_rfl)) ?_
     have hcz60_0 : w57.cell? ⟨gb1112, 0, none⟩ = some (.int .i64 t1105) := bc_ BK1112 0
     have hcz60_1 : w57.cell? ⟨gb1112, 1, none⟩ = some (.int .i64 t1106) := bc_ BK1112 1
     have hcz60_2 : w57.cell? ⟨gb1112, 2, none⟩ = some (.slice Ao48 t1107.length co48) := bc_ BK1112 2
     have hfz60_0 := blk_frozen BK1112.out 0
     have hfz60_1 := blk_frozen BK1112.out 1
     have hfz60_2 := blk_frozen BK1112.out 2
     have hnb61 := NB1104_0.out
     have hnc61 := NB0_1104.out
     have hcz62_0 : w57.cell? ⟨gb1104, 0, none⟩ = some (.int .i64 0) := bc_ BK1104 0
     have hcz62_1 : w57.cell? ⟨gb1104, 1, none⟩ = some (.int .i64 0) := bc_ BK1104 1
     have hcz62_2 : w57.cell? ⟨gb1104, 2, none⟩ = some (.slice none 0 0) := bc_ BK1104 2
     have hfz62_0 := blk_frozen BK1104.out 0
     have hfz62_1 := blk_frozen BK1104.out 1
     have hfz62_2 := blk_frozen BK1104.out 2
     try go_wp2
     refine bodyPost_ret (results_cell_row rfl _ _ gb1104 26 #[.int .i64 t1105, .int .i64 t1106, .slice Ao58 y1137.length co58] (0, 0) _ rfl (by_ BK1104.out) Try.underlying26 rfl (by kernel_rfl)) rfl ?_
     exact ⟨_, er_, by (with_reducible repeat (first | apply Kd.R_alloc | apply Kd.R_drewN | apply Kd.R_drew)); exact Kd.R_mono (Kd.R_far (p := ⟨gb1104, 2, none⟩) (Kd.R_far (p := ⟨gb1104, 1, none⟩) (Kd.R_far (p := ⟨gb1104, 0, none⟩) (Kd.R_far (p := ⟨gb1112, 2, none⟩) (Kd.R_types (Kd.R_types HO1139.out BK1112.out (by decide)) BK1104.out (by decide)) (fun _ hk => hk.1.2) (.slice Ao58 y1137.length co58)) (fun _ hk => hk.2) (.int .i64 t1105)) (fun _ hk => hk.2) (.int .i64 t1106)) (fun _ hk => hk.2) (.slice Ao58 y1137.length co58)) (fun _ hk => trivial), is_l1Cur_ HI0.out, qe0_, qe1_⟩
    ·
     rw [if_neg c41] at H
     exact absurd H (by simp)
   ·
    rw [if_neg c38] at H
    have c38b0 : (t1113 == 2) = false := beq_eq_false_iff_ne.mpr c38
    have c38b1 : (t1113 != 2) = true := bne_iff_ne.mpr c38
    by_cases c63 : t1113 = 3
    ·
     rw [if_pos c63] at H
     have c63b0 : (t1113 == 3) = true := beq_iff_eq.mpr c63
     have c63b1 : (t1113 != 3) = false := bne_eq_false_iff_eq.mpr c63
     clear c63
     have H' := Aside0.mk H
     clear H
     go_enter Try.func51, Try.ntmps51
     go_wp2_with (first | ((with_reducible refine gate_dst (N := 2) rfl ?_); refine box_event ?hg (N := 2) ?hd (cs := #[.int .i64 0, .int .i64 0, .slice none 0 0]) (t := 26) ?hr ?_; (case hd => rfl); (case hg => rfl); (case hr => first | (go_simp; done) | (go_simp; rfl)); intro gb1104 hg w64 hbox hb; have BK1104 := Aside0.mk (hbox); have GW1104 := Aside0.mk ((by rw [hg]; exact (keep_size (w := w) (g := g) (row := none) (hk_ HK.out)) : w.heap.size ≤ gb1104)); have GE1104 := Aside0.mk ((Nat.le_trans HW0.out (by rw [hg]; exact (keep_size (w := w) (g := g) (row := none) (hk_ HK.out)) : w.heap.size ≤ gb1104) : w0.heap.size ≤ gb1104)); have NB0_1104 := Aside0.mk ((by rw [hg]; exact Nat.ne_of_lt (IsS_l1Cur.lt (show IsS_l1Cur w0 _ g s0_0 s0_1 s0_2 from is_l1Cur_ HI0.out)) : g ≠ gb1104)); have NB1104_0 := Aside0.mk ((by rw [hg]; exact Nat.ne_of_gt (IsS_l1Cur.lt (show IsS_l1Cur w0 _ g s0_0 s0_1 s0_2 from is_l1Cur_ HI0.out)) : gb1104 ≠ g)); replace HI0 := Aside0.mk (IsS_l1Cur.below (is_l1Cur_ HI0.out) hb); replace HK := Aside0.mk (KeepBut.trans (hk_ HK.out) (KeepBut.of_below hb g none) (.inl rfl)); replace HB := Aside0.mk (below_step (hi_ HB.out) hb); clear hb hbox hg) | ((with_reducible refine gate_callee (f := 96) rfl ?_); refine goesL_ (some 5) rfl rfl Try.func96 (by kernel_rfl) rfl #[.pointer (some ⟨g, 0, none⟩)] rfl sm_ ?_; (with_reducible refine (spec_l3DrawRight.calls k g s0_0 s0_1 s0_2 t1105 t1106 t1107 t1110 t1111 w0 _ ?side1 ?side2 A2.out).mono ?_); (case side1 => repeat (first | (with_reducible first | exact HI0.out | apply IsS_l1Cur.alloc | apply IsS_l1Cur.drewN | apply IsS_l1Cur.drew | apply IsS_l1Cur.set_1 | apply IsS_l1Cur.set_2 | refine IsS_l1Cur.far ?_ NB0_1104.out _) | exact HI0.out)); (case side2 => repeat (first | (with_reducible first | exact HB.out | apply below_alloc | apply pw_below_drewN | apply below_drew1 | refine below_set ?_ (IsS_l1Cur.ge HI0.out) | refine below_set ?_ GE1104.out) | exact HB.out)); rintro e w65 ⟨v1108, rfl, ho0, hi, hb, hk⟩; refine ⟨_, rfl, ?_⟩; have HO1109 := Aside0.mk (Kd.R_lower ho0 (keep_size (w := w) (g := g) (row := none) (hk_ HK.out))); replace BK1104 := Aside0.mk (KeepBut.blk hk (g' := gb1104) (o := .cells #[.int .i64 0, .int .i64 0, .slice none 0 0] 26 (0, 0)) (bq_ BK1104.out) NB1104_0.out (by simp)); replace HK := Aside0.mk (KeepBut.trans (hk_ HK.out) hk (.inl rfl)); replace HB := Aside0.mk (hb); replace HI0 := Aside0.mk (hi); (try clear hb); (try clear hb2); (try clear hk); (try clear hi); (try clear ho0)) | ((with_reducible refine gate_dst (N := 3) rfl ?_); refine box_event ?hg (N := 3) ?hd (cs := #[.int .i64 0, .int .i64 0, .slice none 0 0]) (t := 26) ?hr ?_; (case hd => rfl); (case hg => rfl); (case hr => first | (go_simp; done) | (go_simp; rfl)); intro gb1112 hg w66 hbox hb; have BK1112 := Aside0.mk (hbox); have GW1112 := Aside0.mk ((by rw [hg]; exact (keep_size (w := w) (g := g) (row := none) (hk_ HK.out)) : w.heap.size ≤ gb1112)); have GE1112 := Aside0.mk ((Nat.le_trans HW0.out (by rw [hg]; exact (keep_size (w := w) (g := g) (row := none) (hk_ HK.out)) : w.heap.size ≤ gb1112) : w0.heap.size ≤ gb1112)); have NB1104_1112 := cn_ BK1104 hg; have NB1112_1104 := cm_ BK1104 hg; have NB0_1112 := Aside0.mk ((by rw [hg]; exact Nat.ne_of_lt (IsS_l1Cur.lt (show IsS_l1Cur w0 _ g s0_0 t1110 t1111 from is_l1Cur_ HI0.out)) : g ≠ gb1112)); have NB1112_0 := Aside0.mk ((by rw [hg]; exact Nat.ne_of_gt (IsS_l1Cur.lt (show IsS_l1Cur w0 _ g s0_0 t1110 t1111 from is_l1Cur_ HI0.out)) : gb1112 ≠ g)); replace HO1109 := cr_ HO1109 hb; replace HI0 := Aside0.mk (IsS_l1Cur.below (is_l1Cur_ HI0.out) hb); replace BK1104 := cb_ BK1104 hb; replace HK := Aside0.mk (KeepBut.trans (hk_ HK.out) (KeepBut.of_below hb g none) (.inl rfl)); replace HB := Aside0.mk (below_step (hi_ HB.out) hb); clear hb hbox hg; have hnb67 := NB1112_1104.out; have hnc67 := NB1104_1112.out; have hnb68 := NB1112_0.out; have hnc68 := NB0_1112.out; have hcz69_0 : w66.cell? ⟨gb1112, 0, none⟩ = some (.int .i64 0) := bc_ BK1112 0; have hcz69_1 : w66.cell? ⟨gb1112, 1, none⟩ = some (.int .i64 0) := bc_ BK1112 1; have hcz69_2 : w66.cell? ⟨gb1112, 2, none⟩ = some (.slice none 0 0) := bc_ BK1112 2; have hfz69_0 := blk_frozen BK1112.out 0; have hfz69_1 := blk_frozen BK1112.out 1; have hfz69_2 := blk_frozen BK1112.out 2; obtain ⟨Ao70, co70, eo70⟩ := Kd.R_slice HO1109.out; subst eo70) | ((with_reducible refine gate_callee (f := 76) rfl ?_); refine goesL_ (some 7) rfl rfl Try.func76 (by kernel_rfl) rfl #[.pointer (some ⟨g, 0, none⟩), .int .i64 14] rfl sm_ ?_; (with_reducible refine (spec_l1Below.calls g s0_0 t1110 t1111 14 t1113 t1114 t1115 w0 _ ?side1 ?side2 A3.out).mono ?_); (case side1 => repeat (first | (with_reducible first | exact HI0.out | apply IsS_l1Cur.alloc | apply IsS_l1Cur.drewN | apply IsS_l1Cur.drew | apply IsS_l1Cur.set_1 | apply IsS_l1Cur.set_2 | refine IsS_l1Cur.far ?_ NB0_1104.out _ | refine IsS_l1Cur.far ?_ NB0_1112.out _) | exact HI0.out)); (case side2 => repeat (first | (with_reducible first | exact HB.out | apply below_alloc | apply pw_below_drewN | apply below_drew1 | refine below_set ?_ (IsS_l1Cur.ge HI0.out) | refine below_set ?_ GE1104.out | refine below_set ?_ GE1112.out) | exact HB.out)); rintro e w71 ⟨rfl, hi, hb, hk⟩; refine ⟨_, rfl, ?_⟩; replace BK1104 := Aside0.mk (KeepBut.blk hk (g' := gb1104) (o := .cells #[.int .i64 0, .int .i64 0, .slice none 0 0] 26 (0, 0)) (bf_ NB1104_1112.out BK1104.out) NB1104_0.out (by simp)); replace HO1109 := Aside0.mk (Kd.R_mono (Kd.R_keep (IsS_l1Cur.apart (show IsS_l1Cur w0 _ g s0_0 t1110 t1111 from is_l1Cur_ HI0.out) (rk_ HO1109.out BK1112.out) (by decide)) hk (fun _ h => h.2)) (fun _ h => h.1)); replace BK1112 := Aside0.mk (KeepBut.blk hk (g' := gb1112) (o := .cells #[.int .i64 t1105, .int .i64 t1106, .slice Ao70 t1107.length co70] 26 (0, 0)) (bp_ BK1112.out) NB1112_0.out (by simp)); replace HK := Aside0.mk (KeepBut.trans (hk_ HK.out) hk (.inl rfl)); replace HB := Aside0.mk (hb); replace HI0 := Aside0.mk (hi); (try clear hb); (try clear hb2); (try clear hk); (try clear hi)))
     go_loopg [] k (fun kq w' => ∃ (x1113000_1 : Int) (x1113001_1 : Int) (x1113002_1 : List (S_Item)) (u1113002 : Value), Aside0 (spec_l3Draw.l0 kq s0_0 t1114 t1115 x1113000_1 x1113001_1 x1113002_1 = some (r1, r2, r3, r4, r5)) ∧ Aside0 (kq ≤ k) ∧ Aside0 (Kd.R k_Item 33 w' w.heap.size (fun _ => True) u1113002 x1113002_1) ∧ Aside0 (w'.heap[gb1104]? = some (.cells #[.int .i64 0, .int .i64 0, (.slice none 0 0)] 26 (0, 0))) ∧ Aside0 (w'.heap[gb1112]? = some (.cells #[.int .i64 x1113000_1, .int .i64 x1113001_1, u1113002] 26 (0, 0))) ∧ Aside0 (IsS_l1Cur w0 w' g s0_0 t1114 t1115) ∧ Aside0 (KeepBut w w' g none) ∧ Aside0 (Below w0.heap.size w0 w'))
     case atStart => exact ⟨(t1105), (t1106), (t1107), (.slice Ao70 t1107.length co70), H', ⟨Nat.le_refl _⟩, ⟨rq_ HO1109.out⟩, ⟨bq_ BK1104.out⟩, ⟨bq_ BK1112.out⟩, ⟨is_l1Cur_ HI0.out⟩, ⟨qe1_⟩, ⟨qe0_⟩⟩
     case round =>
      clear H'
      (try clear c4); (try clear c4b0); (try clear c4b1); (try clear c21); (try clear c21b0); (try clear c21b1); (try clear c38); (try clear c38b0); (try clear c38b1); (try clear c63b0); (try clear c63b1); (try clear hcz69_0); (try clear hcz69_1); (try clear hcz69_2); (try clear hfz69_0); (try clear hfz69_1); (try clear hfz69_2)
      obtain ⟨x1113000_1, x1113001_1, x1113002_1, u1113002, HA, HK1, HO_1113002, BK1104, BK1112, HI0, HK, HB⟩ := hrel
      cases gk with
      | zero => exact absurd HA.out (by simp [spec_l3Draw.l0])
      | succ k1 =>
       have H := HA.out
       clear HA
       simp only [spec_l3Draw.l0] at H
       by_cases c72 : (x1113002_1.length : Int) < 80
       ·
        rw [if_pos c72] at H
        have c72b0 : decide ((x1113002_1.length : Int) < 80) = true := decide_eq_true c72
        have c72b1 : decide (x1113002_1.length < 80) = true := decide_eq_true (by omega)
        clear c72
        replace H := Option.bind_eq_some_iff.mp H
        obtain ⟨⟨t1140, t1141, t1142, t1145, t1146⟩, A730, H⟩ := H
        replace H : (spec_l3Draw.l0 k1 s0_0 t1114 t1115 t1140 t1141 t1142) = some (r1, r2, r3, r4, r5) := H
        have A73 := Aside0.mk A730
        clear A730
        have H' := Aside0.mk H
        clear H
        have hnb74 := NB1112_1104.out
        have hnc74 := NB1104_1112.out
        have hnb75 := NB1112_0.out
        have hnc75 := NB0_1112.out
        have hcz76_0 : wr.cell? ⟨gb1112, 0, none⟩ = some (.int .i64 x1113000_1) := bc_ BK1112 0
        have hcz76_1 : wr.cell? ⟨gb1112, 1, none⟩ = some (.int .i64 x1113001_1) := bc_ BK1112 1
        have hcz76_2 : wr.cell? ⟨gb1112, 2, none⟩ = some (u1113002) := bc_ BK1112 2
        have hfz76_0 := blk_frozen BK1112.out 0
        have hfz76_1 := blk_frozen BK1112.out 1
        have hfz76_2 := blk_frozen BK1112.out 2
        obtain ⟨Ao77, co77, eo77⟩ := Kd.R_slice HO_1113002.out
        subst eo77
        go_wp2_with (first | ((with_reducible refine gate_callee (f := 98) rfl ?_); refine goesL_ (some 41) rfl rfl Try.func98 (by kernel_rfl) rfl #[.agg #[.int .i64 x1113000_1, .int .i64 x1113001_1, .slice Ao77 x1113002_1.length co77], .string (⟨#[]⟩ : ByteArray), .string (⟨#[]⟩ : ByteArray), .int .i64 0, .int .i64 0] rfl sm_ ?_; (with_reducible refine (spec_RowPut.calls k1 x1113000_1 x1113001_1 _ _ x1113002_1 (⟨#[]⟩ : ByteArray) (⟨#[]⟩ : ByteArray) 0 0 t1140 t1141 t1142 t1145 t1146 _ ?side1 ?side2 A73.out).mono ?_); (case side1 => repeat (first | exact (Kd.R_reads' HO_1113002.out).2.2 | (with_reducible refine Kd.C_alloc ?_ _) | (with_reducible refine Kd.C_drewN ?_ _) | (with_reducible refine Kd.C_drew ?_))); (case side2 => exact (Kd.R_reads' HO_1113002.out).2.1); rintro e w78 ⟨v1143, rfl, ho0, hb⟩; refine ⟨_, rfl, ?_⟩; have HO1144 := Aside0.mk (Kd.R_lower (Kd.R_new' ho0 (Kd.R_lt (rq_ HO_1113002.out))) (keep_size (w := w) (g := g) (row := none) (hk_ HK.out))); replace HO_1113002 := Aside0.mk (Kd.R_elder' (rq_ HO_1113002.out) (Kd.R_base ho0) hb); replace BK1104 := cb_ BK1104 hb; replace BK1112 := cb_ BK1112 hb; replace HI0 := Aside0.mk (IsS_l1Cur.below (is_l1Cur_ HI0.out) hb); replace HK := Aside0.mk (KeepBut.trans (hk_ HK.out) (KeepBut.of_below hb g none) (.inl rfl)); replace HB := Aside0.mk (below_step (hi_ HB.out) hb); (try clear hb); (try clear hb2); (try clear hk); (try clear hi); (try clear ho0); have hcz79_0 : w78.cell? ⟨gb1112, 0, none⟩ = some (.int .i64 x1113000_1) := bc_ BK1112 0; have hcz79_1 : w78.cell? ⟨gb1112, 1, none⟩ = some (.int .i64 x1113001_1) := bc_ BK1112 1; have hcz79_2 : w78.cell? ⟨gb1112, 2, none⟩ = some (.slice Ao77 x1113002_1.length co77) := bc_ BK1112 2; have hfz79_0 := blk_frozen BK1112.out 0; have hfz79_1 := blk_frozen BK1112.out 1; have hfz79_2 := blk_frozen BK1112.out 2; obtain ⟨Ao80, co80, eo80⟩ := Kd.R_slice HO1144.out; subst eo80))
        go_roundg k1
        case measure => have := HK1.out; omega
        case rel => exact ⟨(t1140), (t1141), (t1142), (.slice Ao80 t1142.length co80), H', ⟨by have := HK1.out; omega⟩, ⟨by (with_reducible repeat (first | apply Kd.R_alloc | apply Kd.R_drewN | apply Kd.R_drew)); exact Kd.R_mono (Kd.R_far (p := ⟨gb1112, 2, none⟩) (Kd.R_far (p := ⟨gb1112, 1, none⟩) (Kd.R_far (p := ⟨gb1112, 0, none⟩) (Kd.R_types HO1144.out BK1112.out (by decide)) (fun _ hk => hk.2) (.int .i64 t1140)) (fun _ hk => hk.2) (.int .i64 t1141)) (fun _ hk => hk.2) (.slice Ao80 t1142.length co80)) (fun _ hk => trivial)⟩, ⟨bf_ NB1104_1112.out BK1104.out⟩, ⟨bp_ BK1112.out⟩, ⟨is_l1Cur_ HI0.out⟩, ⟨qe1_⟩, ⟨qe0_⟩⟩
       ·
        rw [if_neg c72] at H
        have c72b0 : decide ((x1113002_1.length : Int) < 80) = false := decide_eq_false c72
        have c72b1 : decide (x1113002_1.length < 80) = false := decide_eq_false (by omega)
        clear c72
        simp only [Option.some.injEq, Prod.mk.injEq] at H
        obtain ⟨rfl, rfl, rfl, rfl, rfl⟩ := H
        have hnb81 := NB1112_1104.out
        have hnc81 := NB1104_1112.out
        have hnb82 := NB1112_0.out
        have hnc82 := NB0_1112.out
        have hcz83_0 : wr.cell? ⟨gb1112, 0, none⟩ = some (.int .i64 x1113000_1) := bc_ BK1112 0
        have hcz83_1 : wr.cell? ⟨gb1112, 1, none⟩ = some (.int .i64 x1113001_1) := bc_ BK1112 1
        have hcz83_2 : wr.cell? ⟨gb1112, 2, none⟩ = some (u1113002) := bc_ BK1112 2
        have hfz83_0 := blk_frozen BK1112.out 0
        have hfz83_1 := blk_frozen BK1112.out 1
        have hfz83_2 := blk_frozen BK1112.out 2
        obtain ⟨Ao84, co84, eo84⟩ := Kd.R_slice HO_1113002.out
        subst eo84
        have hnb85 := NB1104_0.out
        have hnc85 := NB0_1104.out
        have hcz86_0 : wr.cell? ⟨gb1104, 0, none⟩ = some (.int .i64 0) := bc_ BK1104 0
        have hcz86_1 : wr.cell? ⟨gb1104, 1, none⟩ = some (.int .i64 0) := bc_ BK1104 1
        have hcz86_2 : wr.cell? ⟨gb1104, 2, none⟩ = some (.slice none 0 0) := bc_ BK1104 2
        have hfz86_0 := blk_frozen BK1104.out 0
        have hfz86_1 := blk_frozen BK1104.out 1
        have hfz86_2 := blk_frozen BK1104.out 2
        go_wp2
        refine bodyPost_ret (results_cell_row rfl _ _ gb1104 26 #[.int .i64 x1113000_1, .int .i64 x1113001_1, .slice Ao84 x1113002_1.length co84] (0, 0) _ rfl (bp_ BK1104.out) Try.underlying26 rfl (by kernel_rfl)) rfl ?_
        exact ⟨_, er_, by (with_reducible repeat (first | apply Kd.R_alloc | apply Kd.R_drewN | apply Kd.R_drew)); exact Kd.R_mono (Kd.R_far (p := ⟨gb1104, 2, none⟩) (Kd.R_far (p := ⟨gb1104, 1, none⟩) (Kd.R_far (p := ⟨gb1104, 0, none⟩) (Kd.R_types HO_1113002.out BK1104.out (by decide)) (fun _ hk => hk.2) (.int .i64 x1113000_1)) (fun _ hk => hk.2) (.int .i64 x1113001_1)) (fun _ hk => hk.2) (.slice Ao84 x1113002_1.length co84)) (fun _ hk => trivial), is_l1Cur_ HI0.out, qe0_, qe1_⟩
    ·
     rw [if_neg c63] at H
     have c63b0 : (t1113 == 3) = false := beq_eq_false_iff_ne.mpr c63
     have c63b1 : (t1113 != 3) = true := bne_iff_ne.mpr c63
     simp only [Option.some.injEq, Prod.mk.injEq] at H
     obtain ⟨rfl, rfl, rfl, rfl, rfl⟩ := H
     go_enter Try.func51, Try.ntmps51
     go_wp2_with (first | ((with_reducible refine gate_dst (N := 2) rfl ?_); refine box_event ?hg (N := 2) ?hd (cs := #[.int .i64 0, .int .i64 0, .slice none 0 0]) (t := 26) ?hr ?_; (case hd => rfl); (case hg => rfl); (case hr => first | (go_simp; done) | (go_simp; rfl)); intro gb1104 hg w87 hbox hb; have BK1104 := Aside0.mk (hbox); have GW1104 := Aside0.mk ((by rw [hg]; exact (keep_size (w := w) (g := g) (row := none) (hk_ HK.out)) : w.heap.size ≤ gb1104)); have GE1104 := Aside0.mk ((Nat.le_trans HW0.out (by rw [hg]; exact (keep_size (w := w) (g := g) (row := none) (hk_ HK.out)) : w.heap.size ≤ gb1104) : w0.heap.size ≤ gb1104)); have NB0_1104 := Aside0.mk ((by rw [hg]; exact Nat.ne_of_lt (IsS_l1Cur.lt (show IsS_l1Cur w0 _ g s0_0 s0_1 s0_2 from is_l1Cur_ HI0.out)) : g ≠ gb1104)); have NB1104_0 := Aside0.mk ((by rw [hg]; exact Nat.ne_of_gt (IsS_l1Cur.lt (show IsS_l1Cur w0 _ g s0_0 s0_1 s0_2 from is_l1Cur_ HI0.out)) : gb1104 ≠ g)); replace HI0 := Aside0.mk (IsS_l1Cur.below (is_l1Cur_ HI0.out) hb); replace HK := Aside0.mk (KeepBut.trans (hk_ HK.out) (KeepBut.of_below hb g none) (.inl rfl)); replace HB := Aside0.mk (below_step (hi_ HB.out) hb); clear hb hbox hg) | ((with_reducible refine gate_callee (f := 96) rfl ?_); refine goesL_ (some 5) rfl rfl Try.func96 (by kernel_rfl) rfl #[.pointer (some ⟨g, 0, none⟩)] rfl sm_ ?_; (with_reducible refine (spec_l3DrawRight.calls k g s0_0 s0_1 s0_2 t1105 t1106 t1107 t1110 t1111 w0 _ ?side1 ?side2 A2.out).mono ?_); (case side1 => repeat (first | (with_reducible first | exact HI0.out | apply IsS_l1Cur.alloc | apply IsS_l1Cur.drewN | apply IsS_l1Cur.drew | apply IsS_l1Cur.set_1 | apply IsS_l1Cur.set_2 | refine IsS_l1Cur.far ?_ NB0_1104.out _) | exact HI0.out)); (case side2 => repeat (first | (with_reducible first | exact HB.out | apply below_alloc | apply pw_below_drewN | apply below_drew1 | refine below_set ?_ (IsS_l1Cur.ge HI0.out) | refine below_set ?_ GE1104.out) | exact HB.out)); rintro e w88 ⟨v1108, rfl, ho0, hi, hb, hk⟩; refine ⟨_, rfl, ?_⟩; have HO1109 := Aside0.mk (Kd.R_lower ho0 (keep_size (w := w) (g := g) (row := none) (hk_ HK.out))); replace BK1104 := Aside0.mk (KeepBut.blk hk (g' := gb1104) (o := .cells #[.int .i64 0, .int .i64 0, .slice none 0 0] 26 (0, 0)) (bq_ BK1104.out) NB1104_0.out (by simp)); replace HK := Aside0.mk (KeepBut.trans (hk_ HK.out) hk (.inl rfl)); replace HB := Aside0.mk (hb); replace HI0 := Aside0.mk (hi); (try clear hb); (try clear hb2); (try clear hk); (try clear hi); (try clear ho0)) | ((with_reducible refine gate_dst (N := 3) rfl ?_); refine box_event ?hg (N := 3) ?hd (cs := #[.int .i64 0, .int .i64 0, .slice none 0 0]) (t := 26) ?hr ?_; (case hd => rfl); (case hg => rfl); (case hr => first | (go_simp; done) | (go_simp; rfl)); intro gb1112 hg w89 hbox hb; have BK1112 := Aside0.mk (hbox); have GW1112 := Aside0.mk ((by rw [hg]; exact (keep_size (w := w) (g := g) (row := none) (hk_ HK.out)) : w.heap.size ≤ gb1112)); have GE1112 := Aside0.mk ((Nat.le_trans HW0.out (by rw [hg]; exact (keep_size (w := w) (g := g) (row := none) (hk_ HK.out)) : w.heap.size ≤ gb1112) : w0.heap.size ≤ gb1112)); have NB1104_1112 := cn_ BK1104 hg; have NB1112_1104 := cm_ BK1104 hg; have NB0_1112 := Aside0.mk ((by rw [hg]; exact Nat.ne_of_lt (IsS_l1Cur.lt (show IsS_l1Cur w0 _ g s0_0 t1110 t1111 from is_l1Cur_ HI0.out)) : g ≠ gb1112)); have NB1112_0 := Aside0.mk ((by rw [hg]; exact Nat.ne_of_gt (IsS_l1Cur.lt (show IsS_l1Cur w0 _ g s0_0 t1110 t1111 from is_l1Cur_ HI0.out)) : gb1112 ≠ g)); replace HO1109 := cr_ HO1109 hb; replace HI0 := Aside0.mk (IsS_l1Cur.below (is_l1Cur_ HI0.out) hb); replace BK1104 := cb_ BK1104 hb; replace HK := Aside0.mk (KeepBut.trans (hk_ HK.out) (KeepBut.of_below hb g none) (.inl rfl)); replace HB := Aside0.mk (below_step (hi_ HB.out) hb); clear hb hbox hg; have hnb90 := NB1112_1104.out; have hnc90 := NB1104_1112.out; have hnb91 := NB1112_0.out; have hnc91 := NB0_1112.out; have hcz92_0 : w89.cell? ⟨gb1112, 0, none⟩ = some (.int .i64 0) := bc_ BK1112 0; have hcz92_1 : w89.cell? ⟨gb1112, 1, none⟩ = some (.int .i64 0) := bc_ BK1112 1; have hcz92_2 : w89.cell? ⟨gb1112, 2, none⟩ = some (.slice none 0 0) := bc_ BK1112 2; have hfz92_0 := blk_frozen BK1112.out 0; have hfz92_1 := blk_frozen BK1112.out 1; have hfz92_2 := blk_frozen BK1112.out 2; obtain ⟨Ao93, co93, eo93⟩ := Kd.R_slice HO1109.out; subst eo93) | ((with_reducible refine gate_callee (f := 76) rfl ?_); refine goesL_ (some 7) rfl rfl Try.func76 (by kernel_rfl) rfl #[.pointer (some ⟨g, 0, none⟩), .int .i64 14] rfl sm_ ?_; (with_reducible refine (spec_l1Below.calls g s0_0 t1110 t1111 14 t1113 t1114 t1115 w0 _ ?side1 ?side2 A3.out).mono ?_); (case side1 => repeat (first | (with_reducible first | exact HI0.out | apply IsS_l1Cur.alloc | apply IsS_l1Cur.drewN | apply IsS_l1Cur.drew | apply IsS_l1Cur.set_1 | apply IsS_l1Cur.set_2 | refine IsS_l1Cur.far ?_ NB0_1104.out _ | refine IsS_l1Cur.far ?_ NB0_1112.out _) | exact HI0.out)); (case side2 => repeat (first | (with_reducible first | exact HB.out | apply below_alloc | apply pw_below_drewN | apply below_drew1 | refine below_set ?_ (IsS_l1Cur.ge HI0.out) | refine below_set ?_ GE1104.out | refine below_set ?_ GE1112.out) | exact HB.out)); rintro e w94 ⟨rfl, hi, hb, hk⟩; refine ⟨_, rfl, ?_⟩; replace BK1104 := Aside0.mk (KeepBut.blk hk (g' := gb1104) (o := .cells #[.int .i64 0, .int .i64 0, .slice none 0 0] 26 (0, 0)) (bf_ NB1104_1112.out BK1104.out) NB1104_0.out (by simp)); replace HO1109 := Aside0.mk (Kd.R_mono (Kd.R_keep (IsS_l1Cur.apart (show IsS_l1Cur w0 _ g s0_0 t1110 t1111 from is_l1Cur_ HI0.out) (rk_ HO1109.out BK1112.out) (by decide)) hk (fun _ h => h.2)) (fun _ h => h.1)); replace BK1112 := Aside0.mk (KeepBut.blk hk (g' := gb1112) (o := .cells #[.int .i64 t1105, .int .i64 t1106, .slice Ao93 t1107.length co93] 26 (0, 0)) (bp_ BK1112.out) NB1112_0.out (by simp)); replace HK := Aside0.mk (KeepBut.trans (hk_ HK.out) hk (.inl rfl)); replace HB := Aside0.mk (hb); replace HI0 := Aside0.mk (hi); (try clear hb); (try clear hb2); (try clear hk); (try clear hi); have hcz95_0 : w94.cell? ⟨gb1112, 0, none⟩ = some (.int .i64 t1105) := bc_ BK1112 0; have hcz95_1 : w94.cell? ⟨gb1112, 1, none⟩ = some (.int .i64 t1106) := bc_ BK1112 1; have hcz95_2 : w94.cell? ⟨gb1112, 2, none⟩ = some (.slice Ao93 t1107.length co93) := bc_ BK1112 2; have hfz95_0 := blk_frozen BK1112.out 0; have hfz95_1 := blk_frozen BK1112.out 1; have hfz95_2 := blk_frozen BK1112.out 2; have hnb96 := NB1104_0.out; have hnc96 := NB0_1104.out; have hcz97_0 : w94.cell? ⟨gb1104, 0, none⟩ = some (.int .i64 0) := bc_ BK1104 0; have hcz97_1 : w94.cell? ⟨gb1104, 1, none⟩ = some (.int .i64 0) := bc_ BK1104 1; have hcz97_2 : w94.cell? ⟨gb1104, 2, none⟩ = some (.slice none 0 0) := bc_ BK1104 2; have hfz97_0 := blk_frozen BK1104.out 0; have hfz97_1 := blk_frozen BK1104.out 1; have hfz97_2 := blk_frozen BK1104.out 2))
     refine bodyPost_ret (results_cell_row rfl _ _ gb1104 26 #[.int .i64 t1105, .int .i64 t1106, .slice Ao93 t1107.length co93] (0, 0) _ rfl (bp_ BK1104.out) Try.underlying26 rfl (by kernel_rfl)) rfl ?_
     exact ⟨_, er_, by (with_reducible repeat (first | apply Kd.R_alloc | apply Kd.R_drewN | apply Kd.R_drew)); exact Kd.R_mono (Kd.R_far (p := ⟨gb1104, 2, none⟩) (Kd.R_far (p := ⟨gb1104, 1, none⟩) (Kd.R_far (p := ⟨gb1104, 0, none⟩) (Kd.R_types HO1109.out BK1104.out (by decide)) (fun _ hk => hk.2) (.int .i64 t1105)) (fun _ hk => hk.2) (.int .i64 t1106)) (fun _ hk => hk.2) (.slice Ao93 t1107.length co93)) (fun _ hk => trivial), is_l1Cur_ HI0.out, qe0_, qe1_⟩
/-! ### spec_DrawRowTrim: function 10 -/
def spec_DrawRowTrim.f (k : Nat) (l0 : List Int) : Option (Int × Int × (List (S_Item)) × Int × Int) := (spec_l1New.f k l0).bind fun bt1148 => ((spec_l3Draw.f k bt1148.1 bt1148.2.1 bt1148.2.2).bind fun bt1152 => ((spec_l1PickInt.f bt1148.1 bt1152.2.2.2.1 bt1152.2.2.2.2 (([1, 2, 3, 8, 0, (-1)] : List Int))).bind fun bt1163 => ((spec_l1PickInt.f bt1148.1 bt1163.2.1 bt1163.2.2 (([0, 1, 4, (-1)] : List Int))).bind fun bt1169 => (some (bt1152.1, bt1152.2.1, bt1152.2.2.1, bt1163.1, bt1169.1)))))
theorem spec_DrawRowTrim.mono : ∀ a0 k, LeO (spec_DrawRowTrim.f k a0) (spec_DrawRowTrim.f (k + 1) a0) := by
  intro a0 k
  unfold spec_DrawRowTrim.f
  repeat' first
      | (with_reducible exact spec_l1New.mono _ _)
      | (with_reducible exact spec_l3Draw.mono _ _ _ _)
      | (with_reducible exact LeO.refl _)
      | (with_reducible exact LeO.none _)
      | (with_reducible refine LeO.ite ?_ ?_)
      | (with_reducible refine LeO.bind ?_ (fun _ => ?_))
      | exact spec_l1New.mono _ _
      | exact spec_l3Draw.mono _ _ _ _
      | exact LeO.none _
      | refine LeO.ite ?_ ?_
      | refine LeO.bind ?_ (fun _ => ?_)
def spec_DrawRowTrim.T4 : Bool × List (List Nat × List Nat) := (true, [([], []), ([], []), ([], []), ([], []), ([2, 3], [2, 3]), ([0, 4, 0], [0]), ([1, 5, 0, 1, 5], [1]), ([4, 6, 0, 1, 2, 3, 4, 5, 6], [4])])
def spec_DrawRowTrim.B4 : List Nat := [0, 0, 0, 0, 12, 29, 63, 127]
theorem spec_DrawRowTrim.tab4 : rtab .any (opsOf Try.f10 4) = spec_DrawRowTrim.T4 := by kernel_rfl
theorem spec_DrawRowTrim.bits4 : waitsOk spec_DrawRowTrim.T4.2 spec_DrawRowTrim.B4 = true := by kernel_rfl
set_option maxHeartbeats 8000000 in
set_option maxRecDepth 100000 in
theorem spec_DrawRowTrim.calls (k : Nat) (A0 : Option Addr) (c0 : Nat) (l0 : List Int) (r1 : Int) (r2 : Int) (r3 : List (S_Item)) (r4 : Int) (r5 : Int) (w : World) (hr0 : Kd.C (Kd.int .u8) w A0 l0.length l0) (hc0 : l0.length ≤ c0) (h : spec_DrawRowTrim.f k l0 = some (r1, r2, r3, r4, r5)) :
    Calls Try.prog 10 #[.slice A0 l0.length c0] w fun e w' => ∃ v2_ : Value, e = .returned (.tuple #[.agg #[.int .i64 r1, .int .i64 r2, v2_], .int .i64 r4, .int .i64 r5]) ∧ Kd.R k_Item 33 w' w.heap.size (fun _ => True) v2_ r3 ∧ Below w.heap.size w w' := by
  have hu26 := Try.underlying26
  have HR0 := Aside0.mk hr0
  have HC0 := Aside0.mk hc0
  clear hr0 hc0
  have HB := Aside0.mk (Below.refl w.heap.size w)
  have H : ((spec_l1New.f k l0).bind fun bt1148 => ((spec_l3Draw.f k bt1148.1 bt1148.2.1 bt1148.2.2).bind fun bt1152 => ((spec_l1PickInt.f bt1148.1 bt1152.2.2.2.1 bt1152.2.2.2.2 (([1, 2, 3, 8, 0, (-1)] : List Int))).bind fun bt1163 => ((spec_l1PickInt.f bt1148.1 bt1163.2.1 bt1163.2.2 (([0, 1, 4, (-1)] : List Int))).bind fun bt1169 => (some (bt1152.1, bt1152.2.1, bt1152.2.2.1, bt1163.1, bt1169.1)))))) = some (r1, r2, r3, r4, r5) := h
  clear h
  replace H := Option.bind_eq_some_iff.mp H
  obtain ⟨⟨t1148, t1149, t1150⟩, A20, H⟩ := H
  replace H : ((spec_l3Draw.f k t1148 t1149 t1150).bind fun bt1152 => ((spec_l1PickInt.f t1148 bt1152.2.2.2.1 bt1152.2.2.2.2 (([1, 2, 3, 8, 0, (-1)] : List Int))).bind fun bt1163 => ((spec_l1PickInt.f t1148 bt1163.2.1 bt1163.2.2 (([0, 1, 4, (-1)] : List Int))).bind fun bt1169 => (some (bt1152.1, bt1152.2.1, bt1152.2.2.1, bt1163.1, bt1169.1))))) = some (r1, r2, r3, r4, r5) := H
  have A2 := Aside0.mk A20
  clear A20
  replace H := Option.bind_eq_some_iff.mp H
  obtain ⟨⟨t1152, t1153, t1154, t1157, t1158⟩, A30, H⟩ := H
  replace H : ((spec_l1PickInt.f t1148 t1157 t1158 (([1, 2, 3, 8, 0, (-1)] : List Int))).bind fun bt1163 => ((spec_l1PickInt.f t1148 bt1163.2.1 bt1163.2.2 (([0, 1, 4, (-1)] : List Int))).bind fun bt1169 => (some (t1152, t1153, t1154, bt1163.1, bt1169.1)))) = some (r1, r2, r3, r4, r5) := H
  have A3 := Aside0.mk A30
  clear A30
  obtain ⟨y1160, hy1160⟩ : ∃ y_ : List Int, y_ = (([1, 2, 3, 8, 0, (-1)] : List Int)) := ⟨_, rfl⟩
  replace H : ((spec_l1PickInt.f t1148 t1157 t1158 y1160).bind fun bt1163 => ((spec_l1PickInt.f t1148 bt1163.2.1 bt1163.2.2 (([0, 1, 4, (-1)] : List Int))).bind fun bt1169 => (some (t1152, t1153, t1154, bt1163.1, bt1169.1)))) = some (r1, r2, r3, r4, r5) := by first | (rw [hy1160]; with_reducible exact H) | (have H2_ := (Option.bind_some _ _).symm.trans H; rw [hy1160]; with_reducible exact H2_) | (have H2_ := (Option.bind_some _ _).symm.trans H; with_reducible exact H2_) | with_reducible exact H | (rw [hy1160]; exact H) | exact H
  have Ny1160 := Aside0.mk hy1160
  clear hy1160
  replace H := Option.bind_eq_some_iff.mp H
  obtain ⟨⟨t1163, t1164, t1165⟩, A40, H⟩ := H
  replace H : ((spec_l1PickInt.f t1148 t1164 t1165 (([0, 1, 4, (-1)] : List Int))).bind fun bt1169 => (some (t1152, t1153, t1154, t1163, bt1169.1))) = some (r1, r2, r3, r4, r5) := H
  have A4 := Aside0.mk A40
  clear A40
  obtain ⟨y1166, hy1166⟩ : ∃ y_ : List Int, y_ = (([0, 1, 4, (-1)] : List Int)) := ⟨_, rfl⟩
  replace H : ((spec_l1PickInt.f t1148 t1164 t1165 y1166).bind fun bt1169 => (some (t1152, t1153, t1154, t1163, bt1169.1))) = some (r1, r2, r3, r4, r5) := by first | (rw [hy1166]; with_reducible exact H) | (have H2_ := (Option.bind_some _ _).symm.trans H; rw [hy1166]; with_reducible exact H2_) | (have H2_ := (Option.bind_some _ _).symm.trans H; with_reducible exact H2_) | with_reducible exact H | (rw [hy1166]; exact H) | exact H
  have Ny1166 := Aside0.mk hy1166
  clear hy1166
  replace H := Option.bind_eq_some_iff.mp H
  obtain ⟨⟨t1169, t1170, t1171⟩, A50, H⟩ := H
  replace H : (some (t1152, t1153, t1154, t1163, t1169)) = some (r1, r2, r3, r4, r5) := H
  have A5 := Aside0.mk A50
  clear A50
  simp only [Option.some.injEq, Prod.mk.injEq] at H
  obtain ⟨rfl, rfl, rfl, rfl, rfl⟩ := H
  go_enter Try.func10, Try.ntmps10
  try go_wp2_with (first | ((with_reducible refine gate_dst (N := 2) rfl ?_); refine box_event ?hg (N := 2) ?hd (cs := #[.int .i64 0, .int .i64 0, .slice none 0 0]) (t := 26) ?hr ?_; (case hd => rfl); (case hg => rfl); (case hr => first | (go_simp; done) | (go_simp; rfl)); intro gb1147 hg w6 hbox hb; have BK1147 := Aside0.mk (hbox); have GW1147 := Aside0.mk ((by rw [hg]; exact (below_size (qe9_)) : w.heap.size ≤ gb1147)); have GE1147 := Aside0.mk ((by rw [hg]; exact (below_size (qe9_)) : w.heap.size ≤ gb1147)); replace HB := Aside0.mk (below_step (qe9_) hb); clear hb hbox hg) | ((with_reducible refine gate_callee (f := 50) rfl ?_); refine goesL_ (some 9) rfl rfl Try.func50 (by kernel_rfl) rfl #[.slice A0 l0.length c0] rfl (qe6_) ?_; (with_reducible refine (spec_l1New.calls k _ _ l0 t1148 t1149 t1150 w _ ?side1 ?side2 ?side3 A2.out).mono ?_); (case side1 => repeat (first | (with_reducible first | exact HB.out | apply below_alloc | apply pw_below_drewN | apply below_drew1 | refine below_set ?_ GE1147.out) | exact HB.out)); (case side2 => exact HR0.out); (case side3 => exact HC0.out); rintro e w7 ⟨g1151, rfl, hi, hb, hb2⟩; refine ⟨_, rfl, ?_⟩; have HI1151 := Aside0.mk (hi); have NB1151_1147 := Aside0.mk (IsS_l1Cur.ne_blk hi (blk_below (g := gb1147) (o := .cells #[.int .i64 0, .int .i64 0, .slice none 0 0] 26 (0, 0)) (bq_ BK1147.out) hb2) (by decide)); have NB1147_1151 := Aside0.mk (Ne.symm (IsS_l1Cur.ne_blk hi (blk_below (g := gb1147) (o := .cells #[.int .i64 0, .int .i64 0, .slice none 0 0] 26 (0, 0)) (bq_ BK1147.out) hb2) (by decide))); replace BK1147 := Aside0.mk (blk_below (g := gb1147) (o := .cells #[.int .i64 0, .int .i64 0, .slice none 0 0] 26 (0, 0)) (bq_ BK1147.out) hb2); replace HB := Aside0.mk (hb); (try clear hb); (try clear hb2); (try clear hk); (try clear hi)) | ((with_reducible refine gate_callee (f := 51) rfl ?_); refine goesL_ (some 11) rfl rfl Try.func51 (by kernel_rfl) rfl #[.pointer (some ⟨g1151, 0, none⟩)] rfl (qe6_) ?_; (with_reducible refine (spec_l3Draw.calls k g1151 t1148 t1149 t1150 t1152 t1153 t1154 t1157 t1158 w _ ?side1 ?side2 A3.out).mono ?_); (case side1 => repeat (first | (with_reducible first | exact HI1151.out | apply IsS_l1Cur.alloc | apply IsS_l1Cur.drewN | apply IsS_l1Cur.drew | apply IsS_l1Cur.set_1 | apply IsS_l1Cur.set_2 | refine IsS_l1Cur.far ?_ NB1151_1147.out _) | exact HI1151.out)); (case side2 => repeat (first | (with_reducible first | exact HB.out | apply below_alloc | apply pw_below_drewN | apply below_drew1 | refine below_set ?_ (IsS_l1Cur.ge HI1151.out) | refine below_set ?_ GE1147.out) | exact HB.out)); rintro e w8 ⟨v1155, rfl, ho0, hi, hb, hk⟩; refine ⟨_, rfl, ?_⟩; have HO1156 := Aside0.mk (Kd.R_lower ho0 (below_size (qe5_))); replace BK1147 := Aside0.mk (KeepBut.blk hk (g' := gb1147) (o := .cells #[.int .i64 0, .int .i64 0, .slice none 0 0] 26 (0, 0)) (bq_ BK1147.out) NB1147_1151.out (by simp)); replace HB := Aside0.mk (hb); replace HI1151 := Aside0.mk (hi); (try clear hb); (try clear hb2); (try clear hk); (try clear hi); (try clear ho0)) | ((with_reducible refine gate_dst (N := 6) rfl ?_); refine box_event ?hg (N := 6) ?hd (cs := #[.int .i64 0, .int .i64 0, .slice none 0 0]) (t := 26) ?hr ?_; (case hd => rfl); (case hg => rfl); (case hr => first | (go_simp; done) | (go_simp; rfl)); intro gb1159 hg w9 hbox hb; have BK1159 := Aside0.mk (hbox); have GW1159 := Aside0.mk ((by rw [hg]; exact (below_size (qe5_)) : w.heap.size ≤ gb1159)); have GE1159 := Aside0.mk ((by rw [hg]; exact (below_size (qe5_)) : w.heap.size ≤ gb1159)); have NB1147_1159 := Aside0.mk ((by rw [hg]; exact Nat.ne_of_lt (blk_lt (g := gb1147) (o := .cells #[.int .i64 0, .int .i64 0, .slice none 0 0] 26 (0, 0)) (bq_ BK1147.out)) : gb1147 ≠ gb1159)); have NB1159_1147 := Aside0.mk ((by rw [hg]; exact Nat.ne_of_gt (blk_lt (g := gb1147) (o := .cells #[.int .i64 0, .int .i64 0, .slice none 0 0] 26 (0, 0)) (bq_ BK1147.out)) : gb1159 ≠ gb1147)); have NB1151_1159 := Aside0.mk ((by rw [hg]; exact Nat.ne_of_lt (IsS_l1Cur.lt (show IsS_l1Cur w _ g1151 t1148 t1157 t1158 from by repeat (first | (with_reducible first | exact HI1151.out | apply IsS_l1Cur.alloc | apply IsS_l1Cur.drewN | apply IsS_l1Cur.drew | apply IsS_l1Cur.set_1 | apply IsS_l1Cur.set_2 | refine IsS_l1Cur.far ?_ NB1151_1147.out _) | exact HI1151.out))) : g1151 ≠ gb1159)); have NB1159_1151 := Aside0.mk ((by rw [hg]; exact Nat.ne_of_gt (IsS_l1Cur.lt (show IsS_l1Cur w _ g1151 t1148 t1157 t1158 from by repeat (first | (with_reducible first | exact HI1151.out | apply IsS_l1Cur.alloc | apply IsS_l1Cur.drewN | apply IsS_l1Cur.drew | apply IsS_l1Cur.set_1 | apply IsS_l1Cur.set_2 | refine IsS_l1Cur.far ?_ NB1151_1147.out _) | exact HI1151.out))) : gb1159 ≠ g1151)); replace HO1156 := Aside0.mk (Kd.R_below (qe8_) hb); replace BK1147 := Aside0.mk (blk_below (g := gb1147) (o := .cells #[.int .i64 0, .int .i64 0, .slice none 0 0] 26 (0, 0)) (bq_ BK1147.out) hb); replace HB := Aside0.mk (below_step (qe5_) hb); replace HI1151 := Aside0.mk (IsS_l1Cur.below (by repeat (first | (with_reducible first | exact HI1151.out | apply IsS_l1Cur.alloc | apply IsS_l1Cur.drewN | apply IsS_l1Cur.drew | apply IsS_l1Cur.set_1 | apply IsS_l1Cur.set_2 | refine IsS_l1Cur.far ?_ NB1151_1147.out _) | exact HI1151.out)) hb); clear hb hbox hg; have hnb10 := NB1159_1147.out; have hnc10 := NB1147_1159.out; have hnb11 := NB1159_1151.out; have hnc11 := NB1151_1159.out; have hcz12_0 : w9.cell? ⟨gb1159, 0, none⟩ = some (.int .i64 0) := bc_ BK1159 0; have hcz12_1 : w9.cell? ⟨gb1159, 1, none⟩ = some (.int .i64 0) := bc_ BK1159 1; have hcz12_2 : w9.cell? ⟨gb1159, 2, none⟩ = some (.slice none 0 0) := bc_ BK1159 2; have hfz12_0 := blk_frozen BK1159.out 0; have hfz12_1 := blk_frozen BK1159.out 1; have hfz12_2 := blk_frozen BK1159.out 2; obtain ⟨Ao13, co13, eo13⟩ := Kd.R_slice HO1156.out; subst eo13) | ((with_reducible refine gate_dst (N := 13) rfl ?_); refine Kd.R_lit (Kd.int .i64) _ 3 ?hg (N := 13) ?hd (xs := ([1, 2, 3, 8, 0, (-1)] : List Int)) (inner := [.int .i64 1, .int .i64 2, .int .i64 3, .int .i64 8, .int .i64 0, .int .i64 (-1)]) (ok := fun _ => True) (okp := fun _ => True) ?hr ?hp (fun _ hk => hk) trivial (Below.refl _ _) (Nat.le_refl _) (by simp) ?_; (case hd => rfl); (case hg => rfl); (case hr => first | (go_simp; done) | (go_simp; rfl)); (case hp => exact (Reps.one (show Kd.M (Kd.int .i64) _ _ _ 1 [.int .i64 1] from rfl) (Reps.one (show Kd.M (Kd.int .i64) _ _ _ 2 [.int .i64 2] from rfl) (Reps.one (show Kd.M (Kd.int .i64) _ _ _ 3 [.int .i64 3] from rfl) (Reps.one (show Kd.M (Kd.int .i64) _ _ _ 8 [.int .i64 8] from rfl) (Reps.one (show Kd.M (Kd.int .i64) _ _ _ 0 [.int .i64 0] from rfl) (Reps.one (show Kd.M (Kd.int .i64) _ _ _ (-1) [.int .i64 (-1)] from rfl) (Reps.none _ _)))))))); intro v1161 w14 ho15 hb hg_ hnew_; clear hg_ hnew_; (first | rw [← Ny1160.out] at ho15 | (simp only [Int.reduceToNat] at ho15; rw [← Ny1160.out] at ho15)); have HO1162 := Aside0.mk (Kd.R_lower ho15 (below_size (qe2_))); replace HO1156 := Aside0.mk (Kd.R_below (by (with_reducible repeat (first | apply Kd.R_alloc | apply Kd.R_drewN | apply Kd.R_drew)); exact (Kd.R_mono (Kd.R_far (p := ⟨gb1159, 2, none⟩) (Kd.R_far (p := ⟨gb1159, 1, none⟩) (Kd.R_far (p := ⟨gb1159, 0, none⟩) (Kd.R_types HO1156.out BK1159.out (by decide)) (fun _ hk => hk.2) (.int .i64 t1152)) (fun _ hk => hk.2) (.int .i64 t1153)) (fun _ hk => hk.2) (.slice Ao13 t1154.length co13)) (fun _ h_ => h_.1))) hb); replace BK1147 := Aside0.mk (blk_below (g := gb1147) (o := .cells #[.int .i64 0, .int .i64 0, .slice none 0 0] 26 (0, 0)) (bf_ NB1147_1159.out BK1147.out) hb); replace BK1159 := Aside0.mk (blk_below (g := gb1159) (o := .cells #[.int .i64 t1152, .int .i64 t1153, .slice Ao13 t1154.length co13] 26 (0, 0)) (bp_ BK1159.out) hb); replace HB := Aside0.mk (below_step (qe2_) hb); replace HI1151 := Aside0.mk (IsS_l1Cur.below (show IsS_l1Cur w (((w9.setCell ⟨gb1159, 0, none⟩ (.int .i64 t1152)).setCell ⟨gb1159, 1, none⟩ (.int .i64 t1153)).setCell ⟨gb1159, 2, none⟩ (.slice Ao13 t1154.length co13)) g1151 t1148 t1157 t1158 from by repeat (first | (with_reducible first | exact HI1151.out | apply IsS_l1Cur.alloc | apply IsS_l1Cur.drewN | apply IsS_l1Cur.drew | apply IsS_l1Cur.set_1 | apply IsS_l1Cur.set_2 | refine IsS_l1Cur.far ?_ NB1151_1147.out _ | refine IsS_l1Cur.far ?_ NB1151_1159.out _) | exact HI1151.out)) hb); clear hb ho15; obtain ⟨Ao16, co16, eo16⟩ := Kd.R_slice HO1162.out; subst eo16) | ((with_reducible refine gate_callee (f := 52) rfl ?_); refine goesL_ (some 14) rfl rfl Try.func52 (by kernel_rfl) rfl #[.pointer (some ⟨g1151, 0, none⟩), .slice Ao16 y1160.length co16] rfl (qe6_) ?_; (with_reducible refine (spec_l1PickInt.calls g1151 t1148 t1157 t1158 _ _ y1160 t1163 t1164 t1165 w _ ?side1 ?side2 ?side3 ?side4 ?side5 A4.out).mono ?_); (case side1 => repeat (first | (with_reducible first | exact HI1151.out | apply IsS_l1Cur.alloc | apply IsS_l1Cur.drewN | apply IsS_l1Cur.drew | apply IsS_l1Cur.set_1 | apply IsS_l1Cur.set_2 | refine IsS_l1Cur.far ?_ NB1151_1147.out _ | refine IsS_l1Cur.far ?_ NB1151_1159.out _) | exact HI1151.out)); (case side2 => repeat (first | (with_reducible first | exact HB.out | apply below_alloc | apply pw_below_drewN | apply below_drew1 | refine below_set ?_ (IsS_l1Cur.ge HI1151.out) | refine below_set ?_ GE1147.out | refine below_set ?_ GE1159.out) | exact HB.out)); (case side3 => repeat (first | exact (Kd.R_reads' HO1162.out).2.2 | (with_reducible refine Kd.C_alloc ?_ _) | (with_reducible refine Kd.C_drewN ?_ _) | (with_reducible refine Kd.C_drew ?_))); (case side4 => exact (Kd.R_reads' HO1162.out).2.1); (case side5 => exact far_slice (IsS_l1Cur.own_ne HI1151.out HO1162.out (by decide))); rintro e w17 ⟨rfl, hi, hb, hk⟩; refine ⟨_, rfl, ?_⟩; replace BK1147 := Aside0.mk (KeepBut.blk hk (g' := gb1147) (o := .cells #[.int .i64 0, .int .i64 0, .slice none 0 0] 26 (0, 0)) (bq_ BK1147.out) NB1147_1151.out (by simp)); replace HO1156 := Aside0.mk (Kd.R_mono (Kd.R_keep (IsS_l1Cur.apart (show IsS_l1Cur w _ g1151 t1148 t1157 t1158 from by repeat (first | (with_reducible first | exact HI1151.out | apply IsS_l1Cur.alloc | apply IsS_l1Cur.drewN | apply IsS_l1Cur.drew | apply IsS_l1Cur.set_1 | apply IsS_l1Cur.set_2 | refine IsS_l1Cur.far ?_ NB1151_1147.out _ | refine IsS_l1Cur.far ?_ NB1151_1159.out _) | exact HI1151.out)) (qe8_) (by decide)) hk (fun _ h => h.2)) (fun _ h => h.1)); replace BK1159 := Aside0.mk (KeepBut.blk hk (g' := gb1159) (o := .cells #[.int .i64 t1152, .int .i64 t1153, .slice Ao13 t1154.length co13] 26 (0, 0)) (bq_ BK1159.out) NB1159_1151.out (by simp)); replace HO1162 := Aside0.mk (Kd.R_mono (Kd.R_keep (IsS_l1Cur.apart (show IsS_l1Cur w _ g1151 t1148 t1157 t1158 from by repeat (first | (with_reducible first | exact HI1151.out | apply IsS_l1Cur.alloc | apply IsS_l1Cur.drewN | apply IsS_l1Cur.drew | apply IsS_l1Cur.set_1 | apply IsS_l1Cur.set_2 | refine IsS_l1Cur.far ?_ NB1151_1147.out _ | refine IsS_l1Cur.far ?_ NB1151_1159.out _) | exact HI1151.out)) (qe7_) (by decide)) hk (fun _ h => h.2)) (fun _ h => h.1)); replace HB := Aside0.mk (hb); replace HI1151 := Aside0.mk (hi); (try clear hb); (try clear hb2); (try clear hk); (try clear hi)))
  replace HO1156 := Aside0.mk (Kd.R_drew HO1156.out)
  replace HO1162 := Aside0.mk (Kd.R_drew HO1162.out)
  replace BK1147 := Aside0.mk (blk_drew BK1147.out)
  replace BK1159 := Aside0.mk (blk_drew BK1159.out)
  replace HI1151 := Aside0.mk (IsS_l1Cur.drew HI1151.out)
  replace HB := Aside0.mk (below_drew1 HB.out)
  refine start_ (n := 8) (S := fun w' => w'.cell? ⟨gb1159, 0, none⟩ = some (.int .i64 t1152) ∧ w'.cell? ⟨gb1159, 1, none⟩ = some (.int .i64 t1153) ∧ w'.cell? ⟨gb1159, 2, none⟩ = some (.slice Ao13 t1154.length co13)) (ds := []) #[false, false, false, false, false, false, false, false] (by kernel_rfl) rfl rfl ⟨bc_ BK1159 0, bc_ BK1159 1, bc_ BK1159 2⟩ (fun hHeld => ?_); refine with_tabW spec_DrawRowTrim.tab4 spec_DrawRowTrim.bits4 (fun HT_ HW_ => ?_)
  generalize w17.drew = w18 at HO1156 HO1162 BK1147 BK1159 HI1151 HB hHeld ⊢
  refine pure_ (i := 1) (N := some 16) (v := ?_) (a' := ?_) #[false, true, false, false, false, false, false, false] rfl rfl (any_of HT_.out (by kernel_rfl)) (fun _ _ _ h => h) (Or.inl ⟨by rfl, ?_⟩) ?_ ?_
  rotate_left
  · intro w'
    go_simp
    with_reducible rfl
  rotate_left
  · simp only [Act.put, List.setIfInBounds_toArray, List.set_cons_zero, List.set_cons_succ, i64_w, i32_w]
    rfl
  refine pure_ (i := 2) (N := some 17) (v := ?_) (a' := ?_) #[false, true, true, false, false, false, false, false] rfl rfl (any_of HT_.out (by kernel_rfl)) (fun _ _ _ h => h) (Or.inl ⟨by rfl, ?_⟩) ?_ ?_
  rotate_left
  · intro w'
    go_simp
    with_reducible rfl
  rotate_left
  · simp only [Act.put, List.setIfInBounds_toArray, List.set_cons_zero, List.set_cons_succ, i64_w, i32_w]
    rfl
  refine take_ (i := 0) (N := some 15) (v := ?_) (a' := ?_) #[true, true, true, false, false, false, false, false] rfl rfl (take_ofW HT_.out HW_.out (by kernel_rfl)) (fun _ _ _ h => h) (Or.inl ⟨by rfl, ?_⟩) hHeld ?_ ?_
  rotate_left
  · rintro w' ⟨s0, s1, s2⟩
    go_simp
    with_reducible rfl
  rotate_left
  · simp only [Act.put, List.setIfInBounds_toArray, List.set_cons_zero, List.set_cons_succ, i64_w, i32_w]
    rfl
  refine on_ 3 18 HT_ #[true, true, true, true, false, false, false, false] rfl rfl (fun K hK => ?_)
  refine Kd.R_lit_step (Kd.int .i64) _ 3 ?hg (N := 18) ?hd (xs := ([0, 1, 4, (-1)] : List Int)) (inner := [.int .i64 0, .int .i64 1, .int .i64 4, .int .i64 (-1)]) (ok := fun _ => True) (okp := fun _ => True) ?hr ?hp (fun _ hk => hk) trivial (Below.refl _ _) (Nat.le_refl _) (by simp) ?_; (case hd => rfl); (case hg => rfl); (case hr => first | (go_simp; done) | (go_simp; rfl)); (case hp => exact (Reps.one (show Kd.M (Kd.int .i64) _ _ _ 0 [.int .i64 0] from rfl) (Reps.one (show Kd.M (Kd.int .i64) _ _ _ 1 [.int .i64 1] from rfl) (Reps.one (show Kd.M (Kd.int .i64) _ _ _ 4 [.int .i64 4] from rfl) (Reps.one (show Kd.M (Kd.int .i64) _ _ _ (-1) [.int .i64 (-1)] from rfl) (Reps.none _ _))))))
  intro v1167 w19 ho20 hb hg_ hnew_
  clear hg_ hnew_
  (first | rw [← Ny1166.out] at ho20 | (simp only [Int.reduceToNat] at ho20; rw [← Ny1166.out] at ho20))
  have HO1168 := Aside0.mk (Kd.R_lower (Kd.R_new' ho20 (Kd.R_lt (qe7_))) (below_size (qe2_)))
  replace HO1156 := Aside0.mk (Kd.R_below (qe8_) hb)
  replace HO1162 := Aside0.mk (Kd.R_elder' (qe7_) (Kd.R_base ho20) hb)
  replace BK1147 := Aside0.mk (blk_below (g := gb1147) (o := .cells #[.int .i64 0, .int .i64 0, .slice none 0 0] 26 (0, 0)) (bq_ BK1147.out) hb)
  replace BK1159 := Aside0.mk (blk_below (g := gb1159) (o := .cells #[.int .i64 t1152, .int .i64 t1153, .slice Ao13 t1154.length co13] 26 (0, 0)) (bq_ BK1159.out) hb)
  replace HB := Aside0.mk (below_step (qe2_) hb)
  replace HI1151 := Aside0.mk (IsS_l1Cur.below (by repeat (first | (with_reducible first | exact HI1151.out | apply IsS_l1Cur.alloc | apply IsS_l1Cur.drewN | apply IsS_l1Cur.drew | apply IsS_l1Cur.set_1 | apply IsS_l1Cur.set_2 | refine IsS_l1Cur.far ?_ NB1151_1147.out _ | refine IsS_l1Cur.far ?_ NB1151_1159.out _) | exact HI1151.out)) hb)
  clear hb ho20
  obtain ⟨Ao21, co21, eo21⟩ := Kd.R_slice HO1168.out
  (first | subst eo21 | (injection eo21 with f1_ f2_ f3_; have f4_ := f1_.symm; have f5_ := f3_.symm; clear f1_ f2_ f3_; subst f4_; subst f5_))
  refine hK.out _ _ ⟨bc_ BK1159 0, bc_ BK1159 1, bc_ BK1159 2⟩ (fun hHeld => ?_)
  clear hK K
  refine norm_ (a' := ?_) ?_ ?_
  rotate_left
  · show Act.put _ (some 18) _ = _
    simp only [Act.put, List.setIfInBounds_toArray, List.set_cons_zero, List.set_cons_succ, i64_w, i32_w]
    rfl
  refine on_ 4 19 HT_ #[true, true, true, true, true, false, false, false] rfl rfl (fun K hK => ?_)
  refine goes_ Try.func52 (by kernel_rfl) rfl #[.pointer (some ⟨g1151, 0, none⟩), .slice Ao21 y1166.length co21] (by rfl) rfl rfl (qe6_) ?_
  with_reducible refine (spec_l1PickInt.calls g1151 t1148 t1164 t1165 _ _ y1166 t1169 t1170 t1171 w _ ?side1 ?side2 ?side3 ?side4 ?side5 A5.out).mono ?_
  (case side1 => repeat (first | (with_reducible first | exact HI1151.out | apply IsS_l1Cur.alloc | apply IsS_l1Cur.drewN | apply IsS_l1Cur.drew | apply IsS_l1Cur.set_1 | apply IsS_l1Cur.set_2 | refine IsS_l1Cur.far ?_ NB1151_1147.out _ | refine IsS_l1Cur.far ?_ NB1151_1159.out _) | exact HI1151.out))
  (case side2 => repeat (first | (with_reducible first | exact HB.out | apply below_alloc | apply pw_below_drewN | apply below_drew1 | refine below_set ?_ (IsS_l1Cur.ge HI1151.out) | refine below_set ?_ GE1147.out | refine below_set ?_ GE1159.out) | exact HB.out))
  (case side3 => repeat (first | exact (Kd.R_reads' HO1168.out).2.2 | (with_reducible refine Kd.C_alloc ?_ _) | (with_reducible refine Kd.C_drewN ?_ _) | (with_reducible refine Kd.C_drew ?_)))
  (case side4 => exact (Kd.R_reads' HO1168.out).2.1)
  (case side5 => exact far_slice (IsS_l1Cur.own_ne HI1151.out HO1168.out (by decide)))
  rintro e w22 ⟨rfl, hi, hb, hk⟩
  refine ⟨_, rfl, ?_⟩
  replace BK1147 := Aside0.mk (KeepBut.blk hk (g' := gb1147) (o := .cells #[.int .i64 0, .int .i64 0, .slice none 0 0] 26 (0, 0)) (bq_ BK1147.out) NB1147_1151.out (by simp))
  replace HO1156 := Aside0.mk (Kd.R_mono (Kd.R_keep (IsS_l1Cur.apart (show IsS_l1Cur w _ g1151 t1148 t1164 t1165 from by repeat (first | (with_reducible first | exact HI1151.out | apply IsS_l1Cur.alloc | apply IsS_l1Cur.drewN | apply IsS_l1Cur.drew | apply IsS_l1Cur.set_1 | apply IsS_l1Cur.set_2 | refine IsS_l1Cur.far ?_ NB1151_1147.out _ | refine IsS_l1Cur.far ?_ NB1151_1159.out _) | exact HI1151.out)) (qe8_) (by decide)) hk (fun _ h => h.2)) (fun _ h => h.1))
  replace BK1159 := Aside0.mk (KeepBut.blk hk (g' := gb1159) (o := .cells #[.int .i64 t1152, .int .i64 t1153, .slice Ao13 t1154.length co13] 26 (0, 0)) (bq_ BK1159.out) NB1159_1151.out (by simp))
  replace HO1162 := Aside0.mk (Kd.R_mono (Kd.R_keep (IsS_l1Cur.apart (show IsS_l1Cur w _ g1151 t1148 t1164 t1165 from by repeat (first | (with_reducible first | exact HI1151.out | apply IsS_l1Cur.alloc | apply IsS_l1Cur.drewN | apply IsS_l1Cur.drew | apply IsS_l1Cur.set_1 | apply IsS_l1Cur.set_2 | refine IsS_l1Cur.far ?_ NB1151_1147.out _ | refine IsS_l1Cur.far ?_ NB1151_1159.out _) | exact HI1151.out)) (qe7_) (by decide)) hk (fun _ h => h.2)) (fun _ h => h.1))
  replace HO1168 := Aside0.mk (Kd.R_mono (Kd.R_keep (IsS_l1Cur.apart (show IsS_l1Cur w _ g1151 t1148 t1164 t1165 from by repeat (first | (with_reducible first | exact HI1151.out | apply IsS_l1Cur.alloc | apply IsS_l1Cur.drewN | apply IsS_l1Cur.drew | apply IsS_l1Cur.set_1 | apply IsS_l1Cur.set_2 | refine IsS_l1Cur.far ?_ NB1151_1147.out _ | refine IsS_l1Cur.far ?_ NB1151_1159.out _) | exact HI1151.out)) (by (with_reducible repeat (first | apply Kd.R_alloc | apply Kd.R_drewN | apply Kd.R_drew)); exact HO1168.out) (by decide)) hk (fun _ h => h.2)) (fun _ h => h.1))
  replace HB := Aside0.mk (hb)
  replace HI1151 := Aside0.mk (hi)
  (try clear hb); (try clear hb2); (try clear hk); (try clear hi)
  refine hK.out _ _ ⟨bc_ BK1159 0, bc_ BK1159 1, bc_ BK1159 2⟩ (fun hHeld => ?_)
  clear hK K
  refine norm_ (a' := ?_) ?_ ?_
  rotate_left
  · show Act.put _ (some 19) _ = _
    simp only [Act.put, List.setIfInBounds_toArray, List.set_cons_zero, List.set_cons_succ, i64_w, i32_w]
    rfl
  refine one_ (i := 5) (N := none) #[true, true, true, true, true, true, false, false] rfl rfl (one_of HT_.out (by kernel_rfl)) (by decide) (fun K hK => ?_)
  have hs23 : w22.cell? ⟨gb1147, 0, none⟩ = some (.int .i64 0) := bc_ BK1147 0
  have hfs23 := blk_frozen BK1147.out 0
  have hns23_1 := NB1159_1147.out
  have hms23_1 := NB1147_1159.out
  have hs24 : w22.cell? ⟨gb1147, 1, none⟩ = some (.int .i64 0) := bc_ BK1147 1
  have hfs24 := blk_frozen BK1147.out 1
  have hns24_1 := NB1159_1147.out
  have hms24_1 := NB1147_1159.out
  have hs25 : w22.cell? ⟨gb1147, 2, none⟩ = some (.slice none 0 0) := bc_ BK1147 2
  have hfs25 := blk_frozen BK1147.out 2
  have hns25_1 := NB1159_1147.out
  have hms25_1 := NB1147_1159.out
  refine skip_ (w1 := ?_) (by rfl) rfl ?_ ?_
  rotate_left
  · go_simp
    rfl
  refine hK.out _ _ ⟨(cfs_ NB1159_1147.out (hHeld.1)), (cfs_ NB1159_1147.out (hHeld.2.1)), (cfs_ NB1159_1147.out (hHeld.2.2))⟩ (fun hHeld => ?_)
  clear hK K
  refine pure_ (i := 6) (N := some 3) (v := ?_) (a' := ?_) #[true, true, true, true, true, true, true, false] rfl rfl (any_of HT_.out (by kernel_rfl)) (fun _ _ _ h => h) (Or.inl ⟨by rfl, ?_⟩) ?_ ?_
  rotate_left
  · intro w'
    go_simp
    with_reducible rfl
  rotate_left
  · simp only [Act.put, List.setIfInBounds_toArray, List.set_cons_zero, List.set_cons_succ, i64_w, i32_w]
    rfl
  refine pure_ (i := 7) (N := some 4) (v := ?_) (a' := ?_) #[true, true, true, true, true, true, true, true] rfl rfl (any_of HT_.out (by kernel_rfl)) (fun _ _ _ h => h) (Or.inl ⟨by rfl, ?_⟩) ?_ ?_
  rotate_left
  · intro w'
    go_simp
    with_reducible rfl
  rotate_left
  · simp only [Act.put, List.setIfInBounds_toArray, List.set_cons_zero, List.set_cons_succ, i64_w, i32_w]
    rfl
  refine done_ (done_of HT_.out (by kernel_rfl)) ?_
  try go_wp2
  refine bodyPost_ret (results_ctt rfl _ _ gb1147 26 #[.int .i64 t1152, .int .i64 t1153, .slice Ao13 t1154.length co13] (0, 0) _ rfl (bp_ BK1147.out) Try.underlying26 rfl (by kernel_rfl)) rfl ?_
  exact ⟨_, by first | rfl | (simp [errW_none, errW_some] <;> rfl) | (simp [*, errW_none, errW_some] <;> rfl), by (with_reducible repeat (first | apply Kd.R_alloc | apply Kd.R_drewN | apply Kd.R_drew)); exact Kd.R_mono (Kd.R_far (p := ⟨gb1147, 2, none⟩) (Kd.R_far (p := ⟨gb1147, 1, none⟩) (Kd.R_far (p := ⟨gb1147, 0, none⟩) (Kd.R_types HO1156.out BK1147.out (by decide)) (fun _ hk => hk.2) (.int .i64 t1152)) (fun _ hk => hk.2) (.int .i64 t1153)) (fun _ hk => hk.2) (.slice Ao13 t1154.length co13)) (fun _ hk => trivial), qe2_⟩
end Go.Proofs.Ythmjhhkheohgfaa.Q
