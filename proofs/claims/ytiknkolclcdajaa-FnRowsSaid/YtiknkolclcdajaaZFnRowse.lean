/- Made by a program of ours out of the print of the loaded functions: for each of some functions a plain function, and the walk that shows that a call comes to what it says. No condition but those of each theorem. -/
import Derived.Test.YtiknkolclcdajaaZFnRows0
import Derived.Test.YtiknkolclcdajaaZFnRowsa
import Derived.Test.YtiknkolclcdajaaZFnRowsb
import Derived.Test.YtiknkolclcdajaaZFnRowsd
namespace Go.Proofs.Ytiknkolclcdajaa.Q
open Go.RowKit Go.Proofs.YtiknkolclcdajaaW.PrintWords Go.Proofs.YtiknkolclcdajaaW.PrintLast Go.Proofs.YtiknkolclcdajaaW.PrintMore
attribute [local go_sem] max2_int min2_int max_two min_two max_three min_three max_four min_four   -- for this text's walks alone
set_option linter.unusedVariables false
set_option linter.unusedSimpArgs false
theorem qe0_ {P : Prop} (h : P := by repeat (first | (with_reducible first | exact HB.out | apply below_alloc | apply pw_below_drewN | apply below_drew1 | refine below_set ?_ (IsS_l1Cur.ge HI0.out) | refine below_set ?_ GE2149.out | refine below_set ?_ GE2157.out) | exact HB.out)) : P := h
theorem qe1_ {P : Prop} (h : P := by repeat (first | (with_reducible first | exact HK.out | apply KeepBut.set_ | apply keep_drewN | apply keep_drew | apply keep_alloc | refine keep_far ?_ GW2149.out _ | refine keep_far ?_ GW2157.out _) | exact HK.out)) : P := h
theorem qe2_ {P : Prop} (h : P := by repeat (first | (with_reducible first | exact HB.out | apply below_alloc | apply pw_below_drewN | apply below_drew1 | refine below_set ?_ (IsS_l1Cur.ge HI0.out) | refine below_set ?_ GE2106.out | refine below_set ?_ GE2107.out) | exact HB.out)) : P := h
theorem qe3_ {P : Prop} (h : P := by repeat (first | (with_reducible first | exact HK.out | apply KeepBut.set_ | apply keep_drewN | apply keep_drew | apply keep_alloc | refine keep_far ?_ GW2106.out _ | refine keep_far ?_ GW2107.out _) | exact HK.out)) : P := h
theorem qe4_ {P : Prop} (h : P := by first | rfl | (simp; done) | (simp [*]; done)) : P := h
theorem qeh0_ {P : Prop} (h : P := by repeat' first | (with_reducible exact ih0 _ _ _ _ _ _ _ _) | (with_reducible exact spec_RowPack.mono _ _ _ _ _) | (with_reducible exact spec_RowPut.mono _ _ _ _ _ _ _ _) | (with_reducible exact spec_RowTrim.mono _ _ _ _ _ _) | (with_reducible exact LeO.refl _) | (with_reducible exact LeO.none _) | (with_reducible refine LeO.ite ?_ ?_) | (with_reducible refine LeO.bind ?_ (fun _ => ?_)) | exact ih0 _ _ _ _ _ _ _ _ | exact spec_RowPack.mono _ _ _ _ _ | exact spec_RowPut.mono _ _ _ _ _ _ _ _ | exact spec_RowTrim.mono _ _ _ _ _ _ | exact LeO.none _ | refine LeO.ite ?_ ?_ | refine LeO.bind ?_ (fun _ => ?_)) : P := h
theorem qeh1_ {P : Prop} (h : P := by repeat' first | (with_reducible exact ih0 _ _ _ _ _ _) | (with_reducible exact spec_RowPut.mono _ _ _ _ _ _ _ _) | (with_reducible exact spec_l3DrawRight.mono _ _ _ _) | (with_reducible exact LeO.refl _) | (with_reducible exact LeO.none _) | (with_reducible refine LeO.ite ?_ ?_) | (with_reducible refine LeO.bind ?_ (fun _ => ?_)) | exact ih0 _ _ _ _ _ _ | exact spec_RowPut.mono _ _ _ _ _ _ _ _ | exact spec_l3DrawRight.mono _ _ _ _ | exact LeO.none _ | refine LeO.ite ?_ ?_ | refine LeO.bind ?_ (fun _ => ?_)) : P := h

/-! ### spec_l3DrawRight: function 154 -/
abbrev spec_l3DrawRight.m0 : Array Bool := #[f_,f_,f_,f_,f_,f_,f_,f_,f_,f_,f_,f_,f_,f_]
abbrev spec_l3DrawRight.m1 : Array Bool := #[f_,t_,f_,f_,f_,f_,f_,f_,f_,f_,f_,f_,f_,f_]
abbrev spec_l3DrawRight.m2 : Array Bool := #[f_,t_,f_,t_,f_,f_,f_,f_,f_,f_,f_,f_,f_,f_]
abbrev spec_l3DrawRight.m3 : Array Bool := #[f_,t_,f_,t_,f_,t_,f_,f_,f_,f_,f_,f_,f_,f_]
abbrev spec_l3DrawRight.m4 : Array Bool := #[f_,t_,f_,t_,f_,t_,f_,t_,f_,f_,f_,f_,f_,f_]
abbrev spec_l3DrawRight.m5 : Array Bool := #[t_,t_,f_,t_,f_,t_,f_,t_,f_,f_,f_,f_,f_,f_]
abbrev spec_l3DrawRight.m6 : Array Bool := #[t_,t_,t_,t_,f_,t_,f_,t_,f_,f_,f_,f_,f_,f_]
abbrev spec_l3DrawRight.m7 : Array Bool := #[t_,t_,t_,t_,t_,t_,f_,t_,f_,f_,f_,f_,f_,f_]
abbrev spec_l3DrawRight.m8 : Array Bool := #[t_,t_,t_,t_,t_,t_,t_,t_,f_,f_,f_,f_,f_,f_]
abbrev spec_l3DrawRight.m9 : Array Bool := #[t_,t_,t_,t_,t_,t_,t_,t_,t_,f_,f_,f_,f_,f_]
abbrev spec_l3DrawRight.m10 : Array Bool := #[t_,t_,t_,t_,t_,t_,t_,t_,t_,t_,f_,f_,f_,f_]
abbrev spec_l3DrawRight.m11 : Array Bool := #[t_,t_,t_,t_,t_,t_,t_,t_,t_,t_,t_,f_,f_,f_]
abbrev spec_l3DrawRight.m12 : Array Bool := #[t_,t_,t_,t_,t_,t_,t_,t_,t_,t_,t_,t_,f_,f_]
abbrev spec_l3DrawRight.m13 : Array Bool := #[t_,t_,t_,t_,t_,t_,t_,t_,t_,t_,t_,t_,t_,f_]
abbrev spec_l3DrawRight.m14 : Array Bool := #[t_,t_,t_,t_,t_,t_,t_,t_,t_,t_,t_,t_,t_,t_]
def spec_l3DrawRight.l0 : Nat → Int → Int → List Int → Int → Int → Int → Int → List (S_Item) → Option (Int × Int × (List (S_Item)) × Int × Int)
 | 0, _, _, _, _, _, _, _, _ => none
 | k + 1, x4, x5, x1000, x1001, x1002, x2108000, x2108001, x2108002 => if x5 < x4 then ((spec_l2DrawText.f x1000 x1001 x1002).bind fun bt2111 => ((spec_l2DrawText.f x1000 bt2111.2.1 bt2111.2.2).bind fun bt2114 => ((spec_l1Below.f x1000 bt2114.2.1 bt2114.2.2 4).bind fun bt2117 => ((spec_RowPut.f k x2108000 x2108001 x2108002 bt2111.1 bt2114.1 bt2117.1 x5).bind fun bt2120 => ((spec_l1Below.f x1000 bt2117.2.1 bt2117.2.2 12).bind fun bt2127 => (if bt2127.1 = 0 then ((spec_l1Below.f x1000 bt2127.2.1 bt2127.2.2 3).bind fun bt2130 => ((spec_l1Below.f x1000 bt2130.2.1 bt2130.2.2 4).bind fun bt2133 => ((spec_RowTrim.f k bt2120.1 bt2120.2.1 bt2120.2.2.1 (wrap64 (1 + bt2130.1)) bt2133.1).bind fun bt2136 => (spec_l3DrawRight.l0 k x4 (wrap64 (x5 + 1)) x1000 bt2133.2.1 bt2133.2.2 bt2136.1 bt2136.2.1 bt2136.2.2)))) else (if bt2127.1 = 1 then ((spec_l1Below.f x1000 bt2127.2.1 bt2127.2.2 3).bind fun bt2141 => ((spec_RowPack.f k bt2120.1 bt2120.2.1 bt2120.2.2.1 (wrap64 (1 + bt2141.1))).bind fun bt2144 => (spec_l3DrawRight.l0 k x4 (wrap64 (x5 + 1)) x1000 bt2141.2.1 bt2141.2.2 bt2144.1 bt2144.2.1 bt2144.2.2))) else (spec_l3DrawRight.l0 k x4 (wrap64 (x5 + 1)) x1000 bt2127.2.1 bt2127.2.2 bt2120.1 bt2120.2.1 bt2120.2.2.1)))))))) else (some (x2108000, x2108001, x2108002, x1001, x1002))
def spec_l3DrawRight.f (k : Nat) (s0_0 : List Int) (s0_1 : Int) (s0_2 : Int) : Option (Int × Int × (List (S_Item)) × Int × Int) := (spec_l1Below.f s0_0 s0_1 s0_2 14).bind fun bt2108 => (spec_l3DrawRight.l0 k bt2108.1 0 s0_0 bt2108.2.1 bt2108.2.2 0 0 ([] : List (S_Item)))
theorem spec_l3DrawRight.mono_l : ∀ k, (∀ y0 y1 y2 y3 y4 y5 y6 y7, LeO (spec_l3DrawRight.l0 k y0 y1 y2 y3 y4 y5 y6 y7) (spec_l3DrawRight.l0 (k + 1) y0 y1 y2 y3 y4 y5 y6 y7))
 | 0 => fun _ _ _ _ _ _ _ _ r h => by simp [spec_l3DrawRight.l0] at h
 | k + 1 => by
  have ih0 := spec_l3DrawRight.mono_l k
  ·
   intro y0 y1 y2 y3 y4 y5 y6 y7
   unfold spec_l3DrawRight.l0
   exact qeh0_
theorem spec_l3DrawRight.mono : ∀ a0 a1 a2 k, LeO (spec_l3DrawRight.f k a0 a1 a2) (spec_l3DrawRight.f (k + 1) a0 a1 a2) := by
 intro a0 a1 a2 k
 have ih0 := spec_l3DrawRight.mono_l k
 unfold spec_l3DrawRight.f
 exact qeh0_
def spec_l3DrawRight.T6 : Bool × List (List Nat × List Nat) := (true, [([], []), ([], []), ([1], [1]), ([], []), ([3, 2], [3]), ([], []), ([5, 4], [5]), ([], []), ([0, 2, 4, 6, 7, 6], [0, 2, 4, 6, 7]), ([8], [8]), ([9], [9]), ([9], [9]), ([9], [9]), ([10, 8, 0, 1, 2, 3, 4, 5, 6, 7, 8, 9, 10], [10])])
def spec_l3DrawRight.B6 : List Nat := [0, 0, 2, 0, 14, 0, 62, 0, 255, 511, 1023, 1023, 1023, 2047]
theorem spec_l3DrawRight.tab6 : rtab .any (opsOf Try.f154 6) = spec_l3DrawRight.T6 := by kernel_rfl
theorem spec_l3DrawRight.bits6 : waitsOk spec_l3DrawRight.T6.2 spec_l3DrawRight.B6 = true := by kernel_rfl
def spec_l3DrawRight.T9 : Bool × List (List Nat × List Nat) := (true, [([], []), ([], []), ([1], [1]), ([2], [2]), ([], []), ([4, 2], [4]), ([0, 3, 5, 5], [0, 3, 5]), ([6, 6, 0, 1, 2, 3, 4, 5, 6], [6])])
def spec_l3DrawRight.B9 : List Nat := [0, 0, 2, 6, 0, 22, 63, 127]
theorem spec_l3DrawRight.tab9 : rtab .any (opsOf Try.f154 9) = spec_l3DrawRight.T9 := by kernel_rfl
theorem spec_l3DrawRight.bits9 : waitsOk spec_l3DrawRight.T9.2 spec_l3DrawRight.B9 = true := by kernel_rfl
set_option maxHeartbeats 8000000 in
set_option maxRecDepth 100000 in
theorem spec_l3DrawRight.calls (k : Nat) (g : Nat) (s0_0 : List Int) (s0_1 : Int) (s0_2 : Int) (r1 : Int) (r2 : Int) (r3 : List (S_Item)) (r4 : Int) (r5 : Int) (w0 w : World) (hI : IsS_l1Cur w0 w g s0_0 s0_1 s0_2) (hB : Below w0.heap.size w0 w) (h : spec_l3DrawRight.f k s0_0 s0_1 s0_2 = some (r1, r2, r3, r4, r5)) :
 Calls Try.prog 154 #[.pointer (some ⟨g, 0, none⟩)] w fun e w' => ∃ v2_ : Value, e = .returned (.agg #[.int .i64 r1, .int .i64 r2, v2_]) ∧ Kd.R k_Item 69 w' w.heap.size (fun _ => True) v2_ r3 ∧ IsS_l1Cur w0 w' g s0_0 r4 r5 ∧ Below w0.heap.size w0 w' ∧ KeepBut w w' g none := by
 have hu57 := Try.underlying57
 have HI0 := Aside0.mk hI
 have HK := Aside0.mk (KeepBut.refl w g none)
 have HL := Aside0.mk hB.size
 clear hI
 have HW0 := Aside0.mk hB.size
 have HB := Aside0.mk hB
 clear hB
 have H : ((spec_l1Below.f s0_0 s0_1 s0_2 14).bind fun bt2108 => (spec_l3DrawRight.l0 k bt2108.1 0 s0_0 bt2108.2.1 bt2108.2.2 0 0 ([] : List (S_Item)))) = some (r1, r2, r3, r4, r5) := h
 clear h
 replace H := Option.bind_eq_some_iff.mp H
 obtain ⟨⟨t2108, t2109, t2110⟩, A20, H⟩ := H
 replace H : (spec_l3DrawRight.l0 k t2108 0 s0_0 t2109 t2110 0 0 ([] : List (S_Item))) = some (r1, r2, r3, r4, r5) := H
 have A2 := Aside0.mk A20
 clear A20
 have H' := Aside0.mk H
 clear H
 go_enter Try.func154, Try.ntmps154
 go_wp2_with (first | ((with_reducible refine gate_dst (N := 2) rfl ?_); refine box_event ?hg (N := 2) ?hd (cs := #[.int .i64 0, .int .i64 0, .slice none 0 0]) (t := 57) ?hr ?_; (case hd => rfl); (case hg => rfl); (case hr => first | (go_simp; done) | (go_simp; rfl)); intro gb2106 hg w3 hbox hb; have BK2106 := Aside0.mk (hbox); have GW2106 := Aside0.mk ((by rw [hg]; exact (keep_size (w := w) (g := g) (row := none) (hk_ HK.out)) : w.heap.size ≤ gb2106)); have GE2106 := Aside0.mk ((Nat.le_trans HW0.out (by rw [hg]; exact (keep_size (w := w) (g := g) (row := none) (hk_ HK.out)) : w.heap.size ≤ gb2106) : w0.heap.size ≤ gb2106)); have NB0_2106 := Aside0.mk ((by rw [hg]; exact Nat.ne_of_lt (IsS_l1Cur.lt (show IsS_l1Cur w0 _ g s0_0 s0_1 s0_2 from is_l1Cur_ HI0.out)) : g ≠ gb2106)); have NB2106_0 := Aside0.mk ((by rw [hg]; exact Nat.ne_of_gt (IsS_l1Cur.lt (show IsS_l1Cur w0 _ g s0_0 s0_1 s0_2 from is_l1Cur_ HI0.out)) : gb2106 ≠ g)); replace HI0 := Aside0.mk (IsS_l1Cur.below (is_l1Cur_ HI0.out) hb); replace HK := Aside0.mk (KeepBut.trans (hk_ HK.out) (KeepBut.of_below hb g none) (.inl rfl)); replace HB := Aside0.mk (below_step (hi_ HB.out) hb); clear hb hbox hg) | ((with_reducible refine gate_dst (N := 3) rfl ?_); refine box_event ?hg (N := 3) ?hd (cs := #[.int .i64 0, .int .i64 0, .slice none 0 0]) (t := 57) ?hr ?_; (case hd => rfl); (case hg => rfl); (case hr => first | (go_simp; done) | (go_simp; rfl)); intro gb2107 hg w4 hbox hb; have BK2107 := Aside0.mk (hbox); have GW2107 := Aside0.mk ((by rw [hg]; exact (keep_size (w := w) (g := g) (row := none) (hk_ HK.out)) : w.heap.size ≤ gb2107)); have GE2107 := Aside0.mk ((Nat.le_trans HW0.out (by rw [hg]; exact (keep_size (w := w) (g := g) (row := none) (hk_ HK.out)) : w.heap.size ≤ gb2107) : w0.heap.size ≤ gb2107)); have NB2106_2107 := cn_ BK2106 hg; have NB2107_2106 := cm_ BK2106 hg; have NB0_2107 := Aside0.mk ((by rw [hg]; exact Nat.ne_of_lt (IsS_l1Cur.lt (show IsS_l1Cur w0 _ g s0_0 s0_1 s0_2 from is_l1Cur_ HI0.out)) : g ≠ gb2107)); have NB2107_0 := Aside0.mk ((by rw [hg]; exact Nat.ne_of_gt (IsS_l1Cur.lt (show IsS_l1Cur w0 _ g s0_0 s0_1 s0_2 from is_l1Cur_ HI0.out)) : gb2107 ≠ g)); replace HI0 := Aside0.mk (IsS_l1Cur.below (is_l1Cur_ HI0.out) hb); replace BK2106 := cb_ BK2106 hb; replace HK := Aside0.mk (KeepBut.trans (hk_ HK.out) (KeepBut.of_below hb g none) (.inl rfl)); replace HB := Aside0.mk (below_step (hi_ HB.out) hb); clear hb hbox hg; have hnb5 := NB2107_2106.out; have hnc5 := NB2106_2107.out; have hnb6 := NB2107_0.out; have hnc6 := NB0_2107.out; have hcz7_0 : w4.cell? ⟨gb2107, 0, none⟩ = some (.int .i64 0) := bc_ BK2107 0; have hcz7_1 : w4.cell? ⟨gb2107, 1, none⟩ = some (.int .i64 0) := bc_ BK2107 1; have hcz7_2 : w4.cell? ⟨gb2107, 2, none⟩ = some (.slice none 0 0) := bc_ BK2107 2; have hfz7_0 := blk_frozen BK2107.out 0; have hfz7_1 := blk_frozen BK2107.out 1; have hfz7_2 := blk_frozen BK2107.out 2) | ((with_reducible refine gate_callee (f := 78) rfl ?_); refine goesL_ (some 8) rfl rfl Try.func78 (by kernel_rfl) rfl #[.pointer (some ⟨g, 0, none⟩), .int .i64 14] rfl sm_ ?_; (with_reducible refine (spec_l1Below.calls g s0_0 s0_1 s0_2 14 t2108 t2109 t2110 w0 _ ?side1 ?side2 A2.out).mono ?_); (case side1 => repeat (first | (with_reducible first | exact HI0.out | apply IsS_l1Cur.alloc | apply IsS_l1Cur.drewN | apply IsS_l1Cur.drew | apply IsS_l1Cur.set_1 | apply IsS_l1Cur.set_2 | refine IsS_l1Cur.far ?_ NB0_2106.out _ | refine IsS_l1Cur.far ?_ NB0_2107.out _) | exact HI0.out)); (case side2 => repeat (first | (with_reducible first | exact HB.out | apply below_alloc | apply pw_below_drewN | apply below_drew1 | refine below_set ?_ (IsS_l1Cur.ge HI0.out) | refine below_set ?_ GE2106.out | refine below_set ?_ GE2107.out) | exact HB.out)); rintro e w8 ⟨rfl, hi, hb, hk⟩; refine ⟨_, rfl, ?_⟩; replace BK2106 := Aside0.mk (KeepBut.blk hk (g' := gb2106) (o := .cells #[.int .i64 0, .int .i64 0, .slice none 0 0] 57 (0, 0)) (bf_ NB2106_2107.out BK2106.out) NB2106_0.out (by simp)); replace BK2107 := Aside0.mk (KeepBut.blk hk (g' := gb2107) (o := .cells #[.int .i64 0, .int .i64 0, .slice none 0 0] 57 (0, 0)) (bp_ BK2107.out) NB2107_0.out (by simp)); replace HK := Aside0.mk (KeepBut.trans (hk_ HK.out) hk (.inl rfl)); replace HB := Aside0.mk (hb); replace HI0 := Aside0.mk (hi); (try clear hb); (try clear hb2); (try clear hk); (try clear hi)))
 go_loopg [5] k (fun kq v5 w' => ∃ (x5_1 : Int) (x1001_1 : Int) (x1002_1 : Int) (x2108000_1 : Int) (x2108001_1 : Int) (x2108002_1 : List (S_Item)) (u2108002 : Value), v5 = .int .i64 x5_1 ∧ Aside0 (spec_l3DrawRight.l0 kq t2108 x5_1 s0_0 x1001_1 x1002_1 x2108000_1 x2108001_1 x2108002_1 = some (r1, r2, r3, r4, r5)) ∧ Aside0 (kq ≤ k) ∧ Aside0 (Kd.R k_Item 69 w' w.heap.size (fun _ => True) u2108002 x2108002_1) ∧ Aside0 (w'.heap[gb2106]? = some (.cells #[.int .i64 0, .int .i64 0, (.slice none 0 0)] 57 (0, 0))) ∧ Aside0 (w'.heap[gb2107]? = some (.cells #[.int .i64 x2108000_1, .int .i64 x2108001_1, u2108002] 57 (0, 0))) ∧ Aside0 (IsS_l1Cur w0 w' g s0_0 x1001_1 x1002_1) ∧ Aside0 (KeepBut w w' g none) ∧ Aside0 (Below w0.heap.size w0 w'))
 case atStart => exact ⟨(0), (t2109), (t2110), (0), (0), (([] : List (S_Item))), (.slice none 0 0), (qe4_), H', ⟨Nat.le_refl _⟩, ⟨by first | exact Kd.R_nil _ _ _ _ _ | exact Kd.N_nil _ _ _ _ _ | exact Kd.V_nil _ _ _ _ _ | exact Kd.Q_nil _ _ _ _ _ | exact Kd.S_nil _ _ _ _ _⟩, ⟨bq_ BK2106.out⟩, ⟨bq_ BK2107.out⟩, ⟨is_l1Cur_ HI0.out⟩, ⟨qe3_⟩, ⟨qe2_⟩⟩
 case round =>
  clear H'
  (try clear hcz7_0); (try clear hcz7_1); (try clear hcz7_2); (try clear hfz7_0); (try clear hfz7_1); (try clear hfz7_2)
  obtain ⟨x5_1, x1001_1, x1002_1, x2108000_1, x2108001_1, x2108002_1, u2108002, rfl, HA, HK1, HO_2108002, BK2106, BK2107, HI0, HK, HB⟩ := hrel
  cases gk with
  | zero => exact absurd HA.out (by simp [spec_l3DrawRight.l0])
  | succ k1 =>
   have H := HA.out
   clear HA
   simp only [spec_l3DrawRight.l0] at H
   by_cases c9 : x5_1 < t2108
   ·
    rw [if_pos c9] at H
    have c9b0 : decide (x5_1 < t2108) = true := decide_eq_true c9
    clear c9
    replace H := Option.bind_eq_some_iff.mp H
    obtain ⟨⟨t2111, t2112, t2113⟩, A100, H⟩ := H
    replace H : ((spec_l2DrawText.f s0_0 t2112 t2113).bind fun bt2114 => ((spec_l1Below.f s0_0 bt2114.2.1 bt2114.2.2 4).bind fun bt2117 => ((spec_RowPut.f k1 x2108000_1 x2108001_1 x2108002_1 t2111 bt2114.1 bt2117.1 x5_1).bind fun bt2120 => ((spec_l1Below.f s0_0 bt2117.2.1 bt2117.2.2 12).bind fun bt2127 => (if bt2127.1 = 0 then ((spec_l1Below.f s0_0 bt2127.2.1 bt2127.2.2 3).bind fun bt2130 => ((spec_l1Below.f s0_0 bt2130.2.1 bt2130.2.2 4).bind fun bt2133 => ((spec_RowTrim.f k1 bt2120.1 bt2120.2.1 bt2120.2.2.1 (wrap64 (1 + bt2130.1)) bt2133.1).bind fun bt2136 => (spec_l3DrawRight.l0 k1 t2108 (wrap64 (x5_1 + 1)) s0_0 bt2133.2.1 bt2133.2.2 bt2136.1 bt2136.2.1 bt2136.2.2)))) else (if bt2127.1 = 1 then ((spec_l1Below.f s0_0 bt2127.2.1 bt2127.2.2 3).bind fun bt2141 => ((spec_RowPack.f k1 bt2120.1 bt2120.2.1 bt2120.2.2.1 (wrap64 (1 + bt2141.1))).bind fun bt2144 => (spec_l3DrawRight.l0 k1 t2108 (wrap64 (x5_1 + 1)) s0_0 bt2141.2.1 bt2141.2.2 bt2144.1 bt2144.2.1 bt2144.2.2))) else (spec_l3DrawRight.l0 k1 t2108 (wrap64 (x5_1 + 1)) s0_0 bt2127.2.1 bt2127.2.2 bt2120.1 bt2120.2.1 bt2120.2.2.1))))))) = some (r1, r2, r3, r4, r5) := H
    have A10 := Aside0.mk A100
    clear A100
    replace H := Option.bind_eq_some_iff.mp H
    obtain ⟨⟨t2114, t2115, t2116⟩, A110, H⟩ := H
    replace H : ((spec_l1Below.f s0_0 t2115 t2116 4).bind fun bt2117 => ((spec_RowPut.f k1 x2108000_1 x2108001_1 x2108002_1 t2111 t2114 bt2117.1 x5_1).bind fun bt2120 => ((spec_l1Below.f s0_0 bt2117.2.1 bt2117.2.2 12).bind fun bt2127 => (if bt2127.1 = 0 then ((spec_l1Below.f s0_0 bt2127.2.1 bt2127.2.2 3).bind fun bt2130 => ((spec_l1Below.f s0_0 bt2130.2.1 bt2130.2.2 4).bind fun bt2133 => ((spec_RowTrim.f k1 bt2120.1 bt2120.2.1 bt2120.2.2.1 (wrap64 (1 + bt2130.1)) bt2133.1).bind fun bt2136 => (spec_l3DrawRight.l0 k1 t2108 (wrap64 (x5_1 + 1)) s0_0 bt2133.2.1 bt2133.2.2 bt2136.1 bt2136.2.1 bt2136.2.2)))) else (if bt2127.1 = 1 then ((spec_l1Below.f s0_0 bt2127.2.1 bt2127.2.2 3).bind fun bt2141 => ((spec_RowPack.f k1 bt2120.1 bt2120.2.1 bt2120.2.2.1 (wrap64 (1 + bt2141.1))).bind fun bt2144 => (spec_l3DrawRight.l0 k1 t2108 (wrap64 (x5_1 + 1)) s0_0 bt2141.2.1 bt2141.2.2 bt2144.1 bt2144.2.1 bt2144.2.2))) else (spec_l3DrawRight.l0 k1 t2108 (wrap64 (x5_1 + 1)) s0_0 bt2127.2.1 bt2127.2.2 bt2120.1 bt2120.2.1 bt2120.2.2.1)))))) = some (r1, r2, r3, r4, r5) := H
    have A11 := Aside0.mk A110
    clear A110
    replace H := Option.bind_eq_some_iff.mp H
    obtain ⟨⟨t2117, t2118, t2119⟩, A120, H⟩ := H
    replace H : ((spec_RowPut.f k1 x2108000_1 x2108001_1 x2108002_1 t2111 t2114 t2117 x5_1).bind fun bt2120 => ((spec_l1Below.f s0_0 t2118 t2119 12).bind fun bt2127 => (if bt2127.1 = 0 then ((spec_l1Below.f s0_0 bt2127.2.1 bt2127.2.2 3).bind fun bt2130 => ((spec_l1Below.f s0_0 bt2130.2.1 bt2130.2.2 4).bind fun bt2133 => ((spec_RowTrim.f k1 bt2120.1 bt2120.2.1 bt2120.2.2.1 (wrap64 (1 + bt2130.1)) bt2133.1).bind fun bt2136 => (spec_l3DrawRight.l0 k1 t2108 (wrap64 (x5_1 + 1)) s0_0 bt2133.2.1 bt2133.2.2 bt2136.1 bt2136.2.1 bt2136.2.2)))) else (if bt2127.1 = 1 then ((spec_l1Below.f s0_0 bt2127.2.1 bt2127.2.2 3).bind fun bt2141 => ((spec_RowPack.f k1 bt2120.1 bt2120.2.1 bt2120.2.2.1 (wrap64 (1 + bt2141.1))).bind fun bt2144 => (spec_l3DrawRight.l0 k1 t2108 (wrap64 (x5_1 + 1)) s0_0 bt2141.2.1 bt2141.2.2 bt2144.1 bt2144.2.1 bt2144.2.2))) else (spec_l3DrawRight.l0 k1 t2108 (wrap64 (x5_1 + 1)) s0_0 bt2127.2.1 bt2127.2.2 bt2120.1 bt2120.2.1 bt2120.2.2.1))))) = some (r1, r2, r3, r4, r5) := H
    have A12 := Aside0.mk A120
    clear A120
    replace H := Option.bind_eq_some_iff.mp H
    obtain ⟨⟨t2120, t2121, t2122, t2125, t2126⟩, A130, H⟩ := H
    replace H : ((spec_l1Below.f s0_0 t2118 t2119 12).bind fun bt2127 => (if bt2127.1 = 0 then ((spec_l1Below.f s0_0 bt2127.2.1 bt2127.2.2 3).bind fun bt2130 => ((spec_l1Below.f s0_0 bt2130.2.1 bt2130.2.2 4).bind fun bt2133 => ((spec_RowTrim.f k1 t2120 t2121 t2122 (wrap64 (1 + bt2130.1)) bt2133.1).bind fun bt2136 => (spec_l3DrawRight.l0 k1 t2108 (wrap64 (x5_1 + 1)) s0_0 bt2133.2.1 bt2133.2.2 bt2136.1 bt2136.2.1 bt2136.2.2)))) else (if bt2127.1 = 1 then ((spec_l1Below.f s0_0 bt2127.2.1 bt2127.2.2 3).bind fun bt2141 => ((spec_RowPack.f k1 t2120 t2121 t2122 (wrap64 (1 + bt2141.1))).bind fun bt2144 => (spec_l3DrawRight.l0 k1 t2108 (wrap64 (x5_1 + 1)) s0_0 bt2141.2.1 bt2141.2.2 bt2144.1 bt2144.2.1 bt2144.2.2))) else (spec_l3DrawRight.l0 k1 t2108 (wrap64 (x5_1 + 1)) s0_0 bt2127.2.1 bt2127.2.2 t2120 t2121 t2122)))) = some (r1, r2, r3, r4, r5) := H
    have A13 := Aside0.mk A130
    clear A130
    replace H := Option.bind_eq_some_iff.mp H
    obtain ⟨⟨t2127, t2128, t2129⟩, A140, H⟩ := H
    replace H : (if t2127 = 0 then ((spec_l1Below.f s0_0 t2128 t2129 3).bind fun bt2130 => ((spec_l1Below.f s0_0 bt2130.2.1 bt2130.2.2 4).bind fun bt2133 => ((spec_RowTrim.f k1 t2120 t2121 t2122 (wrap64 (1 + bt2130.1)) bt2133.1).bind fun bt2136 => (spec_l3DrawRight.l0 k1 t2108 (wrap64 (x5_1 + 1)) s0_0 bt2133.2.1 bt2133.2.2 bt2136.1 bt2136.2.1 bt2136.2.2)))) else (if t2127 = 1 then ((spec_l1Below.f s0_0 t2128 t2129 3).bind fun bt2141 => ((spec_RowPack.f k1 t2120 t2121 t2122 (wrap64 (1 + bt2141.1))).bind fun bt2144 => (spec_l3DrawRight.l0 k1 t2108 (wrap64 (x5_1 + 1)) s0_0 bt2141.2.1 bt2141.2.2 bt2144.1 bt2144.2.1 bt2144.2.2))) else (spec_l3DrawRight.l0 k1 t2108 (wrap64 (x5_1 + 1)) s0_0 t2128 t2129 t2120 t2121 t2122))) = some (r1, r2, r3, r4, r5) := H
    have A14 := Aside0.mk A140
    clear A140
    by_cases c15 : t2127 = 0
    ·
     rw [if_pos c15] at H
     have c15b0 : (t2127 == 0) = true := beq_iff_eq.mpr c15
     have c15b1 : (t2127 != 0) = false := bne_eq_false_iff_eq.mpr c15
     clear c15
     replace H := Option.bind_eq_some_iff.mp H
     obtain ⟨⟨t2130, t2131, t2132⟩, A160, H⟩ := H
     replace H : ((spec_l1Below.f s0_0 t2131 t2132 4).bind fun bt2133 => ((spec_RowTrim.f k1 t2120 t2121 t2122 (wrap64 (1 + t2130)) bt2133.1).bind fun bt2136 => (spec_l3DrawRight.l0 k1 t2108 (wrap64 (x5_1 + 1)) s0_0 bt2133.2.1 bt2133.2.2 bt2136.1 bt2136.2.1 bt2136.2.2))) = some (r1, r2, r3, r4, r5) := H
     have A16 := Aside0.mk A160
     clear A160
     replace H := Option.bind_eq_some_iff.mp H
     obtain ⟨⟨t2133, t2134, t2135⟩, A170, H⟩ := H
     replace H : ((spec_RowTrim.f k1 t2120 t2121 t2122 (wrap64 (1 + t2130)) t2133).bind fun bt2136 => (spec_l3DrawRight.l0 k1 t2108 (wrap64 (x5_1 + 1)) s0_0 t2134 t2135 bt2136.1 bt2136.2.1 bt2136.2.2)) = some (r1, r2, r3, r4, r5) := H
     have A17 := Aside0.mk A170
     clear A170
     replace H := Option.bind_eq_some_iff.mp H
     obtain ⟨⟨t2136, t2137, t2138⟩, A180, H⟩ := H
     replace H : (spec_l3DrawRight.l0 k1 t2108 (wrap64 (x5_1 + 1)) s0_0 t2134 t2135 t2136 t2137 t2138) = some (r1, r2, r3, r4, r5) := H
     have A18 := Aside0.mk A180
     clear A180
     have H' := Aside0.mk H
     clear H
     try go_wp2
     replace HO_2108002 := Aside0.mk (Kd.R_drew HO_2108002.out)
     replace BK2106 := Aside0.mk (blk_drew BK2106.out)
     replace BK2107 := Aside0.mk (blk_drew BK2107.out)
     replace HI0 := Aside0.mk (IsS_l1Cur.drew HI0.out)
     replace HK := Aside0.mk (keep_drew HK.out)
     replace HB := Aside0.mk (below_drew1 HB.out)
     refine start_ (n := 14) (S := fun w' => w'.cell? ⟨gb2107, 0, none⟩ = some (.int .i64 x2108000_1) ∧ w'.cell? ⟨gb2107, 1, none⟩ = some (.int .i64 x2108001_1) ∧ w'.cell? ⟨gb2107, 2, none⟩ = some (u2108002)) (ds := [13]) spec_l3DrawRight.m0 (by kernel_rfl) rfl rfl ⟨bc_ BK2107 0, bc_ BK2107 1, bc_ BK2107 2⟩ (fun hHeld => ?_); refine with_tabW spec_l3DrawRight.tab6 spec_l3DrawRight.bits6 (fun HT_ HW_ => ?_)
     generalize wr.drew = w19 at HO_2108002 BK2106 BK2107 HI0 HK HB hHeld ⊢
     refine pI_ 1 16 HT_ spec_l3DrawRight.m1 rfl rfl ?_
     refine pI_ 3 18 HT_ spec_l3DrawRight.m2 rfl rfl ?_
     refine pI_ 5 20 HT_ spec_l3DrawRight.m3 rfl rfl ?_
     refine pI_ 7 22 HT_ spec_l3DrawRight.m4 rfl rfl ?_
     refine tk_ 0 15 HT_ HW_ spec_l3DrawRight.m5 rfl rfl hHeld ?_
     refine on_ 2 17 HT_ spec_l3DrawRight.m6 rfl rfl (fun K hK => ?_)
     refine goes_ Try.func103 (by kernel_rfl) rfl #[.pointer (some ⟨g, 0, none⟩)] (by rfl) rfl rfl sm_ ?_
     with_reducible refine (spec_l2DrawText.calls g s0_0 x1001_1 x1002_1 t2111 t2112 t2113 w0 _ ?side1 ?side2 A10.out).mono ?_
     (case side1 => repeat (first | (with_reducible first | exact HI0.out | apply IsS_l1Cur.alloc | apply IsS_l1Cur.drewN | apply IsS_l1Cur.drew | apply IsS_l1Cur.set_1 | apply IsS_l1Cur.set_2 | refine IsS_l1Cur.far ?_ NB0_2106.out _ | refine IsS_l1Cur.far ?_ NB0_2107.out _) | exact HI0.out))
     (case side2 => repeat (first | (with_reducible first | exact HB.out | apply below_alloc | apply pw_below_drewN | apply below_drew1 | refine below_set ?_ (IsS_l1Cur.ge HI0.out) | refine below_set ?_ GE2106.out | refine below_set ?_ GE2107.out) | exact HB.out))
     rintro e w20 ⟨rfl, hi, hb, hk⟩
     refine ⟨_, rfl, ?_⟩
     replace HO_2108002 := Aside0.mk (Kd.R_mono (Kd.R_keep (IsS_l1Cur.apart (show IsS_l1Cur w0 _ g s0_0 x1001_1 x1002_1 from is_l1Cur_ HI0.out) (rq_ HO_2108002.out) (by decide)) hk (fun _ h => h.2)) (fun _ h => h.1))
     replace BK2106 := Aside0.mk (KeepBut.blk hk (g' := gb2106) (o := .cells #[.int .i64 0, .int .i64 0, .slice none 0 0] 57 (0, 0)) (bq_ BK2106.out) NB2106_0.out (by simp))
     replace BK2107 := Aside0.mk (KeepBut.blk hk (g' := gb2107) (o := .cells #[.int .i64 x2108000_1, .int .i64 x2108001_1, u2108002] 57 (0, 0)) (bq_ BK2107.out) NB2107_0.out (by simp))
     replace HK := Aside0.mk (KeepBut.trans (hk_ HK.out) hk (.inl rfl))
     replace HB := Aside0.mk (hb)
     replace HI0 := Aside0.mk (hi)
     (try clear hb); (try clear hb2); (try clear hk); (try clear hi)
     refine hK.out _ _ ⟨bc_ BK2107 0, bc_ BK2107 1, bc_ BK2107 2⟩ (fun hHeld => ?_)
     clear hK K
     refine nm_ ?_
     refine on_ 4 19 HT_ spec_l3DrawRight.m7 rfl rfl (fun K hK => ?_)
     refine goes_ Try.func103 (by kernel_rfl) rfl #[.pointer (some ⟨g, 0, none⟩)] (by rfl) rfl rfl sm_ ?_
     with_reducible refine (spec_l2DrawText.calls g s0_0 t2112 t2113 t2114 t2115 t2116 w0 _ ?side1 ?side2 A11.out).mono ?_
     (case side1 => repeat (first | (with_reducible first | exact HI0.out | apply IsS_l1Cur.alloc | apply IsS_l1Cur.drewN | apply IsS_l1Cur.drew | apply IsS_l1Cur.set_1 | apply IsS_l1Cur.set_2 | refine IsS_l1Cur.far ?_ NB0_2106.out _ | refine IsS_l1Cur.far ?_ NB0_2107.out _) | exact HI0.out))
     (case side2 => repeat (first | (with_reducible first | exact HB.out | apply below_alloc | apply pw_below_drewN | apply below_drew1 | refine below_set ?_ (IsS_l1Cur.ge HI0.out) | refine below_set ?_ GE2106.out | refine below_set ?_ GE2107.out) | exact HB.out))
     rintro e w21 ⟨rfl, hi, hb, hk⟩
     refine ⟨_, rfl, ?_⟩
     replace HO_2108002 := Aside0.mk (Kd.R_mono (Kd.R_keep (IsS_l1Cur.apart (show IsS_l1Cur w0 _ g s0_0 t2112 t2113 from is_l1Cur_ HI0.out) (rq_ HO_2108002.out) (by decide)) hk (fun _ h => h.2)) (fun _ h => h.1))
     replace BK2106 := Aside0.mk (KeepBut.blk hk (g' := gb2106) (o := .cells #[.int .i64 0, .int .i64 0, .slice none 0 0] 57 (0, 0)) (bq_ BK2106.out) NB2106_0.out (by simp))
     replace BK2107 := Aside0.mk (KeepBut.blk hk (g' := gb2107) (o := .cells #[.int .i64 x2108000_1, .int .i64 x2108001_1, u2108002] 57 (0, 0)) (bq_ BK2107.out) NB2107_0.out (by simp))
     replace HK := Aside0.mk (KeepBut.trans (hk_ HK.out) hk (.inl rfl))
     replace HB := Aside0.mk (hb)
     replace HI0 := Aside0.mk (hi)
     (try clear hb); (try clear hk); (try clear hi)
     refine hK.out _ _ ⟨bc_ BK2107 0, bc_ BK2107 1, bc_ BK2107 2⟩ (fun hHeld => ?_)
     clear hK K
     refine nm_ ?_
     refine on_ 6 21 HT_ spec_l3DrawRight.m8 rfl rfl (fun K hK => ?_)
     refine goes_ Try.func78 (by kernel_rfl) rfl #[.pointer (some ⟨g, 0, none⟩), .int .i64 4] (by rfl) rfl rfl sm_ ?_
     with_reducible refine (spec_l1Below.calls g s0_0 t2115 t2116 4 t2117 t2118 t2119 w0 _ ?side1 ?side2 A12.out).mono ?_
     (case side1 => repeat (first | (with_reducible first | exact HI0.out | apply IsS_l1Cur.alloc | apply IsS_l1Cur.drewN | apply IsS_l1Cur.drew | apply IsS_l1Cur.set_1 | apply IsS_l1Cur.set_2 | refine IsS_l1Cur.far ?_ NB0_2106.out _ | refine IsS_l1Cur.far ?_ NB0_2107.out _) | exact HI0.out))
     (case side2 => repeat (first | (with_reducible first | exact HB.out | apply below_alloc | apply pw_below_drewN | apply below_drew1 | refine below_set ?_ (IsS_l1Cur.ge HI0.out) | refine below_set ?_ GE2106.out | refine below_set ?_ GE2107.out) | exact HB.out))
     rintro e w22 ⟨rfl, hi, hb, hk⟩
     refine ⟨_, rfl, ?_⟩
     replace HO_2108002 := Aside0.mk (Kd.R_mono (Kd.R_keep (IsS_l1Cur.apart (show IsS_l1Cur w0 _ g s0_0 t2115 t2116 from is_l1Cur_ HI0.out) (rq_ HO_2108002.out) (by decide)) hk (fun _ h => h.2)) (fun _ h => h.1))
     replace BK2106 := Aside0.mk (KeepBut.blk hk (g' := gb2106) (o := .cells #[.int .i64 0, .int .i64 0, .slice none 0 0] 57 (0, 0)) (bq_ BK2106.out) NB2106_0.out (by simp))
     replace BK2107 := Aside0.mk (KeepBut.blk hk (g' := gb2107) (o := .cells #[.int .i64 x2108000_1, .int .i64 x2108001_1, u2108002] 57 (0, 0)) (bq_ BK2107.out) NB2107_0.out (by simp))
     replace HK := Aside0.mk (KeepBut.trans (hk_ HK.out) hk (.inl rfl))
     replace HB := Aside0.mk (hb)
     replace HI0 := Aside0.mk (hi)
     (try clear hb); (try clear hk); (try clear hi)
     obtain ⟨Ao23, co23, eo23⟩ := Kd.R_slice HO_2108002.out
     (first | subst eo23 | (injection eo23 with f1_ f2_ f3_; have f4_ := f1_.symm; have f5_ := f3_.symm; clear f1_ f2_ f3_; subst f4_; subst f5_))
     refine hK.out _ _ ⟨bc_ BK2107 0, bc_ BK2107 1, bc_ BK2107 2⟩ (fun hHeld => ?_)
     clear hK K
     refine nm_ ?_
     refine on_ 8 23 HT_ spec_l3DrawRight.m9 rfl rfl (fun K hK => ?_)
     refine goes_ Try.func30 (by kernel_rfl) rfl #[.agg #[.int .i64 x2108000_1, .int .i64 x2108001_1, .slice Ao23 x2108002_1.length co23], .string t2111, .string t2114, .int .i64 t2117, .int .i64 x5_1] (by rfl) rfl rfl sm_ ?_
     with_reducible refine (spec_RowPut.calls k1 x2108000_1 x2108001_1 _ _ x2108002_1 t2111 t2114 t2117 x5_1 t2120 t2121 t2122 t2125 t2126 _ ?side1 ?side2 A13.out).mono ?_
     (case side1 => repeat (first | exact (Kd.R_reads' HO_2108002.out).2.2 | (with_reducible refine Kd.C_alloc ?_ _) | (with_reducible refine Kd.C_drewN ?_ _) | (with_reducible refine Kd.C_drew ?_)))
     (case side2 => exact (Kd.R_reads' HO_2108002.out).2.1)
     rintro e w24 ⟨v2123, rfl, ho0, hb⟩
     refine ⟨_, rfl, ?_⟩
     have HO2124 := Aside0.mk (Kd.R_lower (Kd.R_new' ho0 (Kd.R_lt (rq_ HO_2108002.out))) (keep_size (w := w) (g := g) (row := none) (hk_ HK.out)))
     replace HO_2108002 := Aside0.mk (Kd.R_elder' (rq_ HO_2108002.out) (Kd.R_base ho0) hb)
     replace BK2106 := cb_ BK2106 hb
     replace BK2107 := cb_ BK2107 hb
     replace HI0 := Aside0.mk (IsS_l1Cur.below (is_l1Cur_ HI0.out) hb)
     replace HK := Aside0.mk (KeepBut.trans (hk_ HK.out) (KeepBut.of_below hb g none) (.inl rfl))
     replace HB := Aside0.mk (below_step (hi_ HB.out) hb)
     (try clear hb); (try clear ho0)
     obtain ⟨Ao27, co27, eo27⟩ := Kd.R_slice HO2124.out
     (first | subst eo27 | (injection eo27 with f1_ f2_ f3_; have f4_ := f1_.symm; have f5_ := f3_.symm; clear f1_ f2_ f3_; subst f4_; subst f5_))
     refine hK.out _ _ ⟨bc_ BK2107 0, bc_ BK2107 1, bc_ BK2107 2⟩ (fun hHeld => ?_)
     clear hK K
     refine nm_ ?_
     refine pI_ 9 14 HT_ spec_l3DrawRight.m10 rfl rfl ?_
     refine pI_ 10 24 HT_ spec_l3DrawRight.m11 rfl rfl ?_
     refine pI_ 11 25 HT_ spec_l3DrawRight.m12 rfl rfl ?_
     refine pI_ 12 26 HT_ spec_l3DrawRight.m13 rfl rfl ?_
     refine last_ (i := 13) (N := none) spec_l3DrawRight.m14 rfl rfl (one_of HT_.out (by kernel_rfl)) (by decide) (fun K hK => ?_)
     have hs25 : w24.cell? ⟨gb2107, 0, none⟩ = some (.int .i64 x2108000_1) := bc_ BK2107 0
     have hfs25 := blk_frozen BK2107.out 0
     have hns25_0 := NB2106_2107.out
     have hms25_0 := NB2107_2106.out
     have hs26 : w24.cell? ⟨gb2107, 1, none⟩ = some (.int .i64 x2108001_1) := bc_ BK2107 1
     have hfs26 := blk_frozen BK2107.out 1
     have hns26_0 := NB2106_2107.out
     have hms26_0 := NB2107_2106.out
     have hs28 : w24.cell? ⟨gb2107, 2, none⟩ = some (.slice Ao23 x2108002_1.length co23) := bc_ BK2107 2
     have hfs28 := blk_frozen BK2107.out 2
     have hns28_0 := NB2106_2107.out
     have hms28_0 := NB2107_2106.out
     refine skip_ (w1 := ?_) (by rfl) rfl ?_ ?_
     rotate_left; (focus go_simp; rfl)
     refine hK.out _ _ ?_
     clear hK K
     refine done_ (done_of HT_.out (by kernel_rfl)) ?_
     try go_wp2_with (first | ((with_reducible refine gate_callee (f := 78) rfl ?_); refine goesL_ (some 28) rfl rfl Try.func78 (by kernel_rfl) rfl #[.pointer (some ⟨g, 0, none⟩), .int .i64 12] rfl sm_ ?_; (with_reducible refine (spec_l1Below.calls g s0_0 t2118 t2119 12 t2127 t2128 t2129 w0 _ ?side1 ?side2 A14.out).mono ?_); (case side1 => repeat (first | (with_reducible first | exact HI0.out | apply IsS_l1Cur.alloc | apply IsS_l1Cur.drewN | apply IsS_l1Cur.drew | apply IsS_l1Cur.set_1 | apply IsS_l1Cur.set_2 | refine IsS_l1Cur.far ?_ NB0_2106.out _ | refine IsS_l1Cur.far ?_ NB0_2107.out _) | exact HI0.out)); (case side2 => repeat (first | (with_reducible first | exact HB.out | apply below_alloc | apply pw_below_drewN | apply below_drew1 | refine below_set ?_ (IsS_l1Cur.ge HI0.out) | refine below_set ?_ GE2106.out | refine below_set ?_ GE2107.out) | exact HB.out)); rintro e w29 ⟨rfl, hi, hb, hk⟩; refine ⟨_, rfl, ?_⟩; replace HO_2108002 := Aside0.mk (Kd.R_mono (Kd.R_keep (IsS_l1Cur.apart (show IsS_l1Cur w0 _ g s0_0 t2118 t2119 from is_l1Cur_ HI0.out) (rk_ HO_2108002.out BK2107.out) (by decide)) hk (fun _ h => h.2)) (fun _ h => h.1)); replace BK2106 := Aside0.mk (KeepBut.blk hk (g' := gb2106) (o := .cells #[.int .i64 0, .int .i64 0, .slice none 0 0] 57 (0, 0)) (bf_ NB2106_2107.out BK2106.out) NB2106_0.out (by simp)); replace HO2124 := Aside0.mk (Kd.R_mono (Kd.R_keep (IsS_l1Cur.apart (show IsS_l1Cur w0 _ g s0_0 t2118 t2119 from is_l1Cur_ HI0.out) (rk_ HO2124.out BK2107.out) (by decide)) hk (fun _ h => h.2)) (fun _ h => h.1)); replace BK2107 := Aside0.mk (KeepBut.blk hk (g' := gb2107) (o := .cells #[.int .i64 t2120, .int .i64 t2121, .slice Ao27 t2122.length co27] 57 (0, 0)) (bp_ BK2107.out) NB2107_0.out (by simp)); replace HK := Aside0.mk (KeepBut.trans (hk_ HK.out) hk (.inl rfl)); replace HB := Aside0.mk (hb); replace HI0 := Aside0.mk (hi); (try clear hb); (try clear hb2); (try clear hk); (try clear hi)))
     replace HO_2108002 := Aside0.mk (Kd.R_drew HO_2108002.out)
     replace HO2124 := Aside0.mk (Kd.R_drew HO2124.out)
     replace BK2106 := Aside0.mk (blk_drew BK2106.out)
     replace BK2107 := Aside0.mk (blk_drew BK2107.out)
     replace HI0 := Aside0.mk (IsS_l1Cur.drew HI0.out)
     replace HK := Aside0.mk (keep_drew HK.out)
     replace HB := Aside0.mk (below_drew1 HB.out)
     refine start_ (n := 8) (S := fun w' => w'.cell? ⟨gb2107, 0, none⟩ = some (.int .i64 t2120) ∧ w'.cell? ⟨gb2107, 1, none⟩ = some (.int .i64 t2121) ∧ w'.cell? ⟨gb2107, 2, none⟩ = some (.slice Ao27 t2122.length co27)) (ds := [7]) #[false, false, false, false, false, false, false, false] (by kernel_rfl) rfl rfl ⟨bc_ BK2107 0, bc_ BK2107 1, bc_ BK2107 2⟩ (fun hHeld => ?_); refine with_tabW spec_l3DrawRight.tab9 spec_l3DrawRight.bits9 (fun HT_ HW_ => ?_)
     generalize w29.drew = w30 at HO_2108002 HO2124 BK2106 BK2107 HI0 HK HB hHeld ⊢
     refine pI_ 1 32 HT_ #[false, true, false, false, false, false, false, false] rfl rfl ?_
     refine pI_ 4 35 HT_ #[false, true, false, false, true, false, false, false] rfl rfl ?_
     refine tk_ 0 31 HT_ HW_ #[true, true, false, false, true, false, false, false] rfl rfl hHeld ?_
     refine on_ 2 33 HT_ #[true, true, true, false, true, false, false, false] rfl rfl (fun K hK => ?_)
     refine goes_ Try.func78 (by kernel_rfl) rfl #[.pointer (some ⟨g, 0, none⟩), .int .i64 3] (by rfl) rfl rfl sm_ ?_
     with_reducible refine (spec_l1Below.calls g s0_0 t2128 t2129 3 t2130 t2131 t2132 w0 _ ?side1 ?side2 A16.out).mono ?_
     (case side1 => repeat (first | (with_reducible first | exact HI0.out | apply IsS_l1Cur.alloc | apply IsS_l1Cur.drewN | apply IsS_l1Cur.drew | apply IsS_l1Cur.set_1 | apply IsS_l1Cur.set_2 | refine IsS_l1Cur.far ?_ NB0_2106.out _ | refine IsS_l1Cur.far ?_ NB0_2107.out _) | exact HI0.out))
     (case side2 => repeat (first | (with_reducible first | exact HB.out | apply below_alloc | apply pw_below_drewN | apply below_drew1 | refine below_set ?_ (IsS_l1Cur.ge HI0.out) | refine below_set ?_ GE2106.out | refine below_set ?_ GE2107.out) | exact HB.out))
     rintro e w31 ⟨rfl, hi, hb, hk⟩
     refine ⟨_, rfl, ?_⟩
     replace HO_2108002 := Aside0.mk (Kd.R_mono (Kd.R_keep (IsS_l1Cur.apart (show IsS_l1Cur w0 _ g s0_0 t2128 t2129 from is_l1Cur_ HI0.out) (rq_ HO_2108002.out) (by decide)) hk (fun _ h => h.2)) (fun _ h => h.1))
     replace BK2106 := Aside0.mk (KeepBut.blk hk (g' := gb2106) (o := .cells #[.int .i64 0, .int .i64 0, .slice none 0 0] 57 (0, 0)) (bq_ BK2106.out) NB2106_0.out (by simp))
     replace BK2107 := Aside0.mk (KeepBut.blk hk (g' := gb2107) (o := .cells #[.int .i64 t2120, .int .i64 t2121, .slice Ao27 t2122.length co27] 57 (0, 0)) (bq_ BK2107.out) NB2107_0.out (by simp))
     replace HO2124 := Aside0.mk (Kd.R_mono (Kd.R_keep (IsS_l1Cur.apart (show IsS_l1Cur w0 _ g s0_0 t2128 t2129 from is_l1Cur_ HI0.out) (rq_ HO2124.out) (by decide)) hk (fun _ h => h.2)) (fun _ h => h.1))
     replace HK := Aside0.mk (KeepBut.trans (hk_ HK.out) hk (.inl rfl))
     replace HB := Aside0.mk (hb)
     replace HI0 := Aside0.mk (hi)
     (try clear hb); (try clear hb2); (try clear hk); (try clear hi)
     refine hK.out _ _ ⟨bc_ BK2107 0, bc_ BK2107 1, bc_ BK2107 2⟩ (fun hHeld => ?_)
     clear hK K
     refine nm_ ?_
     refine pI_ 3 34 HT_ #[true, true, true, true, true, false, false, false] rfl rfl ?_
     refine on_ 5 36 HT_ #[true, true, true, true, true, true, false, false] rfl rfl (fun K hK => ?_)
     refine goes_ Try.func78 (by kernel_rfl) rfl #[.pointer (some ⟨g, 0, none⟩), .int .i64 4] (by rfl) rfl rfl sm_ ?_
     with_reducible refine (spec_l1Below.calls g s0_0 t2131 t2132 4 t2133 t2134 t2135 w0 _ ?side1 ?side2 A17.out).mono ?_
     (case side1 => repeat (first | (with_reducible first | exact HI0.out | apply IsS_l1Cur.alloc | apply IsS_l1Cur.drewN | apply IsS_l1Cur.drew | apply IsS_l1Cur.set_1 | apply IsS_l1Cur.set_2 | refine IsS_l1Cur.far ?_ NB0_2106.out _ | refine IsS_l1Cur.far ?_ NB0_2107.out _) | exact HI0.out))
     (case side2 => repeat (first | (with_reducible first | exact HB.out | apply below_alloc | apply pw_below_drewN | apply below_drew1 | refine below_set ?_ (IsS_l1Cur.ge HI0.out) | refine below_set ?_ GE2106.out | refine below_set ?_ GE2107.out) | exact HB.out))
     rintro e w32 ⟨rfl, hi, hb, hk⟩
     refine ⟨_, rfl, ?_⟩
     replace HO_2108002 := Aside0.mk (Kd.R_mono (Kd.R_keep (IsS_l1Cur.apart (show IsS_l1Cur w0 _ g s0_0 t2131 t2132 from is_l1Cur_ HI0.out) (rq_ HO_2108002.out) (by decide)) hk (fun _ h => h.2)) (fun _ h => h.1))
     replace BK2106 := Aside0.mk (KeepBut.blk hk (g' := gb2106) (o := .cells #[.int .i64 0, .int .i64 0, .slice none 0 0] 57 (0, 0)) (bq_ BK2106.out) NB2106_0.out (by simp))
     replace BK2107 := Aside0.mk (KeepBut.blk hk (g' := gb2107) (o := .cells #[.int .i64 t2120, .int .i64 t2121, .slice Ao27 t2122.length co27] 57 (0, 0)) (bq_ BK2107.out) NB2107_0.out (by simp))
     replace HO2124 := Aside0.mk (Kd.R_mono (Kd.R_keep (IsS_l1Cur.apart (show IsS_l1Cur w0 _ g s0_0 t2131 t2132 from is_l1Cur_ HI0.out) (rq_ HO2124.out) (by decide)) hk (fun _ h => h.2)) (fun _ h => h.1))
     replace HK := Aside0.mk (KeepBut.trans (hk_ HK.out) hk (.inl rfl))
     replace HB := Aside0.mk (hb)
     replace HI0 := Aside0.mk (hi)
     (try clear hb); (try clear hk); (try clear hi)
     refine hK.out _ _ ⟨bc_ BK2107 0, bc_ BK2107 1, bc_ BK2107 2⟩ (fun hHeld => ?_)
     clear hK K
     refine nm_ ?_
     refine on_ 6 37 HT_ #[true, true, true, true, true, true, true, false] rfl rfl (fun K hK => ?_)
     refine goes_ Try.func48 (by kernel_rfl) rfl #[.agg #[.int .i64 t2120, .int .i64 t2121, .slice Ao27 t2122.length co27], .int .i64 (wrap64 (1 + t2130)), .int .i64 t2133] (by rfl) rfl rfl sm_ ?_
     with_reducible refine (spec_RowTrim.calls k1 t2120 t2121 _ _ t2122 (wrap64 (1 + t2130)) t2133 t2136 t2137 t2138 _ ?side1 ?side2 A18.out).mono ?_
     (case side1 => repeat (first | exact (Kd.R_reads' HO2124.out).2.2 | (with_reducible refine Kd.C_alloc ?_ _) | (with_reducible refine Kd.C_drewN ?_ _) | (with_reducible refine Kd.C_drew ?_)))
     (case side2 => exact (Kd.R_reads' HO2124.out).2.1)
     rintro e w33 ⟨v2139, rfl, ho0, hb⟩
     refine ⟨_, rfl, ?_⟩
     have HO2140 := Aside0.mk (Kd.R_lower (Kd.R_new' (Kd.R_new' ho0 (Kd.R_lt (rq_ HO_2108002.out))) (Kd.R_lt (rq_ HO2124.out))) (keep_size (w := w) (g := g) (row := none) (hk_ HK.out)))
     replace HO_2108002 := Aside0.mk (Kd.R_elder' (rq_ HO_2108002.out) (Kd.R_base ho0) hb)
     replace HO2124 := Aside0.mk (Kd.R_elder' (rq_ HO2124.out) (Kd.R_base ho0) hb)
     replace BK2106 := cb_ BK2106 hb
     replace BK2107 := cb_ BK2107 hb
     replace HI0 := Aside0.mk (IsS_l1Cur.below (is_l1Cur_ HI0.out) hb)
     replace HK := Aside0.mk (KeepBut.trans (hk_ HK.out) (KeepBut.of_below hb g none) (.inl rfl))
     replace HB := Aside0.mk (below_step (hi_ HB.out) hb)
     (try clear hb); (try clear ho0)
     obtain ⟨Ao36, co36, eo36⟩ := Kd.R_slice HO2140.out
     (first | subst eo36 | (injection eo36 with f1_ f2_ f3_; have f4_ := f1_.symm; have f5_ := f3_.symm; clear f1_ f2_ f3_; subst f4_; subst f5_))
     refine hK.out _ _ ⟨bc_ BK2107 0, bc_ BK2107 1, bc_ BK2107 2⟩ (fun hHeld => ?_)
     clear hK K
     refine nm_ ?_
     refine last_ (i := 7) (N := none) #[true, true, true, true, true, true, true, true] rfl rfl (one_of HT_.out (by kernel_rfl)) (by decide) (fun K hK => ?_)
     have hs34 : w33.cell? ⟨gb2107, 0, none⟩ = some (.int .i64 t2120) := bc_ BK2107 0
     have hfs34 := blk_frozen BK2107.out 0
     have hns34_0 := NB2106_2107.out
     have hms34_0 := NB2107_2106.out
     have hs35 : w33.cell? ⟨gb2107, 1, none⟩ = some (.int .i64 t2121) := bc_ BK2107 1
     have hfs35 := blk_frozen BK2107.out 1
     have hns35_0 := NB2106_2107.out
     have hms35_0 := NB2107_2106.out
     have hs37 : w33.cell? ⟨gb2107, 2, none⟩ = some (.slice Ao27 t2122.length co27) := bc_ BK2107 2
     have hfs37 := blk_frozen BK2107.out 2
     have hns37_0 := NB2106_2107.out
     have hms37_0 := NB2107_2106.out
     refine skip_ (w1 := ?_) (by rfl) rfl ?_ ?_
     rotate_left; (focus go_simp; rfl)
     refine hK.out _ _ ?_
     clear hK K
     refine done_ (done_of HT_.out (by kernel_rfl)) ?_
     try go_wp2
     go_roundg k1
     case measure => have := HK1.out; omega
     case rel => exact ⟨(wrap64 (x5_1 + 1)), (t2134), (t2135), (t2136), (t2137), (t2138), (.slice Ao36 t2138.length co36), (qe4_), H', ⟨by have := HK1.out; omega⟩, ⟨by (with_reducible repeat (first | apply Kd.R_alloc | apply Kd.R_drewN | apply Kd.R_drew)); exact Kd.R_mono (Kd.R_far (p := ⟨gb2107, 2, none⟩) (Kd.R_far (p := ⟨gb2107, 1, none⟩) (Kd.R_far (p := ⟨gb2107, 0, none⟩) (Kd.R_types HO2140.out BK2107.out (by decide)) (fun _ hk => hk.2) (.int .i64 t2136)) (fun _ hk => hk.2) (.int .i64 t2137)) (fun _ hk => hk.2) (.slice Ao36 t2138.length co36)) (fun _ hk => trivial)⟩, ⟨bf_ NB2106_2107.out BK2106.out⟩, ⟨bp_ BK2107.out⟩, ⟨is_l1Cur_ HI0.out⟩, ⟨qe3_⟩, ⟨qe2_⟩⟩
    ·
     rw [if_neg c15] at H
     have c15b0 : (t2127 == 0) = false := beq_eq_false_iff_ne.mpr c15
     have c15b1 : (t2127 != 0) = true := bne_iff_ne.mpr c15
     by_cases c38 : t2127 = 1
     ·
      rw [if_pos c38] at H
      have c38b0 : (t2127 == 1) = true := beq_iff_eq.mpr c38
      have c38b1 : (t2127 != 1) = false := bne_eq_false_iff_eq.mpr c38
      clear c38
      replace H := Option.bind_eq_some_iff.mp H
      obtain ⟨⟨t2141, t2142, t2143⟩, A390, H⟩ := H
      replace H : ((spec_RowPack.f k1 t2120 t2121 t2122 (wrap64 (1 + t2141))).bind fun bt2144 => (spec_l3DrawRight.l0 k1 t2108 (wrap64 (x5_1 + 1)) s0_0 t2142 t2143 bt2144.1 bt2144.2.1 bt2144.2.2)) = some (r1, r2, r3, r4, r5) := H
      have A39 := Aside0.mk A390
      clear A390
      replace H := Option.bind_eq_some_iff.mp H
      obtain ⟨⟨t2144, t2145, t2146⟩, A400, H⟩ := H
      replace H : (spec_l3DrawRight.l0 k1 t2108 (wrap64 (x5_1 + 1)) s0_0 t2142 t2143 t2144 t2145 t2146) = some (r1, r2, r3, r4, r5) := H
      have A40 := Aside0.mk A400
      clear A400
      have H' := Aside0.mk H
      clear H
      try go_wp2
      replace HO_2108002 := Aside0.mk (Kd.R_drew HO_2108002.out)
      replace BK2106 := Aside0.mk (blk_drew BK2106.out)
      replace BK2107 := Aside0.mk (blk_drew BK2107.out)
      replace HI0 := Aside0.mk (IsS_l1Cur.drew HI0.out)
      replace HK := Aside0.mk (keep_drew HK.out)
      replace HB := Aside0.mk (below_drew1 HB.out)
      refine start_ (n := 14) (S := fun w' => w'.cell? ⟨gb2107, 0, none⟩ = some (.int .i64 x2108000_1) ∧ w'.cell? ⟨gb2107, 1, none⟩ = some (.int .i64 x2108001_1) ∧ w'.cell? ⟨gb2107, 2, none⟩ = some (u2108002)) (ds := [13]) spec_l3DrawRight.m0 (by kernel_rfl) rfl rfl ⟨bc_ BK2107 0, bc_ BK2107 1, bc_ BK2107 2⟩ (fun hHeld => ?_); refine with_tabW spec_l3DrawRight.tab6 spec_l3DrawRight.bits6 (fun HT_ HW_ => ?_)
      generalize wr.drew = w41 at HO_2108002 BK2106 BK2107 HI0 HK HB hHeld ⊢
      refine pI_ 1 16 HT_ spec_l3DrawRight.m1 rfl rfl ?_
      refine pI_ 3 18 HT_ spec_l3DrawRight.m2 rfl rfl ?_
      refine pI_ 5 20 HT_ spec_l3DrawRight.m3 rfl rfl ?_
      refine pI_ 7 22 HT_ spec_l3DrawRight.m4 rfl rfl ?_
      refine tk_ 0 15 HT_ HW_ spec_l3DrawRight.m5 rfl rfl hHeld ?_
      refine on_ 2 17 HT_ spec_l3DrawRight.m6 rfl rfl (fun K hK => ?_)
      refine goes_ Try.func103 (by kernel_rfl) rfl #[.pointer (some ⟨g, 0, none⟩)] (by rfl) rfl rfl sm_ ?_
      with_reducible refine (spec_l2DrawText.calls g s0_0 x1001_1 x1002_1 t2111 t2112 t2113 w0 _ ?side1 ?side2 A10.out).mono ?_
      (case side1 => repeat (first | (with_reducible first | exact HI0.out | apply IsS_l1Cur.alloc | apply IsS_l1Cur.drewN | apply IsS_l1Cur.drew | apply IsS_l1Cur.set_1 | apply IsS_l1Cur.set_2 | refine IsS_l1Cur.far ?_ NB0_2106.out _ | refine IsS_l1Cur.far ?_ NB0_2107.out _) | exact HI0.out))
      (case side2 => repeat (first | (with_reducible first | exact HB.out | apply below_alloc | apply pw_below_drewN | apply below_drew1 | refine below_set ?_ (IsS_l1Cur.ge HI0.out) | refine below_set ?_ GE2106.out | refine below_set ?_ GE2107.out) | exact HB.out))
      rintro e w42 ⟨rfl, hi, hb, hk⟩
      refine ⟨_, rfl, ?_⟩
      replace HO_2108002 := Aside0.mk (Kd.R_mono (Kd.R_keep (IsS_l1Cur.apart (show IsS_l1Cur w0 _ g s0_0 x1001_1 x1002_1 from is_l1Cur_ HI0.out) (rq_ HO_2108002.out) (by decide)) hk (fun _ h => h.2)) (fun _ h => h.1))
      replace BK2106 := Aside0.mk (KeepBut.blk hk (g' := gb2106) (o := .cells #[.int .i64 0, .int .i64 0, .slice none 0 0] 57 (0, 0)) (bq_ BK2106.out) NB2106_0.out (by simp))
      replace BK2107 := Aside0.mk (KeepBut.blk hk (g' := gb2107) (o := .cells #[.int .i64 x2108000_1, .int .i64 x2108001_1, u2108002] 57 (0, 0)) (bq_ BK2107.out) NB2107_0.out (by simp))
      replace HK := Aside0.mk (KeepBut.trans (hk_ HK.out) hk (.inl rfl))
      replace HB := Aside0.mk (hb)
      replace HI0 := Aside0.mk (hi)
      (try clear hb); (try clear hb2); (try clear hk); (try clear hi)
      refine hK.out _ _ ⟨bc_ BK2107 0, bc_ BK2107 1, bc_ BK2107 2⟩ (fun hHeld => ?_)
      clear hK K
      refine nm_ ?_
      refine on_ 4 19 HT_ spec_l3DrawRight.m7 rfl rfl (fun K hK => ?_)
      refine goes_ Try.func103 (by kernel_rfl) rfl #[.pointer (some ⟨g, 0, none⟩)] (by rfl) rfl rfl sm_ ?_
      with_reducible refine (spec_l2DrawText.calls g s0_0 t2112 t2113 t2114 t2115 t2116 w0 _ ?side1 ?side2 A11.out).mono ?_
      (case side1 => repeat (first | (with_reducible first | exact HI0.out | apply IsS_l1Cur.alloc | apply IsS_l1Cur.drewN | apply IsS_l1Cur.drew | apply IsS_l1Cur.set_1 | apply IsS_l1Cur.set_2 | refine IsS_l1Cur.far ?_ NB0_2106.out _ | refine IsS_l1Cur.far ?_ NB0_2107.out _) | exact HI0.out))
      (case side2 => repeat (first | (with_reducible first | exact HB.out | apply below_alloc | apply pw_below_drewN | apply below_drew1 | refine below_set ?_ (IsS_l1Cur.ge HI0.out) | refine below_set ?_ GE2106.out | refine below_set ?_ GE2107.out) | exact HB.out))
      rintro e w43 ⟨rfl, hi, hb, hk⟩
      refine ⟨_, rfl, ?_⟩
      replace HO_2108002 := Aside0.mk (Kd.R_mono (Kd.R_keep (IsS_l1Cur.apart (show IsS_l1Cur w0 _ g s0_0 t2112 t2113 from is_l1Cur_ HI0.out) (rq_ HO_2108002.out) (by decide)) hk (fun _ h => h.2)) (fun _ h => h.1))
      replace BK2106 := Aside0.mk (KeepBut.blk hk (g' := gb2106) (o := .cells #[.int .i64 0, .int .i64 0, .slice none 0 0] 57 (0, 0)) (bq_ BK2106.out) NB2106_0.out (by simp))
      replace BK2107 := Aside0.mk (KeepBut.blk hk (g' := gb2107) (o := .cells #[.int .i64 x2108000_1, .int .i64 x2108001_1, u2108002] 57 (0, 0)) (bq_ BK2107.out) NB2107_0.out (by simp))
      replace HK := Aside0.mk (KeepBut.trans (hk_ HK.out) hk (.inl rfl))
      replace HB := Aside0.mk (hb)
      replace HI0 := Aside0.mk (hi)
      (try clear hb); (try clear hk); (try clear hi)
      refine hK.out _ _ ⟨bc_ BK2107 0, bc_ BK2107 1, bc_ BK2107 2⟩ (fun hHeld => ?_)
      clear hK K
      refine nm_ ?_
      refine on_ 6 21 HT_ spec_l3DrawRight.m8 rfl rfl (fun K hK => ?_)
      refine goes_ Try.func78 (by kernel_rfl) rfl #[.pointer (some ⟨g, 0, none⟩), .int .i64 4] (by rfl) rfl rfl sm_ ?_
      with_reducible refine (spec_l1Below.calls g s0_0 t2115 t2116 4 t2117 t2118 t2119 w0 _ ?side1 ?side2 A12.out).mono ?_
      (case side1 => repeat (first | (with_reducible first | exact HI0.out | apply IsS_l1Cur.alloc | apply IsS_l1Cur.drewN | apply IsS_l1Cur.drew | apply IsS_l1Cur.set_1 | apply IsS_l1Cur.set_2 | refine IsS_l1Cur.far ?_ NB0_2106.out _ | refine IsS_l1Cur.far ?_ NB0_2107.out _) | exact HI0.out))
      (case side2 => repeat (first | (with_reducible first | exact HB.out | apply below_alloc | apply pw_below_drewN | apply below_drew1 | refine below_set ?_ (IsS_l1Cur.ge HI0.out) | refine below_set ?_ GE2106.out | refine below_set ?_ GE2107.out) | exact HB.out))
      rintro e w44 ⟨rfl, hi, hb, hk⟩
      refine ⟨_, rfl, ?_⟩
      replace HO_2108002 := Aside0.mk (Kd.R_mono (Kd.R_keep (IsS_l1Cur.apart (show IsS_l1Cur w0 _ g s0_0 t2115 t2116 from is_l1Cur_ HI0.out) (rq_ HO_2108002.out) (by decide)) hk (fun _ h => h.2)) (fun _ h => h.1))
      replace BK2106 := Aside0.mk (KeepBut.blk hk (g' := gb2106) (o := .cells #[.int .i64 0, .int .i64 0, .slice none 0 0] 57 (0, 0)) (bq_ BK2106.out) NB2106_0.out (by simp))
      replace BK2107 := Aside0.mk (KeepBut.blk hk (g' := gb2107) (o := .cells #[.int .i64 x2108000_1, .int .i64 x2108001_1, u2108002] 57 (0, 0)) (bq_ BK2107.out) NB2107_0.out (by simp))
      replace HK := Aside0.mk (KeepBut.trans (hk_ HK.out) hk (.inl rfl))
      replace HB := Aside0.mk (hb)
      replace HI0 := Aside0.mk (hi)
      (try clear hb); (try clear hk); (try clear hi)
      obtain ⟨Ao45, co45, eo45⟩ := Kd.R_slice HO_2108002.out
      (first | subst eo45 | (injection eo45 with f1_ f2_ f3_; have f4_ := f1_.symm; have f5_ := f3_.symm; clear f1_ f2_ f3_; subst f4_; subst f5_))
      refine hK.out _ _ ⟨bc_ BK2107 0, bc_ BK2107 1, bc_ BK2107 2⟩ (fun hHeld => ?_)
      clear hK K
      refine nm_ ?_
      refine on_ 8 23 HT_ spec_l3DrawRight.m9 rfl rfl (fun K hK => ?_)
      refine goes_ Try.func30 (by kernel_rfl) rfl #[.agg #[.int .i64 x2108000_1, .int .i64 x2108001_1, .slice Ao45 x2108002_1.length co45], .string t2111, .string t2114, .int .i64 t2117, .int .i64 x5_1] (by rfl) rfl rfl sm_ ?_
      with_reducible refine (spec_RowPut.calls k1 x2108000_1 x2108001_1 _ _ x2108002_1 t2111 t2114 t2117 x5_1 t2120 t2121 t2122 t2125 t2126 _ ?side1 ?side2 A13.out).mono ?_
      (case side1 => repeat (first | exact (Kd.R_reads' HO_2108002.out).2.2 | (with_reducible refine Kd.C_alloc ?_ _) | (with_reducible refine Kd.C_drewN ?_ _) | (with_reducible refine Kd.C_drew ?_)))
      (case side2 => exact (Kd.R_reads' HO_2108002.out).2.1)
      rintro e w46 ⟨v2123, rfl, ho0, hb⟩
      refine ⟨_, rfl, ?_⟩
      have HO2124 := Aside0.mk (Kd.R_lower (Kd.R_new' ho0 (Kd.R_lt (rq_ HO_2108002.out))) (keep_size (w := w) (g := g) (row := none) (hk_ HK.out)))
      replace HO_2108002 := Aside0.mk (Kd.R_elder' (rq_ HO_2108002.out) (Kd.R_base ho0) hb)
      replace BK2106 := cb_ BK2106 hb
      replace BK2107 := cb_ BK2107 hb
      replace HI0 := Aside0.mk (IsS_l1Cur.below (is_l1Cur_ HI0.out) hb)
      replace HK := Aside0.mk (KeepBut.trans (hk_ HK.out) (KeepBut.of_below hb g none) (.inl rfl))
      replace HB := Aside0.mk (below_step (hi_ HB.out) hb)
      (try clear hb); (try clear ho0)
      obtain ⟨Ao49, co49, eo49⟩ := Kd.R_slice HO2124.out
      (first | subst eo49 | (injection eo49 with f1_ f2_ f3_; have f4_ := f1_.symm; have f5_ := f3_.symm; clear f1_ f2_ f3_; subst f4_; subst f5_))
      refine hK.out _ _ ⟨bc_ BK2107 0, bc_ BK2107 1, bc_ BK2107 2⟩ (fun hHeld => ?_)
      clear hK K
      refine nm_ ?_
      refine pI_ 9 14 HT_ spec_l3DrawRight.m10 rfl rfl ?_
      refine pI_ 10 24 HT_ spec_l3DrawRight.m11 rfl rfl ?_
      refine pI_ 11 25 HT_ spec_l3DrawRight.m12 rfl rfl ?_
      refine pI_ 12 26 HT_ spec_l3DrawRight.m13 rfl rfl ?_
      refine last_ (i := 13) (N := none) spec_l3DrawRight.m14 rfl rfl (one_of HT_.out (by kernel_rfl)) (by decide) (fun K hK => ?_)
      have hs47 : w46.cell? ⟨gb2107, 0, none⟩ = some (.int .i64 x2108000_1) := bc_ BK2107 0
      have hfs47 := blk_frozen BK2107.out 0
      have hns47_0 := NB2106_2107.out
      have hms47_0 := NB2107_2106.out
      have hs48 : w46.cell? ⟨gb2107, 1, none⟩ = some (.int .i64 x2108001_1) := bc_ BK2107 1
      have hfs48 := blk_frozen BK2107.out 1
      have hns48_0 := NB2106_2107.out
      have hms48_0 := NB2107_2106.out
      have hs50 : w46.cell? ⟨gb2107, 2, none⟩ = some (.slice Ao45 x2108002_1.length co45) := bc_ BK2107 2
      have hfs50 := blk_frozen BK2107.out 2
      have hns50_0 := NB2106_2107.out
      have hms50_0 := NB2107_2106.out
      refine skip_ (w1 := ?_) (by rfl) rfl ?_ ?_
      rotate_left; (focus go_simp; rfl)
      refine hK.out _ _ ?_
      clear hK K
      refine done_ (done_of HT_.out (by kernel_rfl)) ?_
      try go_wp2_with (first | ((with_reducible refine gate_callee (f := 78) rfl ?_); refine goesL_ (some 28) rfl rfl Try.func78 (by kernel_rfl) rfl #[.pointer (some ⟨g, 0, none⟩), .int .i64 12] rfl sm_ ?_; (with_reducible refine (spec_l1Below.calls g s0_0 t2118 t2119 12 t2127 t2128 t2129 w0 _ ?side1 ?side2 A14.out).mono ?_); (case side1 => repeat (first | (with_reducible first | exact HI0.out | apply IsS_l1Cur.alloc | apply IsS_l1Cur.drewN | apply IsS_l1Cur.drew | apply IsS_l1Cur.set_1 | apply IsS_l1Cur.set_2 | refine IsS_l1Cur.far ?_ NB0_2106.out _ | refine IsS_l1Cur.far ?_ NB0_2107.out _) | exact HI0.out)); (case side2 => repeat (first | (with_reducible first | exact HB.out | apply below_alloc | apply pw_below_drewN | apply below_drew1 | refine below_set ?_ (IsS_l1Cur.ge HI0.out) | refine below_set ?_ GE2106.out | refine below_set ?_ GE2107.out) | exact HB.out)); rintro e w51 ⟨rfl, hi, hb, hk⟩; refine ⟨_, rfl, ?_⟩; replace HO_2108002 := Aside0.mk (Kd.R_mono (Kd.R_keep (IsS_l1Cur.apart (show IsS_l1Cur w0 _ g s0_0 t2118 t2119 from is_l1Cur_ HI0.out) (rk_ HO_2108002.out BK2107.out) (by decide)) hk (fun _ h => h.2)) (fun _ h => h.1)); replace BK2106 := Aside0.mk (KeepBut.blk hk (g' := gb2106) (o := .cells #[.int .i64 0, .int .i64 0, .slice none 0 0] 57 (0, 0)) (bf_ NB2106_2107.out BK2106.out) NB2106_0.out (by simp)); replace HO2124 := Aside0.mk (Kd.R_mono (Kd.R_keep (IsS_l1Cur.apart (show IsS_l1Cur w0 _ g s0_0 t2118 t2119 from is_l1Cur_ HI0.out) (rk_ HO2124.out BK2107.out) (by decide)) hk (fun _ h => h.2)) (fun _ h => h.1)); replace BK2107 := Aside0.mk (KeepBut.blk hk (g' := gb2107) (o := .cells #[.int .i64 t2120, .int .i64 t2121, .slice Ao49 t2122.length co49] 57 (0, 0)) (bp_ BK2107.out) NB2107_0.out (by simp)); replace HK := Aside0.mk (KeepBut.trans (hk_ HK.out) hk (.inl rfl)); replace HB := Aside0.mk (hb); replace HI0 := Aside0.mk (hi); (try clear hb); (try clear hb2); (try clear hk); (try clear hi)))
      replace HO_2108002 := Aside0.mk (Kd.R_drew HO_2108002.out)
      replace HO2124 := Aside0.mk (Kd.R_drew HO2124.out)
      replace BK2106 := Aside0.mk (blk_drew BK2106.out)
      replace BK2107 := Aside0.mk (blk_drew BK2107.out)
      replace HI0 := Aside0.mk (IsS_l1Cur.drew HI0.out)
      replace HK := Aside0.mk (keep_drew HK.out)
      replace HB := Aside0.mk (below_drew1 HB.out)
      refine start_ (n := 6) (S := fun w' => w'.cell? ⟨gb2107, 0, none⟩ = some (.int .i64 t2120) ∧ w'.cell? ⟨gb2107, 1, none⟩ = some (.int .i64 t2121) ∧ w'.cell? ⟨gb2107, 2, none⟩ = some (.slice Ao49 t2122.length co49)) (ds := [5]) #[false, false, false, false, false, false] (by kernel_rfl) rfl rfl ⟨bc_ BK2107 0, bc_ BK2107 1, bc_ BK2107 2⟩ (fun hHeld => ?_)
      generalize w51.drew = w52 at HO_2108002 HO2124 BK2106 BK2107 HI0 HK HB hHeld ⊢
      refine pure_ (i := 1) (N := some 41) (v := ?_) (a' := ?_) #[false, true, false, false, false, false] rfl rfl (by kernel_rfl) (fun _ _ _ h => h) (Or.inl ⟨by rfl, ?_⟩) ?_ ?_; rotate_left; (focus intro w'; go_simp; with_reducible rfl); rotate_left; (focus simp only [Act.put, List.setIfInBounds_toArray, List.set_cons_zero, List.set_cons_succ, i64_w, i32_w]; rfl)
      refine take_ (i := 0) (N := some 40) (v := ?_) (a' := ?_) #[true, true, false, false, false, false] rfl rfl (by kernel_rfl) (fun _ _ _ h => h) (Or.inl ⟨by rfl, ?_⟩) hHeld ?_ ?_
      rotate_left
      ·
       rintro w' ⟨s0, s1, s2⟩
       go_simp
       with_reducible rfl
      rotate_left; (focus simp only [Act.put, List.setIfInBounds_toArray, List.set_cons_zero, List.set_cons_succ, i64_w, i32_w]; rfl)
      refine one_ (i := 2) (N := some 42) #[true, true, true, false, false, false] rfl rfl (by kernel_rfl) (by decide) (fun K hK => ?_)
      refine goes_ Try.func78 (by kernel_rfl) rfl #[.pointer (some ⟨g, 0, none⟩), .int .i64 3] (by rfl) rfl rfl sm_ ?_
      with_reducible refine (spec_l1Below.calls g s0_0 t2128 t2129 3 t2141 t2142 t2143 w0 _ ?side1 ?side2 A39.out).mono ?_
      (case side1 => repeat (first | (with_reducible first | exact HI0.out | apply IsS_l1Cur.alloc | apply IsS_l1Cur.drewN | apply IsS_l1Cur.drew | apply IsS_l1Cur.set_1 | apply IsS_l1Cur.set_2 | refine IsS_l1Cur.far ?_ NB0_2106.out _ | refine IsS_l1Cur.far ?_ NB0_2107.out _) | exact HI0.out))
      (case side2 => repeat (first | (with_reducible first | exact HB.out | apply below_alloc | apply pw_below_drewN | apply below_drew1 | refine below_set ?_ (IsS_l1Cur.ge HI0.out) | refine below_set ?_ GE2106.out | refine below_set ?_ GE2107.out) | exact HB.out))
      rintro e w53 ⟨rfl, hi, hb, hk⟩
      refine ⟨_, rfl, ?_⟩
      replace HO_2108002 := Aside0.mk (Kd.R_mono (Kd.R_keep (IsS_l1Cur.apart (show IsS_l1Cur w0 _ g s0_0 t2128 t2129 from is_l1Cur_ HI0.out) (rq_ HO_2108002.out) (by decide)) hk (fun _ h => h.2)) (fun _ h => h.1))
      replace BK2106 := Aside0.mk (KeepBut.blk hk (g' := gb2106) (o := .cells #[.int .i64 0, .int .i64 0, .slice none 0 0] 57 (0, 0)) (bq_ BK2106.out) NB2106_0.out (by simp))
      replace BK2107 := Aside0.mk (KeepBut.blk hk (g' := gb2107) (o := .cells #[.int .i64 t2120, .int .i64 t2121, .slice Ao49 t2122.length co49] 57 (0, 0)) (bq_ BK2107.out) NB2107_0.out (by simp))
      replace HO2124 := Aside0.mk (Kd.R_mono (Kd.R_keep (IsS_l1Cur.apart (show IsS_l1Cur w0 _ g s0_0 t2128 t2129 from is_l1Cur_ HI0.out) (rq_ HO2124.out) (by decide)) hk (fun _ h => h.2)) (fun _ h => h.1))
      replace HK := Aside0.mk (KeepBut.trans (hk_ HK.out) hk (.inl rfl))
      replace HB := Aside0.mk (hb)
      replace HI0 := Aside0.mk (hi)
      (try clear hb); (try clear hb2); (try clear hk); (try clear hi)
      refine hK.out _ _ ⟨bc_ BK2107 0, bc_ BK2107 1, bc_ BK2107 2⟩ (fun hHeld => ?_)
      clear hK K
      refine nm_ ?_
      refine pure_ (i := 3) (N := some 43) (v := ?_) (a' := ?_) #[true, true, true, true, false, false] rfl rfl (by kernel_rfl) (fun _ _ _ h => h) (Or.inl ⟨by rfl, ?_⟩) ?_ ?_; rotate_left; (focus intro w'; go_simp; with_reducible rfl); rotate_left; (focus simp only [Act.put, List.setIfInBounds_toArray, List.set_cons_zero, List.set_cons_succ, i64_w, i32_w]; rfl)
      refine one_ (i := 4) (N := some 44) #[true, true, true, true, true, false] rfl rfl (by kernel_rfl) (by decide) (fun K hK => ?_)
      refine goes_ Try.func46 (by kernel_rfl) rfl #[.agg #[.int .i64 t2120, .int .i64 t2121, .slice Ao49 t2122.length co49], .int .i64 (wrap64 (1 + t2141))] (by rfl) rfl rfl sm_ ?_
      with_reducible refine (spec_RowPack.calls k1 t2120 t2121 _ _ t2122 (wrap64 (1 + t2141)) t2144 t2145 t2146 _ ?side1 ?side2 A40.out).mono ?_
      (case side1 => repeat (first | exact (Kd.R_reads' HO2124.out).2.2 | (with_reducible refine Kd.C_alloc ?_ _) | (with_reducible refine Kd.C_drewN ?_ _) | (with_reducible refine Kd.C_drew ?_)))
      (case side2 => exact (Kd.R_reads' HO2124.out).2.1)
      rintro e w54 ⟨v2147, rfl, ho0, hb⟩
      refine ⟨_, rfl, ?_⟩
      have HO2148 := Aside0.mk (Kd.R_lower (Kd.R_new' (Kd.R_new' ho0 (Kd.R_lt (rq_ HO_2108002.out))) (Kd.R_lt (rq_ HO2124.out))) (keep_size (w := w) (g := g) (row := none) (hk_ HK.out)))
      replace HO_2108002 := Aside0.mk (Kd.R_elder' (rq_ HO_2108002.out) (Kd.R_base ho0) hb)
      replace HO2124 := Aside0.mk (Kd.R_elder' (rq_ HO2124.out) (Kd.R_base ho0) hb)
      replace BK2106 := cb_ BK2106 hb
      replace BK2107 := cb_ BK2107 hb
      replace HI0 := Aside0.mk (IsS_l1Cur.below (is_l1Cur_ HI0.out) hb)
      replace HK := Aside0.mk (KeepBut.trans (hk_ HK.out) (KeepBut.of_below hb g none) (.inl rfl))
      replace HB := Aside0.mk (below_step (hi_ HB.out) hb)
      (try clear hb); (try clear ho0)
      obtain ⟨Ao57, co57, eo57⟩ := Kd.R_slice HO2148.out
      (first | subst eo57 | (injection eo57 with f1_ f2_ f3_; have f4_ := f1_.symm; have f5_ := f3_.symm; clear f1_ f2_ f3_; subst f4_; subst f5_))
      refine hK.out _ _ ⟨bc_ BK2107 0, bc_ BK2107 1, bc_ BK2107 2⟩ (fun hHeld => ?_)
      clear hK K
      refine nm_ ?_
      refine last_ (i := 5) (N := none) #[true, true, true, true, true, true] rfl rfl (by kernel_rfl) (by decide) (fun K hK => ?_)
      have hs55 : w54.cell? ⟨gb2107, 0, none⟩ = some (.int .i64 t2120) := bc_ BK2107 0
      have hfs55 := blk_frozen BK2107.out 0
      have hns55_0 := NB2106_2107.out
      have hms55_0 := NB2107_2106.out
      have hs56 : w54.cell? ⟨gb2107, 1, none⟩ = some (.int .i64 t2121) := bc_ BK2107 1
      have hfs56 := blk_frozen BK2107.out 1
      have hns56_0 := NB2106_2107.out
      have hms56_0 := NB2107_2106.out
      have hs58 : w54.cell? ⟨gb2107, 2, none⟩ = some (.slice Ao49 t2122.length co49) := bc_ BK2107 2
      have hfs58 := blk_frozen BK2107.out 2
      have hns58_0 := NB2106_2107.out
      have hms58_0 := NB2107_2106.out
      refine skip_ (w1 := ?_) (by rfl) rfl ?_ ?_
      rotate_left; (focus go_simp; rfl)
      refine hK.out _ _ ?_
      clear hK K
      refine done_ (by kernel_rfl) ?_
      try go_wp2
      go_roundg k1
      case measure => have := HK1.out; omega
      case rel => exact ⟨(wrap64 (x5_1 + 1)), (t2142), (t2143), (t2144), (t2145), (t2146), (.slice Ao57 t2146.length co57), (qe4_), H', ⟨by have := HK1.out; omega⟩, ⟨by (with_reducible repeat (first | apply Kd.R_alloc | apply Kd.R_drewN | apply Kd.R_drew)); exact Kd.R_mono (Kd.R_far (p := ⟨gb2107, 2, none⟩) (Kd.R_far (p := ⟨gb2107, 1, none⟩) (Kd.R_far (p := ⟨gb2107, 0, none⟩) (Kd.R_types HO2148.out BK2107.out (by decide)) (fun _ hk => hk.2) (.int .i64 t2144)) (fun _ hk => hk.2) (.int .i64 t2145)) (fun _ hk => hk.2) (.slice Ao57 t2146.length co57)) (fun _ hk => trivial)⟩, ⟨bf_ NB2106_2107.out BK2106.out⟩, ⟨bp_ BK2107.out⟩, ⟨is_l1Cur_ HI0.out⟩, ⟨qe3_⟩, ⟨qe2_⟩⟩
     ·
      rw [if_neg c38] at H
      have c38b0 : (t2127 == 1) = false := beq_eq_false_iff_ne.mpr c38
      have c38b1 : (t2127 != 1) = true := bne_iff_ne.mpr c38
      have H' := Aside0.mk H
      clear H
      try go_wp2
      replace HO_2108002 := Aside0.mk (Kd.R_drew HO_2108002.out)
      replace BK2106 := Aside0.mk (blk_drew BK2106.out)
      replace BK2107 := Aside0.mk (blk_drew BK2107.out)
      replace HI0 := Aside0.mk (IsS_l1Cur.drew HI0.out)
      replace HK := Aside0.mk (keep_drew HK.out)
      replace HB := Aside0.mk (below_drew1 HB.out)
      refine start_ (n := 14) (S := fun w' => w'.cell? ⟨gb2107, 0, none⟩ = some (.int .i64 x2108000_1) ∧ w'.cell? ⟨gb2107, 1, none⟩ = some (.int .i64 x2108001_1) ∧ w'.cell? ⟨gb2107, 2, none⟩ = some (u2108002)) (ds := [13]) spec_l3DrawRight.m0 (by kernel_rfl) rfl rfl ⟨bc_ BK2107 0, bc_ BK2107 1, bc_ BK2107 2⟩ (fun hHeld => ?_); refine with_tabW spec_l3DrawRight.tab6 spec_l3DrawRight.bits6 (fun HT_ HW_ => ?_)
      generalize wr.drew = w59 at HO_2108002 BK2106 BK2107 HI0 HK HB hHeld ⊢
      refine pI_ 1 16 HT_ spec_l3DrawRight.m1 rfl rfl ?_
      refine pI_ 3 18 HT_ spec_l3DrawRight.m2 rfl rfl ?_
      refine pI_ 5 20 HT_ spec_l3DrawRight.m3 rfl rfl ?_
      refine pI_ 7 22 HT_ spec_l3DrawRight.m4 rfl rfl ?_
      refine tk_ 0 15 HT_ HW_ spec_l3DrawRight.m5 rfl rfl hHeld ?_
      refine on_ 2 17 HT_ spec_l3DrawRight.m6 rfl rfl (fun K hK => ?_)
      refine goes_ Try.func103 (by kernel_rfl) rfl #[.pointer (some ⟨g, 0, none⟩)] (by rfl) rfl rfl sm_ ?_
      with_reducible refine (spec_l2DrawText.calls g s0_0 x1001_1 x1002_1 t2111 t2112 t2113 w0 _ ?side1 ?side2 A10.out).mono ?_
      (case side1 => repeat (first | (with_reducible first | exact HI0.out | apply IsS_l1Cur.alloc | apply IsS_l1Cur.drewN | apply IsS_l1Cur.drew | apply IsS_l1Cur.set_1 | apply IsS_l1Cur.set_2 | refine IsS_l1Cur.far ?_ NB0_2106.out _ | refine IsS_l1Cur.far ?_ NB0_2107.out _) | exact HI0.out))
      (case side2 => repeat (first | (with_reducible first | exact HB.out | apply below_alloc | apply pw_below_drewN | apply below_drew1 | refine below_set ?_ (IsS_l1Cur.ge HI0.out) | refine below_set ?_ GE2106.out | refine below_set ?_ GE2107.out) | exact HB.out))
      rintro e w60 ⟨rfl, hi, hb, hk⟩
      refine ⟨_, rfl, ?_⟩
      replace HO_2108002 := Aside0.mk (Kd.R_mono (Kd.R_keep (IsS_l1Cur.apart (show IsS_l1Cur w0 _ g s0_0 x1001_1 x1002_1 from is_l1Cur_ HI0.out) (rq_ HO_2108002.out) (by decide)) hk (fun _ h => h.2)) (fun _ h => h.1))
      replace BK2106 := Aside0.mk (KeepBut.blk hk (g' := gb2106) (o := .cells #[.int .i64 0, .int .i64 0, .slice none 0 0] 57 (0, 0)) (bq_ BK2106.out) NB2106_0.out (by simp))
      replace BK2107 := Aside0.mk (KeepBut.blk hk (g' := gb2107) (o := .cells #[.int .i64 x2108000_1, .int .i64 x2108001_1, u2108002] 57 (0, 0)) (bq_ BK2107.out) NB2107_0.out (by simp))
      replace HK := Aside0.mk (KeepBut.trans (hk_ HK.out) hk (.inl rfl))
      replace HB := Aside0.mk (hb)
      replace HI0 := Aside0.mk (hi)
      (try clear hb); (try clear hb2); (try clear hk); (try clear hi)
      refine hK.out _ _ ⟨bc_ BK2107 0, bc_ BK2107 1, bc_ BK2107 2⟩ (fun hHeld => ?_)
      clear hK K
      refine nm_ ?_
      refine on_ 4 19 HT_ spec_l3DrawRight.m7 rfl rfl (fun K hK => ?_)
      refine goes_ Try.func103 (by kernel_rfl) rfl #[.pointer (some ⟨g, 0, none⟩)] (by rfl) rfl rfl sm_ ?_
      with_reducible refine (spec_l2DrawText.calls g s0_0 t2112 t2113 t2114 t2115 t2116 w0 _ ?side1 ?side2 A11.out).mono ?_
      (case side1 => repeat (first | (with_reducible first | exact HI0.out | apply IsS_l1Cur.alloc | apply IsS_l1Cur.drewN | apply IsS_l1Cur.drew | apply IsS_l1Cur.set_1 | apply IsS_l1Cur.set_2 | refine IsS_l1Cur.far ?_ NB0_2106.out _ | refine IsS_l1Cur.far ?_ NB0_2107.out _) | exact HI0.out))
      (case side2 => repeat (first | (with_reducible first | exact HB.out | apply below_alloc | apply pw_below_drewN | apply below_drew1 | refine below_set ?_ (IsS_l1Cur.ge HI0.out) | refine below_set ?_ GE2106.out | refine below_set ?_ GE2107.out) | exact HB.out))
      rintro e w61 ⟨rfl, hi, hb, hk⟩
      refine ⟨_, rfl, ?_⟩
      replace HO_2108002 := Aside0.mk (Kd.R_mono (Kd.R_keep (IsS_l1Cur.apart (show IsS_l1Cur w0 _ g s0_0 t2112 t2113 from is_l1Cur_ HI0.out) (rq_ HO_2108002.out) (by decide)) hk (fun _ h => h.2)) (fun _ h => h.1))
      replace BK2106 := Aside0.mk (KeepBut.blk hk (g' := gb2106) (o := .cells #[.int .i64 0, .int .i64 0, .slice none 0 0] 57 (0, 0)) (bq_ BK2106.out) NB2106_0.out (by simp))
      replace BK2107 := Aside0.mk (KeepBut.blk hk (g' := gb2107) (o := .cells #[.int .i64 x2108000_1, .int .i64 x2108001_1, u2108002] 57 (0, 0)) (bq_ BK2107.out) NB2107_0.out (by simp))
      replace HK := Aside0.mk (KeepBut.trans (hk_ HK.out) hk (.inl rfl))
      replace HB := Aside0.mk (hb)
      replace HI0 := Aside0.mk (hi)
      (try clear hb); (try clear hk); (try clear hi)
      refine hK.out _ _ ⟨bc_ BK2107 0, bc_ BK2107 1, bc_ BK2107 2⟩ (fun hHeld => ?_)
      clear hK K
      refine nm_ ?_
      refine on_ 6 21 HT_ spec_l3DrawRight.m8 rfl rfl (fun K hK => ?_)
      refine goes_ Try.func78 (by kernel_rfl) rfl #[.pointer (some ⟨g, 0, none⟩), .int .i64 4] (by rfl) rfl rfl sm_ ?_
      with_reducible refine (spec_l1Below.calls g s0_0 t2115 t2116 4 t2117 t2118 t2119 w0 _ ?side1 ?side2 A12.out).mono ?_
      (case side1 => repeat (first | (with_reducible first | exact HI0.out | apply IsS_l1Cur.alloc | apply IsS_l1Cur.drewN | apply IsS_l1Cur.drew | apply IsS_l1Cur.set_1 | apply IsS_l1Cur.set_2 | refine IsS_l1Cur.far ?_ NB0_2106.out _ | refine IsS_l1Cur.far ?_ NB0_2107.out _) | exact HI0.out))
      (case side2 => repeat (first | (with_reducible first | exact HB.out | apply below_alloc | apply pw_below_drewN | apply below_drew1 | refine below_set ?_ (IsS_l1Cur.ge HI0.out) | refine below_set ?_ GE2106.out | refine below_set ?_ GE2107.out) | exact HB.out))
      rintro e w62 ⟨rfl, hi, hb, hk⟩
      refine ⟨_, rfl, ?_⟩
      replace HO_2108002 := Aside0.mk (Kd.R_mono (Kd.R_keep (IsS_l1Cur.apart (show IsS_l1Cur w0 _ g s0_0 t2115 t2116 from is_l1Cur_ HI0.out) (rq_ HO_2108002.out) (by decide)) hk (fun _ h => h.2)) (fun _ h => h.1))
      replace BK2106 := Aside0.mk (KeepBut.blk hk (g' := gb2106) (o := .cells #[.int .i64 0, .int .i64 0, .slice none 0 0] 57 (0, 0)) (bq_ BK2106.out) NB2106_0.out (by simp))
      replace BK2107 := Aside0.mk (KeepBut.blk hk (g' := gb2107) (o := .cells #[.int .i64 x2108000_1, .int .i64 x2108001_1, u2108002] 57 (0, 0)) (bq_ BK2107.out) NB2107_0.out (by simp))
      replace HK := Aside0.mk (KeepBut.trans (hk_ HK.out) hk (.inl rfl))
      replace HB := Aside0.mk (hb)
      replace HI0 := Aside0.mk (hi)
      (try clear hb); (try clear hk); (try clear hi)
      obtain ⟨Ao63, co63, eo63⟩ := Kd.R_slice HO_2108002.out
      (first | subst eo63 | (injection eo63 with f1_ f2_ f3_; have f4_ := f1_.symm; have f5_ := f3_.symm; clear f1_ f2_ f3_; subst f4_; subst f5_))
      refine hK.out _ _ ⟨bc_ BK2107 0, bc_ BK2107 1, bc_ BK2107 2⟩ (fun hHeld => ?_)
      clear hK K
      refine nm_ ?_
      refine on_ 8 23 HT_ spec_l3DrawRight.m9 rfl rfl (fun K hK => ?_)
      refine goes_ Try.func30 (by kernel_rfl) rfl #[.agg #[.int .i64 x2108000_1, .int .i64 x2108001_1, .slice Ao63 x2108002_1.length co63], .string t2111, .string t2114, .int .i64 t2117, .int .i64 x5_1] (by rfl) rfl rfl sm_ ?_
      with_reducible refine (spec_RowPut.calls k1 x2108000_1 x2108001_1 _ _ x2108002_1 t2111 t2114 t2117 x5_1 t2120 t2121 t2122 t2125 t2126 _ ?side1 ?side2 A13.out).mono ?_
      (case side1 => repeat (first | exact (Kd.R_reads' HO_2108002.out).2.2 | (with_reducible refine Kd.C_alloc ?_ _) | (with_reducible refine Kd.C_drewN ?_ _) | (with_reducible refine Kd.C_drew ?_)))
      (case side2 => exact (Kd.R_reads' HO_2108002.out).2.1)
      rintro e w64 ⟨v2123, rfl, ho0, hb⟩
      refine ⟨_, rfl, ?_⟩
      have HO2124 := Aside0.mk (Kd.R_lower (Kd.R_new' ho0 (Kd.R_lt (rq_ HO_2108002.out))) (keep_size (w := w) (g := g) (row := none) (hk_ HK.out)))
      replace HO_2108002 := Aside0.mk (Kd.R_elder' (rq_ HO_2108002.out) (Kd.R_base ho0) hb)
      replace BK2106 := cb_ BK2106 hb
      replace BK2107 := cb_ BK2107 hb
      replace HI0 := Aside0.mk (IsS_l1Cur.below (is_l1Cur_ HI0.out) hb)
      replace HK := Aside0.mk (KeepBut.trans (hk_ HK.out) (KeepBut.of_below hb g none) (.inl rfl))
      replace HB := Aside0.mk (below_step (hi_ HB.out) hb)
      (try clear hb); (try clear ho0)
      obtain ⟨Ao67, co67, eo67⟩ := Kd.R_slice HO2124.out
      (first | subst eo67 | (injection eo67 with f1_ f2_ f3_; have f4_ := f1_.symm; have f5_ := f3_.symm; clear f1_ f2_ f3_; subst f4_; subst f5_))
      refine hK.out _ _ ⟨bc_ BK2107 0, bc_ BK2107 1, bc_ BK2107 2⟩ (fun hHeld => ?_)
      clear hK K
      refine nm_ ?_
      refine pI_ 9 14 HT_ spec_l3DrawRight.m10 rfl rfl ?_
      refine pI_ 10 24 HT_ spec_l3DrawRight.m11 rfl rfl ?_
      refine pI_ 11 25 HT_ spec_l3DrawRight.m12 rfl rfl ?_
      refine pI_ 12 26 HT_ spec_l3DrawRight.m13 rfl rfl ?_
      refine last_ (i := 13) (N := none) spec_l3DrawRight.m14 rfl rfl (one_of HT_.out (by kernel_rfl)) (by decide) (fun K hK => ?_)
      have hs65 : w64.cell? ⟨gb2107, 0, none⟩ = some (.int .i64 x2108000_1) := bc_ BK2107 0
      have hfs65 := blk_frozen BK2107.out 0
      have hns65_0 := NB2106_2107.out
      have hms65_0 := NB2107_2106.out
      have hs66 : w64.cell? ⟨gb2107, 1, none⟩ = some (.int .i64 x2108001_1) := bc_ BK2107 1
      have hfs66 := blk_frozen BK2107.out 1
      have hns66_0 := NB2106_2107.out
      have hms66_0 := NB2107_2106.out
      have hs68 : w64.cell? ⟨gb2107, 2, none⟩ = some (.slice Ao63 x2108002_1.length co63) := bc_ BK2107 2
      have hfs68 := blk_frozen BK2107.out 2
      have hns68_0 := NB2106_2107.out
      have hms68_0 := NB2107_2106.out
      refine skip_ (w1 := ?_) (by rfl) rfl ?_ ?_
      rotate_left; (focus go_simp; rfl)
      refine hK.out _ _ ?_
      clear hK K
      refine done_ (done_of HT_.out (by kernel_rfl)) ?_
      try go_wp2_with (first | ((with_reducible refine gate_callee (f := 78) rfl ?_); refine goesL_ (some 28) rfl rfl Try.func78 (by kernel_rfl) rfl #[.pointer (some ⟨g, 0, none⟩), .int .i64 12] rfl sm_ ?_; (with_reducible refine (spec_l1Below.calls g s0_0 t2118 t2119 12 t2127 t2128 t2129 w0 _ ?side1 ?side2 A14.out).mono ?_); (case side1 => repeat (first | (with_reducible first | exact HI0.out | apply IsS_l1Cur.alloc | apply IsS_l1Cur.drewN | apply IsS_l1Cur.drew | apply IsS_l1Cur.set_1 | apply IsS_l1Cur.set_2 | refine IsS_l1Cur.far ?_ NB0_2106.out _ | refine IsS_l1Cur.far ?_ NB0_2107.out _) | exact HI0.out)); (case side2 => repeat (first | (with_reducible first | exact HB.out | apply below_alloc | apply pw_below_drewN | apply below_drew1 | refine below_set ?_ (IsS_l1Cur.ge HI0.out) | refine below_set ?_ GE2106.out | refine below_set ?_ GE2107.out) | exact HB.out)); rintro e w69 ⟨rfl, hi, hb, hk⟩; refine ⟨_, rfl, ?_⟩; replace HO_2108002 := Aside0.mk (Kd.R_mono (Kd.R_keep (IsS_l1Cur.apart (show IsS_l1Cur w0 _ g s0_0 t2118 t2119 from is_l1Cur_ HI0.out) (rk_ HO_2108002.out BK2107.out) (by decide)) hk (fun _ h => h.2)) (fun _ h => h.1)); replace BK2106 := Aside0.mk (KeepBut.blk hk (g' := gb2106) (o := .cells #[.int .i64 0, .int .i64 0, .slice none 0 0] 57 (0, 0)) (bf_ NB2106_2107.out BK2106.out) NB2106_0.out (by simp)); replace HO2124 := Aside0.mk (Kd.R_mono (Kd.R_keep (IsS_l1Cur.apart (show IsS_l1Cur w0 _ g s0_0 t2118 t2119 from is_l1Cur_ HI0.out) (rk_ HO2124.out BK2107.out) (by decide)) hk (fun _ h => h.2)) (fun _ h => h.1)); replace BK2107 := Aside0.mk (KeepBut.blk hk (g' := gb2107) (o := .cells #[.int .i64 t2120, .int .i64 t2121, .slice Ao67 t2122.length co67] 57 (0, 0)) (bp_ BK2107.out) NB2107_0.out (by simp)); replace HK := Aside0.mk (KeepBut.trans (hk_ HK.out) hk (.inl rfl)); replace HB := Aside0.mk (hb); replace HI0 := Aside0.mk (hi); (try clear hb); (try clear hb2); (try clear hk); (try clear hi)))
      go_roundg k1
      case measure => have := HK1.out; omega
      case rel => exact ⟨(wrap64 (x5_1 + 1)), (t2128), (t2129), (t2120), (t2121), (t2122), (.slice Ao67 t2122.length co67), (qe4_), H', ⟨by have := HK1.out; omega⟩, ⟨by (with_reducible repeat (first | apply Kd.R_alloc | apply Kd.R_drewN | apply Kd.R_drew)); exact Kd.R_mono HO2124.out (fun _ hk => trivial)⟩, ⟨bq_ BK2106.out⟩, ⟨bq_ BK2107.out⟩, ⟨is_l1Cur_ HI0.out⟩, ⟨qe3_⟩, ⟨qe2_⟩⟩
   ·
    rw [if_neg c9] at H
    have c9b0 : decide (x5_1 < t2108) = false := decide_eq_false c9
    clear c9
    simp only [Option.some.injEq, Prod.mk.injEq] at H
    obtain ⟨rfl, rfl, rfl, rfl, rfl⟩ := H
    have hnb70 := NB2107_2106.out
    have hnc70 := NB2106_2107.out
    have hnb71 := NB2107_0.out
    have hnc71 := NB0_2107.out
    have hcz72_0 : wr.cell? ⟨gb2107, 0, none⟩ = some (.int .i64 x2108000_1) := bc_ BK2107 0
    have hcz72_1 : wr.cell? ⟨gb2107, 1, none⟩ = some (.int .i64 x2108001_1) := bc_ BK2107 1
    have hcz72_2 : wr.cell? ⟨gb2107, 2, none⟩ = some (u2108002) := bc_ BK2107 2
    have hfz72_0 := blk_frozen BK2107.out 0
    have hfz72_1 := blk_frozen BK2107.out 1
    have hfz72_2 := blk_frozen BK2107.out 2
    have hnb73 := NB2106_0.out
    have hnc73 := NB0_2106.out
    have hcz74_0 : wr.cell? ⟨gb2106, 0, none⟩ = some (.int .i64 0) := bc_ BK2106 0
    have hcz74_1 : wr.cell? ⟨gb2106, 1, none⟩ = some (.int .i64 0) := bc_ BK2106 1
    have hcz74_2 : wr.cell? ⟨gb2106, 2, none⟩ = some (.slice none 0 0) := bc_ BK2106 2
    have hfz74_0 := blk_frozen BK2106.out 0
    have hfz74_1 := blk_frozen BK2106.out 1
    have hfz74_2 := blk_frozen BK2106.out 2
    obtain ⟨Ao75, co75, eo75⟩ := Kd.R_slice HO_2108002.out
    subst eo75
    go_wp2
    refine bodyPost_ret (results_cell_row rfl _ _ gb2106 57 #[.int .i64 x2108000_1, .int .i64 x2108001_1, .slice Ao75 x2108002_1.length co75] (0, 0) _ rfl (bp_ BK2106.out) Try.underlying57 rfl (by kernel_rfl)) rfl ?_
    exact ⟨_, er_, by (with_reducible repeat (first | apply Kd.R_alloc | apply Kd.R_drewN | apply Kd.R_drew)); exact Kd.R_mono (Kd.R_far (p := ⟨gb2106, 2, none⟩) (Kd.R_far (p := ⟨gb2106, 1, none⟩) (Kd.R_far (p := ⟨gb2106, 0, none⟩) (Kd.R_types HO_2108002.out BK2106.out (by decide)) (fun _ hk => hk.2) (.int .i64 x2108000_1)) (fun _ hk => hk.2) (.int .i64 x2108001_1)) (fun _ hk => hk.2) (.slice Ao75 x2108002_1.length co75)) (fun _ hk => trivial), is_l1Cur_ HI0.out, qe2_, qe3_⟩
/-! ### spec_l3Draw: function 101 -/
abbrev spec_l3Draw.m0 : Array Bool := #[t_,t_,t_,t_,t_,t_,f_,f_,f_,f_,f_,f_]
def spec_l3Draw.l0 : Nat → List Int → Int → Int → Int → Int → List (S_Item) → Option (Int × Int × (List (S_Item)) × Int × Int)
 | 0, _, _, _, _, _, _ => none
 | k + 1, x1000, x1001, x1002, x2158000, x2158001, x2158002 => if (x2158002.length : Int) < 80 then ((spec_RowPut.f k x2158000 x2158001 x2158002 (⟨#[]⟩ : ByteArray) (⟨#[]⟩ : ByteArray) 0 0).bind fun bt2185 => (spec_l3Draw.l0 k x1000 x1001 x1002 bt2185.1 bt2185.2.1 bt2185.2.2.1)) else (some (x2158000, x2158001, x2158002, x1001, x1002))
def spec_l3Draw.f (k : Nat) (s0_0 : List Int) (s0_1 : Int) (s0_2 : Int) : Option (Int × Int × (List (S_Item)) × Int × Int) := (spec_l3DrawRight.f k s0_0 s0_1 s0_2).bind fun bt2150 => ((spec_l1Below.f s0_0 bt2150.2.2.2.1 bt2150.2.2.2.2 14).bind fun bt2158 => (if bt2158.1 = 0 then ((spec_l1PickInt.f s0_0 bt2158.2.1 bt2158.2.2 (([(-1), 0, 1, 99] : List Int))).bind fun bt2164 => (some (bt2164.1, bt2150.2.1, bt2150.2.2.1, bt2164.2.1, bt2164.2.2))) else (if bt2158.1 = 1 then ((spec_l1PickInt.f s0_0 bt2158.2.1 bt2158.2.2 (([0, 3, 100000, 100001] : List Int))).bind fun bt2170 => (some (bt2150.1, bt2170.1, bt2150.2.2.1, bt2170.2.1, bt2170.2.2))) else (if bt2158.1 = 2 then ((spec_l1Below.f s0_0 bt2158.2.1 bt2158.2.2 20).bind fun bt2173 => ((spec_l1Pick.f s0_0 bt2173.2.1 bt2173.2.2 (([(⟨#[97]⟩ : ByteArray), (⟨#[65]⟩ : ByteArray)] : List ByteArray))).bind fun bt2179 => (if bt2150.2.2.1.length < 2513169434916 then (some (bt2150.1, bt2150.2.1, (bt2150.2.2.1 ++ [(⟨bt2173.1, bt2179.1, (⟨#[]⟩ : ByteArray), 0, 0⟩ : S_Item)]), bt2179.2.1, bt2179.2.2)) else (none)))) else (if bt2158.1 = 3 then (spec_l3Draw.l0 k s0_0 bt2158.2.1 bt2158.2.2 bt2150.1 bt2150.2.1 bt2150.2.2.1) else (some (bt2150.1, bt2150.2.1, bt2150.2.2.1, bt2158.2.1, bt2158.2.2)))))))
theorem spec_l3Draw.mono_l : ∀ k, (∀ y0 y1 y2 y3 y4 y5, LeO (spec_l3Draw.l0 k y0 y1 y2 y3 y4 y5) (spec_l3Draw.l0 (k + 1) y0 y1 y2 y3 y4 y5))
 | 0 => fun _ _ _ _ _ _ r h => by simp [spec_l3Draw.l0] at h
 | k + 1 => by
  have ih0 := spec_l3Draw.mono_l k
  ·
   intro y0 y1 y2 y3 y4 y5
   unfold spec_l3Draw.l0
   exact qeh1_
theorem spec_l3Draw.mono : ∀ a0 a1 a2 k, LeO (spec_l3Draw.f k a0 a1 a2) (spec_l3Draw.f (k + 1) a0 a1 a2) := by
 intro a0 a1 a2 k
 have ih0 := spec_l3Draw.mono_l k
 unfold spec_l3Draw.f
 exact qeh1_
def spec_l3Draw.T8 : Bool × List (List Nat × List Nat) := (true, [([], []), ([0], [0]), ([], []), ([2], [2]), ([], []), ([], []), ([4, 5, 3], [4, 5]), ([3, 6], [3, 6]), ([7], [7]), ([1, 8, 6], [1, 8]), ([0, 1, 2, 3, 4, 5, 6, 7, 8, 9], []), ([10, 9, 9, 0, 1, 2, 3, 4, 5, 6, 7, 8, 9], [9, 10])])
def spec_l3Draw.B8 : List Nat := [0, 1, 0, 4, 0, 0, 60, 124, 252, 511, 1023, 2047]
theorem spec_l3Draw.tab8 : rtab .any (opsOf Try.f101 8) = spec_l3Draw.T8 := by kernel_rfl
theorem spec_l3Draw.bits8 : waitsOk spec_l3Draw.T8.2 spec_l3Draw.B8 = true := by kernel_rfl
set_option maxHeartbeats 8000000 in
set_option maxRecDepth 100000 in
theorem spec_l3Draw.calls (k : Nat) (g : Nat) (s0_0 : List Int) (s0_1 : Int) (s0_2 : Int) (r1 : Int) (r2 : Int) (r3 : List (S_Item)) (r4 : Int) (r5 : Int) (w0 w : World) (hI : IsS_l1Cur w0 w g s0_0 s0_1 s0_2) (hB : Below w0.heap.size w0 w) (h : spec_l3Draw.f k s0_0 s0_1 s0_2 = some (r1, r2, r3, r4, r5)) :
 Calls Try.prog 101 #[.pointer (some ⟨g, 0, none⟩)] w fun e w' => ∃ v2_ : Value, e = .returned (.agg #[.int .i64 r1, .int .i64 r2, v2_]) ∧ Kd.R k_Item 69 w' w.heap.size (fun _ => True) v2_ r3 ∧ IsS_l1Cur w0 w' g s0_0 r4 r5 ∧ Below w0.heap.size w0 w' ∧ KeepBut w w' g none := by
 have hu57 := Try.underlying57
 have hu69 := Try.underlying69
 have HI0 := Aside0.mk hI
 have HK := Aside0.mk (KeepBut.refl w g none)
 have HL := Aside0.mk hB.size
 clear hI
 have HW0 := Aside0.mk hB.size
 have HB := Aside0.mk hB
 clear hB
 have H : ((spec_l3DrawRight.f k s0_0 s0_1 s0_2).bind fun bt2150 => ((spec_l1Below.f s0_0 bt2150.2.2.2.1 bt2150.2.2.2.2 14).bind fun bt2158 => (if bt2158.1 = 0 then ((spec_l1PickInt.f s0_0 bt2158.2.1 bt2158.2.2 (([(-1), 0, 1, 99] : List Int))).bind fun bt2164 => (some (bt2164.1, bt2150.2.1, bt2150.2.2.1, bt2164.2.1, bt2164.2.2))) else (if bt2158.1 = 1 then ((spec_l1PickInt.f s0_0 bt2158.2.1 bt2158.2.2 (([0, 3, 100000, 100001] : List Int))).bind fun bt2170 => (some (bt2150.1, bt2170.1, bt2150.2.2.1, bt2170.2.1, bt2170.2.2))) else (if bt2158.1 = 2 then ((spec_l1Below.f s0_0 bt2158.2.1 bt2158.2.2 20).bind fun bt2173 => ((spec_l1Pick.f s0_0 bt2173.2.1 bt2173.2.2 (([(⟨#[97]⟩ : ByteArray), (⟨#[65]⟩ : ByteArray)] : List ByteArray))).bind fun bt2179 => (if bt2150.2.2.1.length < 2513169434916 then (some (bt2150.1, bt2150.2.1, (bt2150.2.2.1 ++ [(⟨bt2173.1, bt2179.1, (⟨#[]⟩ : ByteArray), 0, 0⟩ : S_Item)]), bt2179.2.1, bt2179.2.2)) else (none)))) else (if bt2158.1 = 3 then (spec_l3Draw.l0 k s0_0 bt2158.2.1 bt2158.2.2 bt2150.1 bt2150.2.1 bt2150.2.2.1) else (some (bt2150.1, bt2150.2.1, bt2150.2.2.1, bt2158.2.1, bt2158.2.2)))))))) = some (r1, r2, r3, r4, r5) := h
 clear h
 replace H := Option.bind_eq_some_iff.mp H
 obtain ⟨⟨t2150, t2151, t2152, t2155, t2156⟩, A20, H⟩ := H
 replace H : ((spec_l1Below.f s0_0 t2155 t2156 14).bind fun bt2158 => (if bt2158.1 = 0 then ((spec_l1PickInt.f s0_0 bt2158.2.1 bt2158.2.2 (([(-1), 0, 1, 99] : List Int))).bind fun bt2164 => (some (bt2164.1, t2151, t2152, bt2164.2.1, bt2164.2.2))) else (if bt2158.1 = 1 then ((spec_l1PickInt.f s0_0 bt2158.2.1 bt2158.2.2 (([0, 3, 100000, 100001] : List Int))).bind fun bt2170 => (some (t2150, bt2170.1, t2152, bt2170.2.1, bt2170.2.2))) else (if bt2158.1 = 2 then ((spec_l1Below.f s0_0 bt2158.2.1 bt2158.2.2 20).bind fun bt2173 => ((spec_l1Pick.f s0_0 bt2173.2.1 bt2173.2.2 (([(⟨#[97]⟩ : ByteArray), (⟨#[65]⟩ : ByteArray)] : List ByteArray))).bind fun bt2179 => (if t2152.length < 2513169434916 then (some (t2150, t2151, (t2152 ++ [(⟨bt2173.1, bt2179.1, (⟨#[]⟩ : ByteArray), 0, 0⟩ : S_Item)]), bt2179.2.1, bt2179.2.2)) else (none)))) else (if bt2158.1 = 3 then (spec_l3Draw.l0 k s0_0 bt2158.2.1 bt2158.2.2 t2150 t2151 t2152) else (some (t2150, t2151, t2152, bt2158.2.1, bt2158.2.2))))))) = some (r1, r2, r3, r4, r5) := H
 have A2 := Aside0.mk A20
 clear A20
 replace H := Option.bind_eq_some_iff.mp H
 obtain ⟨⟨t2158, t2159, t2160⟩, A30, H⟩ := H
 replace H : (if t2158 = 0 then ((spec_l1PickInt.f s0_0 t2159 t2160 (([(-1), 0, 1, 99] : List Int))).bind fun bt2164 => (some (bt2164.1, t2151, t2152, bt2164.2.1, bt2164.2.2))) else (if t2158 = 1 then ((spec_l1PickInt.f s0_0 t2159 t2160 (([0, 3, 100000, 100001] : List Int))).bind fun bt2170 => (some (t2150, bt2170.1, t2152, bt2170.2.1, bt2170.2.2))) else (if t2158 = 2 then ((spec_l1Below.f s0_0 t2159 t2160 20).bind fun bt2173 => ((spec_l1Pick.f s0_0 bt2173.2.1 bt2173.2.2 (([(⟨#[97]⟩ : ByteArray), (⟨#[65]⟩ : ByteArray)] : List ByteArray))).bind fun bt2179 => (if t2152.length < 2513169434916 then (some (t2150, t2151, (t2152 ++ [(⟨bt2173.1, bt2179.1, (⟨#[]⟩ : ByteArray), 0, 0⟩ : S_Item)]), bt2179.2.1, bt2179.2.2)) else (none)))) else (if t2158 = 3 then (spec_l3Draw.l0 k s0_0 t2159 t2160 t2150 t2151 t2152) else (some (t2150, t2151, t2152, t2159, t2160)))))) = some (r1, r2, r3, r4, r5) := H
 have A3 := Aside0.mk A30
 clear A30
 by_cases c4 : t2158 = 0
 ·
  rw [if_pos c4] at H
  have c4b0 : (t2158 == 0) = true := beq_iff_eq.mpr c4
  have c4b1 : (t2158 != 0) = false := bne_eq_false_iff_eq.mpr c4
  clear c4
  obtain ⟨y2161, hy2161⟩ : ∃ y_ : List Int, y_ = (([(-1), 0, 1, 99] : List Int)) := ⟨_, rfl⟩
  replace H : ((spec_l1PickInt.f s0_0 t2159 t2160 y2161).bind fun bt2164 => (some (bt2164.1, t2151, t2152, bt2164.2.1, bt2164.2.2))) = some (r1, r2, r3, r4, r5) := by first | (rw [hy2161]; with_reducible exact H) | (have H2_ := (Option.bind_some _ _).symm.trans H; rw [hy2161]; with_reducible exact H2_) | (have H2_ := (Option.bind_some _ _).symm.trans H; with_reducible exact H2_) | with_reducible exact H | (rw [hy2161]; exact H) | exact H
  have Ny2161 := Aside0.mk hy2161
  clear hy2161
  replace H := Option.bind_eq_some_iff.mp H
  obtain ⟨⟨t2164, t2165, t2166⟩, A50, H⟩ := H
  replace H : (some (t2164, t2151, t2152, t2165, t2166)) = some (r1, r2, r3, r4, r5) := H
  have A5 := Aside0.mk A50
  clear A50
  simp only [Option.some.injEq, Prod.mk.injEq] at H
  obtain ⟨rfl, rfl, rfl, rfl, rfl⟩ := H
  go_enter Try.func101, Try.ntmps101
  go_wp2_with (first | ((with_reducible refine gate_dst (N := 2) rfl ?_); refine box_event ?hg (N := 2) ?hd (cs := #[.int .i64 0, .int .i64 0, .slice none 0 0]) (t := 57) ?hr ?_; (case hd => rfl); (case hg => rfl); (case hr => first | (go_simp; done) | (go_simp; rfl)); intro gb2149 hg w6 hbox hb; have BK2149 := Aside0.mk (hbox); have GW2149 := Aside0.mk ((by rw [hg]; exact (keep_size (w := w) (g := g) (row := none) (hk_ HK.out)) : w.heap.size ≤ gb2149)); have GE2149 := Aside0.mk ((Nat.le_trans HW0.out (by rw [hg]; exact (keep_size (w := w) (g := g) (row := none) (hk_ HK.out)) : w.heap.size ≤ gb2149) : w0.heap.size ≤ gb2149)); have NB0_2149 := Aside0.mk ((by rw [hg]; exact Nat.ne_of_lt (IsS_l1Cur.lt (show IsS_l1Cur w0 _ g s0_0 s0_1 s0_2 from is_l1Cur_ HI0.out)) : g ≠ gb2149)); have NB2149_0 := Aside0.mk ((by rw [hg]; exact Nat.ne_of_gt (IsS_l1Cur.lt (show IsS_l1Cur w0 _ g s0_0 s0_1 s0_2 from is_l1Cur_ HI0.out)) : gb2149 ≠ g)); replace HI0 := Aside0.mk (IsS_l1Cur.below (is_l1Cur_ HI0.out) hb); replace HK := Aside0.mk (KeepBut.trans (hk_ HK.out) (KeepBut.of_below hb g none) (.inl rfl)); replace HB := Aside0.mk (below_step (hi_ HB.out) hb); clear hb hbox hg) | ((with_reducible refine gate_callee (f := 154) rfl ?_); refine goesL_ (some 5) rfl rfl Try.func154 (by kernel_rfl) rfl #[.pointer (some ⟨g, 0, none⟩)] rfl sm_ ?_; (with_reducible refine (spec_l3DrawRight.calls k g s0_0 s0_1 s0_2 t2150 t2151 t2152 t2155 t2156 w0 _ ?side1 ?side2 A2.out).mono ?_); (case side1 => repeat (first | (with_reducible first | exact HI0.out | apply IsS_l1Cur.alloc | apply IsS_l1Cur.drewN | apply IsS_l1Cur.drew | apply IsS_l1Cur.set_1 | apply IsS_l1Cur.set_2 | refine IsS_l1Cur.far ?_ NB0_2149.out _) | exact HI0.out)); (case side2 => repeat (first | (with_reducible first | exact HB.out | apply below_alloc | apply pw_below_drewN | apply below_drew1 | refine below_set ?_ (IsS_l1Cur.ge HI0.out) | refine below_set ?_ GE2149.out) | exact HB.out)); rintro e w7 ⟨v2153, rfl, ho0, hi, hb, hk⟩; refine ⟨_, rfl, ?_⟩; have HO2154 := Aside0.mk (Kd.R_lower ho0 (keep_size (w := w) (g := g) (row := none) (hk_ HK.out))); replace BK2149 := Aside0.mk (KeepBut.blk hk (g' := gb2149) (o := .cells #[.int .i64 0, .int .i64 0, .slice none 0 0] 57 (0, 0)) (bq_ BK2149.out) NB2149_0.out (by simp)); replace HK := Aside0.mk (KeepBut.trans (hk_ HK.out) hk (.inl rfl)); replace HB := Aside0.mk (hb); replace HI0 := Aside0.mk (hi); (try clear hb); (try clear hb2); (try clear hk); (try clear hi); (try clear ho0)) | ((with_reducible refine gate_dst (N := 3) rfl ?_); refine box_event ?hg (N := 3) ?hd (cs := #[.int .i64 0, .int .i64 0, .slice none 0 0]) (t := 57) ?hr ?_; (case hd => rfl); (case hg => rfl); (case hr => first | (go_simp; done) | (go_simp; rfl)); intro gb2157 hg w8 hbox hb; have BK2157 := Aside0.mk (hbox); have GW2157 := Aside0.mk ((by rw [hg]; exact (keep_size (w := w) (g := g) (row := none) (hk_ HK.out)) : w.heap.size ≤ gb2157)); have GE2157 := Aside0.mk ((Nat.le_trans HW0.out (by rw [hg]; exact (keep_size (w := w) (g := g) (row := none) (hk_ HK.out)) : w.heap.size ≤ gb2157) : w0.heap.size ≤ gb2157)); have NB2149_2157 := cn_ BK2149 hg; have NB2157_2149 := cm_ BK2149 hg; have NB0_2157 := Aside0.mk ((by rw [hg]; exact Nat.ne_of_lt (IsS_l1Cur.lt (show IsS_l1Cur w0 _ g s0_0 t2155 t2156 from is_l1Cur_ HI0.out)) : g ≠ gb2157)); have NB2157_0 := Aside0.mk ((by rw [hg]; exact Nat.ne_of_gt (IsS_l1Cur.lt (show IsS_l1Cur w0 _ g s0_0 t2155 t2156 from is_l1Cur_ HI0.out)) : gb2157 ≠ g)); replace HO2154 := cr_ HO2154 hb; replace HI0 := Aside0.mk (IsS_l1Cur.below (is_l1Cur_ HI0.out) hb); replace BK2149 := cb_ BK2149 hb; replace HK := Aside0.mk (KeepBut.trans (hk_ HK.out) (KeepBut.of_below hb g none) (.inl rfl)); replace HB := Aside0.mk (below_step (hi_ HB.out) hb); clear hb hbox hg; have hnb9 := NB2157_2149.out; have hnc9 := NB2149_2157.out; have hnb10 := NB2157_0.out; have hnc10 := NB0_2157.out; have hcz11_0 : w8.cell? ⟨gb2157, 0, none⟩ = some (.int .i64 0) := bc_ BK2157 0; have hcz11_1 : w8.cell? ⟨gb2157, 1, none⟩ = some (.int .i64 0) := bc_ BK2157 1; have hcz11_2 : w8.cell? ⟨gb2157, 2, none⟩ = some (.slice none 0 0) := bc_ BK2157 2; have hfz11_0 := blk_frozen BK2157.out 0; have hfz11_1 := blk_frozen BK2157.out 1; have hfz11_2 := blk_frozen BK2157.out 2; obtain ⟨Ao12, co12, eo12⟩ := Kd.R_slice HO2154.out; subst eo12) | ((with_reducible refine gate_callee (f := 78) rfl ?_); refine goesL_ (some 7) rfl rfl Try.func78 (by kernel_rfl) rfl #[.pointer (some ⟨g, 0, none⟩), .int .i64 14] rfl sm_ ?_; (with_reducible refine (spec_l1Below.calls g s0_0 t2155 t2156 14 t2158 t2159 t2160 w0 _ ?side1 ?side2 A3.out).mono ?_); (case side1 => repeat (first | (with_reducible first | exact HI0.out | apply IsS_l1Cur.alloc | apply IsS_l1Cur.drewN | apply IsS_l1Cur.drew | apply IsS_l1Cur.set_1 | apply IsS_l1Cur.set_2 | refine IsS_l1Cur.far ?_ NB0_2149.out _ | refine IsS_l1Cur.far ?_ NB0_2157.out _) | exact HI0.out)); (case side2 => repeat (first | (with_reducible first | exact HB.out | apply below_alloc | apply pw_below_drewN | apply below_drew1 | refine below_set ?_ (IsS_l1Cur.ge HI0.out) | refine below_set ?_ GE2149.out | refine below_set ?_ GE2157.out) | exact HB.out)); rintro e w13 ⟨rfl, hi, hb, hk⟩; refine ⟨_, rfl, ?_⟩; replace BK2149 := Aside0.mk (KeepBut.blk hk (g' := gb2149) (o := .cells #[.int .i64 0, .int .i64 0, .slice none 0 0] 57 (0, 0)) (bf_ NB2149_2157.out BK2149.out) NB2149_0.out (by simp)); replace HO2154 := Aside0.mk (Kd.R_mono (Kd.R_keep (IsS_l1Cur.apart (show IsS_l1Cur w0 _ g s0_0 t2155 t2156 from is_l1Cur_ HI0.out) (rk_ HO2154.out BK2157.out) (by decide)) hk (fun _ h => h.2)) (fun _ h => h.1)); replace BK2157 := Aside0.mk (KeepBut.blk hk (g' := gb2157) (o := .cells #[.int .i64 t2150, .int .i64 t2151, .slice Ao12 t2152.length co12] 57 (0, 0)) (bp_ BK2157.out) NB2157_0.out (by simp)); replace HK := Aside0.mk (KeepBut.trans (hk_ HK.out) hk (.inl rfl)); replace HB := Aside0.mk (hb); replace HI0 := Aside0.mk (hi); (try clear hb); (try clear hb2); (try clear hk); (try clear hi)) | ((with_reducible refine gate_dst (N := 11) rfl ?_); refine Kd.R_lit (Kd.int .i64) _ 3 ?hg (N := 11) ?hd (xs := ([(-1), 0, 1, 99] : List Int)) (inner := [.int .i64 (-1), .int .i64 0, .int .i64 1, .int .i64 99]) (ok := fun _ => True) (okp := fun _ => True) ?hr ?hp (fun _ hk => hk) trivial (Below.refl _ _) (Nat.le_refl _) (by simp) ?_; (case hd => rfl); (case hg => rfl); (case hr => first | (go_simp; done) | (go_simp; rfl)); (case hp => exact (Reps.one (show Kd.M (Kd.int .i64) _ _ _ (-1) [.int .i64 (-1)] from rfl) (Reps.one (show Kd.M (Kd.int .i64) _ _ _ 0 [.int .i64 0] from rfl) (Reps.one (show Kd.M (Kd.int .i64) _ _ _ 1 [.int .i64 1] from rfl) (Reps.one (show Kd.M (Kd.int .i64) _ _ _ 99 [.int .i64 99] from rfl) (Reps.none _ _)))))); intro v2162 w14 ho15 hb hg_ hnew_; clear hg_ hnew_; (first | rw [← Ny2161.out] at ho15 | (simp only [Int.reduceToNat] at ho15; rw [← Ny2161.out] at ho15)); have HO2163 := Aside0.mk (Kd.R_lower ho15 (keep_size (w := w) (g := g) (row := none) (hk_ HK.out))); replace HO2154 := cr_ HO2154 hb; replace HI0 := Aside0.mk (IsS_l1Cur.below (is_l1Cur_ HI0.out) hb); replace BK2149 := cb_ BK2149 hb; replace BK2157 := cb_ BK2157 hb; replace HK := Aside0.mk (KeepBut.trans (hk_ HK.out) (KeepBut.of_below hb g none) (.inl rfl)); replace HB := Aside0.mk (below_step (hi_ HB.out) hb); clear hb ho15; obtain ⟨Ao16, co16, eo16⟩ := Kd.R_slice HO2163.out; subst eo16) | ((with_reducible refine gate_callee (f := 104) rfl ?_); refine goesL_ (some 12) rfl rfl Try.func104 (by kernel_rfl) rfl #[.pointer (some ⟨g, 0, none⟩), .slice Ao16 y2161.length co16] rfl sm_ ?_; (with_reducible refine (spec_l1PickInt.calls g s0_0 t2159 t2160 _ _ y2161 t2164 t2165 t2166 w0 _ ?side1 ?side2 ?side3 ?side4 ?side5 A5.out).mono ?_); (case side1 => repeat (first | (with_reducible first | exact HI0.out | apply IsS_l1Cur.alloc | apply IsS_l1Cur.drewN | apply IsS_l1Cur.drew | apply IsS_l1Cur.set_1 | apply IsS_l1Cur.set_2 | refine IsS_l1Cur.far ?_ NB0_2149.out _ | refine IsS_l1Cur.far ?_ NB0_2157.out _) | exact HI0.out)); (case side2 => repeat (first | (with_reducible first | exact HB.out | apply below_alloc | apply pw_below_drewN | apply below_drew1 | refine below_set ?_ (IsS_l1Cur.ge HI0.out) | refine below_set ?_ GE2149.out | refine below_set ?_ GE2157.out) | exact HB.out)); (case side3 => repeat (first | exact (Kd.R_reads' HO2163.out).2.2 | (with_reducible refine Kd.C_alloc ?_ _) | (with_reducible refine Kd.C_drewN ?_ _) | (with_reducible refine Kd.C_drew ?_))); (case side4 => exact (Kd.R_reads' HO2163.out).2.1); (case side5 => exact far_slice (IsS_l1Cur.own_ne HI0.out HO2163.out (by decide))); rintro e w17 ⟨rfl, hi, hb, hk⟩; refine ⟨_, rfl, ?_⟩; replace BK2149 := Aside0.mk (KeepBut.blk hk (g' := gb2149) (o := .cells #[.int .i64 0, .int .i64 0, .slice none 0 0] 57 (0, 0)) (bq_ BK2149.out) NB2149_0.out (by simp)); replace HO2154 := Aside0.mk (Kd.R_mono (Kd.R_keep (IsS_l1Cur.apart (show IsS_l1Cur w0 _ g s0_0 t2159 t2160 from is_l1Cur_ HI0.out) (rq_ HO2154.out) (by decide)) hk (fun _ h => h.2)) (fun _ h => h.1)); replace BK2157 := Aside0.mk (KeepBut.blk hk (g' := gb2157) (o := .cells #[.int .i64 t2150, .int .i64 t2151, .slice Ao12 t2152.length co12] 57 (0, 0)) (bq_ BK2157.out) NB2157_0.out (by simp)); replace HO2163 := Aside0.mk (Kd.R_mono (Kd.R_keep (IsS_l1Cur.apart (show IsS_l1Cur w0 _ g s0_0 t2159 t2160 from is_l1Cur_ HI0.out) (rq_ HO2163.out) (by decide)) hk (fun _ h => h.2)) (fun _ h => h.1)); replace HK := Aside0.mk (KeepBut.trans (hk_ HK.out) hk (.inl rfl)); replace HB := Aside0.mk (hb); replace HI0 := Aside0.mk (hi); (try clear hb); (try clear hb2); (try clear hk); (try clear hi); have hcz18_0 : w17.cell? ⟨gb2157, 0, none⟩ = some (.int .i64 t2150) := bc_ BK2157 0; have hcz18_1 : w17.cell? ⟨gb2157, 1, none⟩ = some (.int .i64 t2151) := bc_ BK2157 1; have hcz18_2 : w17.cell? ⟨gb2157, 2, none⟩ = some (.slice Ao12 t2152.length co12) := bc_ BK2157 2; have hfz18_0 := blk_frozen BK2157.out 0; have hfz18_1 := blk_frozen BK2157.out 1; have hfz18_2 := blk_frozen BK2157.out 2; have hnb19 := NB2149_0.out; have hnc19 := NB0_2149.out; have hcz20_0 : w17.cell? ⟨gb2149, 0, none⟩ = some (.int .i64 0) := bc_ BK2149 0; have hcz20_1 : w17.cell? ⟨gb2149, 1, none⟩ = some (.int .i64 0) := bc_ BK2149 1; have hcz20_2 : w17.cell? ⟨gb2149, 2, none⟩ = some (.slice none 0 0) := bc_ BK2149 2; have hfz20_0 := blk_frozen BK2149.out 0; have hfz20_1 := blk_frozen BK2149.out 1; have hfz20_2 := blk_frozen BK2149.out 2))
  refine bodyPost_ret (results_cell_row rfl _ _ gb2149 57 #[.int .i64 t2164, .int .i64 t2151, .slice Ao12 t2152.length co12] (0, 0) _ rfl (by_ BK2149.out) Try.underlying57 rfl (by kernel_rfl)) rfl ?_
  exact ⟨_, er_, by (with_reducible repeat (first | apply Kd.R_alloc | apply Kd.R_drewN | apply Kd.R_drew)); exact Kd.R_mono (Kd.R_far (p := ⟨gb2149, 2, none⟩) (Kd.R_far (p := ⟨gb2149, 1, none⟩) (Kd.R_far (p := ⟨gb2149, 0, none⟩) (Kd.R_far (p := ⟨gb2157, 0, none⟩) (Kd.R_types (Kd.R_types HO2154.out BK2157.out (by decide)) BK2149.out (by decide)) (fun _ hk => hk.1.2) (.int .i64 t2164)) (fun _ hk => hk.2) (.int .i64 t2164)) (fun _ hk => hk.2) (.int .i64 t2151)) (fun _ hk => hk.2) (.slice Ao12 t2152.length co12)) (fun _ hk => trivial), is_l1Cur_ HI0.out, qe0_, qe1_⟩
 ·
  rw [if_neg c4] at H
  have c4b0 : (t2158 == 0) = false := beq_eq_false_iff_ne.mpr c4
  have c4b1 : (t2158 != 0) = true := bne_iff_ne.mpr c4
  by_cases c21 : t2158 = 1
  ·
   rw [if_pos c21] at H
   have c21b0 : (t2158 == 1) = true := beq_iff_eq.mpr c21
   have c21b1 : (t2158 != 1) = false := bne_eq_false_iff_eq.mpr c21
   clear c21
   obtain ⟨y2167, hy2167⟩ : ∃ y_ : List Int, y_ = (([0, 3, 100000, 100001] : List Int)) := ⟨_, rfl⟩
   replace H : ((spec_l1PickInt.f s0_0 t2159 t2160 y2167).bind fun bt2170 => (some (t2150, bt2170.1, t2152, bt2170.2.1, bt2170.2.2))) = some (r1, r2, r3, r4, r5) := by first | (rw [hy2167]; with_reducible exact H) | (have H2_ := (Option.bind_some _ _).symm.trans H; rw [hy2167]; with_reducible exact H2_) | (have H2_ := (Option.bind_some _ _).symm.trans H; with_reducible exact H2_) | with_reducible exact H | (rw [hy2167]; exact H) | exact H
   have Ny2167 := Aside0.mk hy2167
   clear hy2167
   replace H := Option.bind_eq_some_iff.mp H
   obtain ⟨⟨t2170, t2171, t2172⟩, A220, H⟩ := H
   replace H : (some (t2150, t2170, t2152, t2171, t2172)) = some (r1, r2, r3, r4, r5) := H
   have A22 := Aside0.mk A220
   clear A220
   simp only [Option.some.injEq, Prod.mk.injEq] at H
   obtain ⟨rfl, rfl, rfl, rfl, rfl⟩ := H
   go_enter Try.func101, Try.ntmps101
   go_wp2_with (first | ((with_reducible refine gate_dst (N := 2) rfl ?_); refine box_event ?hg (N := 2) ?hd (cs := #[.int .i64 0, .int .i64 0, .slice none 0 0]) (t := 57) ?hr ?_; (case hd => rfl); (case hg => rfl); (case hr => first | (go_simp; done) | (go_simp; rfl)); intro gb2149 hg w23 hbox hb; have BK2149 := Aside0.mk (hbox); have GW2149 := Aside0.mk ((by rw [hg]; exact (keep_size (w := w) (g := g) (row := none) (hk_ HK.out)) : w.heap.size ≤ gb2149)); have GE2149 := Aside0.mk ((Nat.le_trans HW0.out (by rw [hg]; exact (keep_size (w := w) (g := g) (row := none) (hk_ HK.out)) : w.heap.size ≤ gb2149) : w0.heap.size ≤ gb2149)); have NB0_2149 := Aside0.mk ((by rw [hg]; exact Nat.ne_of_lt (IsS_l1Cur.lt (show IsS_l1Cur w0 _ g s0_0 s0_1 s0_2 from is_l1Cur_ HI0.out)) : g ≠ gb2149)); have NB2149_0 := Aside0.mk ((by rw [hg]; exact Nat.ne_of_gt (IsS_l1Cur.lt (show IsS_l1Cur w0 _ g s0_0 s0_1 s0_2 from is_l1Cur_ HI0.out)) : gb2149 ≠ g)); replace HI0 := Aside0.mk (IsS_l1Cur.below (is_l1Cur_ HI0.out) hb); replace HK := Aside0.mk (KeepBut.trans (hk_ HK.out) (KeepBut.of_below hb g none) (.inl rfl)); replace HB := Aside0.mk (below_step (hi_ HB.out) hb); clear hb hbox hg) | ((with_reducible refine gate_callee (f := 154) rfl ?_); refine goesL_ (some 5) rfl rfl Try.func154 (by kernel_rfl) rfl #[.pointer (some ⟨g, 0, none⟩)] rfl sm_ ?_; (with_reducible refine (spec_l3DrawRight.calls k g s0_0 s0_1 s0_2 t2150 t2151 t2152 t2155 t2156 w0 _ ?side1 ?side2 A2.out).mono ?_); (case side1 => repeat (first | (with_reducible first | exact HI0.out | apply IsS_l1Cur.alloc | apply IsS_l1Cur.drewN | apply IsS_l1Cur.drew | apply IsS_l1Cur.set_1 | apply IsS_l1Cur.set_2 | refine IsS_l1Cur.far ?_ NB0_2149.out _) | exact HI0.out)); (case side2 => repeat (first | (with_reducible first | exact HB.out | apply below_alloc | apply pw_below_drewN | apply below_drew1 | refine below_set ?_ (IsS_l1Cur.ge HI0.out) | refine below_set ?_ GE2149.out) | exact HB.out)); rintro e w24 ⟨v2153, rfl, ho0, hi, hb, hk⟩; refine ⟨_, rfl, ?_⟩; have HO2154 := Aside0.mk (Kd.R_lower ho0 (keep_size (w := w) (g := g) (row := none) (hk_ HK.out))); replace BK2149 := Aside0.mk (KeepBut.blk hk (g' := gb2149) (o := .cells #[.int .i64 0, .int .i64 0, .slice none 0 0] 57 (0, 0)) (bq_ BK2149.out) NB2149_0.out (by simp)); replace HK := Aside0.mk (KeepBut.trans (hk_ HK.out) hk (.inl rfl)); replace HB := Aside0.mk (hb); replace HI0 := Aside0.mk (hi); (try clear hb); (try clear hb2); (try clear hk); (try clear hi); (try clear ho0)) | ((with_reducible refine gate_dst (N := 3) rfl ?_); refine box_event ?hg (N := 3) ?hd (cs := #[.int .i64 0, .int .i64 0, .slice none 0 0]) (t := 57) ?hr ?_; (case hd => rfl); (case hg => rfl); (case hr => first | (go_simp; done) | (go_simp; rfl)); intro gb2157 hg w25 hbox hb; have BK2157 := Aside0.mk (hbox); have GW2157 := Aside0.mk ((by rw [hg]; exact (keep_size (w := w) (g := g) (row := none) (hk_ HK.out)) : w.heap.size ≤ gb2157)); have GE2157 := Aside0.mk ((Nat.le_trans HW0.out (by rw [hg]; exact (keep_size (w := w) (g := g) (row := none) (hk_ HK.out)) : w.heap.size ≤ gb2157) : w0.heap.size ≤ gb2157)); have NB2149_2157 := cn_ BK2149 hg; have NB2157_2149 := cm_ BK2149 hg; have NB0_2157 := Aside0.mk ((by rw [hg]; exact Nat.ne_of_lt (IsS_l1Cur.lt (show IsS_l1Cur w0 _ g s0_0 t2155 t2156 from is_l1Cur_ HI0.out)) : g ≠ gb2157)); have NB2157_0 := Aside0.mk ((by rw [hg]; exact Nat.ne_of_gt (IsS_l1Cur.lt (show IsS_l1Cur w0 _ g s0_0 t2155 t2156 from is_l1Cur_ HI0.out)) : gb2157 ≠ g)); replace HO2154 := cr_ HO2154 hb; replace HI0 := Aside0.mk (IsS_l1Cur.below (is_l1Cur_ HI0.out) hb); replace BK2149 := cb_ BK2149 hb; replace HK := Aside0.mk (KeepBut.trans (hk_ HK.out) (KeepBut.of_below hb g none) (.inl rfl)); replace HB := Aside0.mk (below_step (hi_ HB.out) hb); clear hb hbox hg; have hnb26 := NB2157_2149.out; have hnc26 := NB2149_2157.out; have hnb27 := NB2157_0.out; have hnc27 := NB0_2157.out; have hcz28_0 : w25.cell? ⟨gb2157, 0, none⟩ = some (.int .i64 0) := bc_ BK2157 0; have hcz28_1 : w25.cell? ⟨gb2157, 1, none⟩ = some (.int .i64 0) := bc_ BK2157 1; have hcz28_2 : w25.cell? ⟨gb2157, 2, none⟩ = some (.slice none 0 0) := bc_ BK2157 2; have hfz28_0 := blk_frozen BK2157.out 0; have hfz28_1 := blk_frozen BK2157.out 1; have hfz28_2 := blk_frozen BK2157.out 2; obtain ⟨Ao29, co29, eo29⟩ := Kd.R_slice HO2154.out; subst eo29) | ((with_reducible refine gate_callee (f := 78) rfl ?_); refine goesL_ (some 7) rfl rfl Try.func78 (by kernel_rfl) rfl #[.pointer (some ⟨g, 0, none⟩), .int .i64 14] rfl sm_ ?_; (with_reducible refine (spec_l1Below.calls g s0_0 t2155 t2156 14 t2158 t2159 t2160 w0 _ ?side1 ?side2 A3.out).mono ?_); (case side1 => repeat (first | (with_reducible first | exact HI0.out | apply IsS_l1Cur.alloc | apply IsS_l1Cur.drewN | apply IsS_l1Cur.drew | apply IsS_l1Cur.set_1 | apply IsS_l1Cur.set_2 | refine IsS_l1Cur.far ?_ NB0_2149.out _ | refine IsS_l1Cur.far ?_ NB0_2157.out _) | exact HI0.out)); (case side2 => repeat (first | (with_reducible first | exact HB.out | apply below_alloc | apply pw_below_drewN | apply below_drew1 | refine below_set ?_ (IsS_l1Cur.ge HI0.out) | refine below_set ?_ GE2149.out | refine below_set ?_ GE2157.out) | exact HB.out)); rintro e w30 ⟨rfl, hi, hb, hk⟩; refine ⟨_, rfl, ?_⟩; replace BK2149 := Aside0.mk (KeepBut.blk hk (g' := gb2149) (o := .cells #[.int .i64 0, .int .i64 0, .slice none 0 0] 57 (0, 0)) (bf_ NB2149_2157.out BK2149.out) NB2149_0.out (by simp)); replace HO2154 := Aside0.mk (Kd.R_mono (Kd.R_keep (IsS_l1Cur.apart (show IsS_l1Cur w0 _ g s0_0 t2155 t2156 from is_l1Cur_ HI0.out) (rk_ HO2154.out BK2157.out) (by decide)) hk (fun _ h => h.2)) (fun _ h => h.1)); replace BK2157 := Aside0.mk (KeepBut.blk hk (g' := gb2157) (o := .cells #[.int .i64 t2150, .int .i64 t2151, .slice Ao29 t2152.length co29] 57 (0, 0)) (bp_ BK2157.out) NB2157_0.out (by simp)); replace HK := Aside0.mk (KeepBut.trans (hk_ HK.out) hk (.inl rfl)); replace HB := Aside0.mk (hb); replace HI0 := Aside0.mk (hi); (try clear hb); (try clear hb2); (try clear hk); (try clear hi)) | ((with_reducible refine gate_dst (N := 17) rfl ?_); refine Kd.R_lit (Kd.int .i64) _ 3 ?hg (N := 17) ?hd (xs := ([0, 3, 100000, 100001] : List Int)) (inner := [.int .i64 0, .int .i64 3, .int .i64 100000, .int .i64 100001]) (ok := fun _ => True) (okp := fun _ => True) ?hr ?hp (fun _ hk => hk) trivial (Below.refl _ _) (Nat.le_refl _) (by simp) ?_; (case hd => rfl); (case hg => rfl); (case hr => first | (go_simp; done) | (go_simp; rfl)); (case hp => exact (Reps.one (show Kd.M (Kd.int .i64) _ _ _ 0 [.int .i64 0] from rfl) (Reps.one (show Kd.M (Kd.int .i64) _ _ _ 3 [.int .i64 3] from rfl) (Reps.one (show Kd.M (Kd.int .i64) _ _ _ 100000 [.int .i64 100000] from rfl) (Reps.one (show Kd.M (Kd.int .i64) _ _ _ 100001 [.int .i64 100001] from rfl) (Reps.none _ _)))))); intro v2168 w31 ho32 hb hg_ hnew_; clear hg_ hnew_; (first | rw [← Ny2167.out] at ho32 | (simp only [Int.reduceToNat] at ho32; rw [← Ny2167.out] at ho32)); have HO2169 := Aside0.mk (Kd.R_lower ho32 (keep_size (w := w) (g := g) (row := none) (hk_ HK.out))); replace HO2154 := cr_ HO2154 hb; replace HI0 := Aside0.mk (IsS_l1Cur.below (is_l1Cur_ HI0.out) hb); replace BK2149 := cb_ BK2149 hb; replace BK2157 := cb_ BK2157 hb; replace HK := Aside0.mk (KeepBut.trans (hk_ HK.out) (KeepBut.of_below hb g none) (.inl rfl)); replace HB := Aside0.mk (below_step (hi_ HB.out) hb); clear hb ho32; obtain ⟨Ao33, co33, eo33⟩ := Kd.R_slice HO2169.out; subst eo33) | ((with_reducible refine gate_callee (f := 104) rfl ?_); refine goesL_ (some 18) rfl rfl Try.func104 (by kernel_rfl) rfl #[.pointer (some ⟨g, 0, none⟩), .slice Ao33 y2167.length co33] rfl sm_ ?_; (with_reducible refine (spec_l1PickInt.calls g s0_0 t2159 t2160 _ _ y2167 t2170 t2171 t2172 w0 _ ?side1 ?side2 ?side3 ?side4 ?side5 A22.out).mono ?_); (case side1 => repeat (first | (with_reducible first | exact HI0.out | apply IsS_l1Cur.alloc | apply IsS_l1Cur.drewN | apply IsS_l1Cur.drew | apply IsS_l1Cur.set_1 | apply IsS_l1Cur.set_2 | refine IsS_l1Cur.far ?_ NB0_2149.out _ | refine IsS_l1Cur.far ?_ NB0_2157.out _) | exact HI0.out)); (case side2 => repeat (first | (with_reducible first | exact HB.out | apply below_alloc | apply pw_below_drewN | apply below_drew1 | refine below_set ?_ (IsS_l1Cur.ge HI0.out) | refine below_set ?_ GE2149.out | refine below_set ?_ GE2157.out) | exact HB.out)); (case side3 => repeat (first | exact (Kd.R_reads' HO2169.out).2.2 | (with_reducible refine Kd.C_alloc ?_ _) | (with_reducible refine Kd.C_drewN ?_ _) | (with_reducible refine Kd.C_drew ?_))); (case side4 => exact (Kd.R_reads' HO2169.out).2.1); (case side5 => exact far_slice (IsS_l1Cur.own_ne HI0.out HO2169.out (by decide))); rintro e w34 ⟨rfl, hi, hb, hk⟩; refine ⟨_, rfl, ?_⟩; replace BK2149 := Aside0.mk (KeepBut.blk hk (g' := gb2149) (o := .cells #[.int .i64 0, .int .i64 0, .slice none 0 0] 57 (0, 0)) (bq_ BK2149.out) NB2149_0.out (by simp)); replace HO2154 := Aside0.mk (Kd.R_mono (Kd.R_keep (IsS_l1Cur.apart (show IsS_l1Cur w0 _ g s0_0 t2159 t2160 from is_l1Cur_ HI0.out) (rq_ HO2154.out) (by decide)) hk (fun _ h => h.2)) (fun _ h => h.1)); replace BK2157 := Aside0.mk (KeepBut.blk hk (g' := gb2157) (o := .cells #[.int .i64 t2150, .int .i64 t2151, .slice Ao29 t2152.length co29] 57 (0, 0)) (bq_ BK2157.out) NB2157_0.out (by simp)); replace HO2169 := Aside0.mk (Kd.R_mono (Kd.R_keep (IsS_l1Cur.apart (show IsS_l1Cur w0 _ g s0_0 t2159 t2160 from is_l1Cur_ HI0.out) (rq_ HO2169.out) (by decide)) hk (fun _ h => h.2)) (fun _ h => h.1)); replace HK := Aside0.mk (KeepBut.trans (hk_ HK.out) hk (.inl rfl)); replace HB := Aside0.mk (hb); replace HI0 := Aside0.mk (hi); (try clear hb); (try clear hb2); (try clear hk); (try clear hi); have hcz35_0 : w34.cell? ⟨gb2157, 0, none⟩ = some (.int .i64 t2150) := bc_ BK2157 0; have hcz35_1 : w34.cell? ⟨gb2157, 1, none⟩ = some (.int .i64 t2151) := bc_ BK2157 1; have hcz35_2 : w34.cell? ⟨gb2157, 2, none⟩ = some (.slice Ao29 t2152.length co29) := bc_ BK2157 2; have hfz35_0 := blk_frozen BK2157.out 0; have hfz35_1 := blk_frozen BK2157.out 1; have hfz35_2 := blk_frozen BK2157.out 2; have hnb36 := NB2149_0.out; have hnc36 := NB0_2149.out; have hcz37_0 : w34.cell? ⟨gb2149, 0, none⟩ = some (.int .i64 0) := bc_ BK2149 0; have hcz37_1 : w34.cell? ⟨gb2149, 1, none⟩ = some (.int .i64 0) := bc_ BK2149 1; have hcz37_2 : w34.cell? ⟨gb2149, 2, none⟩ = some (.slice none 0 0) := bc_ BK2149 2; have hfz37_0 := blk_frozen BK2149.out 0; have hfz37_1 := blk_frozen BK2149.out 1; have hfz37_2 := blk_frozen BK2149.out 2))
   refine bodyPost_ret (results_cell_row rfl _ _ gb2149 57 #[.int .i64 t2150, .int .i64 t2170, .slice Ao29 t2152.length co29] (0, 0) _ rfl (by_ BK2149.out) Try.underlying57 rfl (by kernel_rfl)) rfl ?_
   exact ⟨_, er_, by (with_reducible repeat (first | apply Kd.R_alloc | apply Kd.R_drewN | apply Kd.R_drew)); exact Kd.R_mono (Kd.R_far (p := ⟨gb2149, 2, none⟩) (Kd.R_far (p := ⟨gb2149, 1, none⟩) (Kd.R_far (p := ⟨gb2149, 0, none⟩) (Kd.R_far (p := ⟨gb2157, 1, none⟩) (Kd.R_types (Kd.R_types HO2154.out BK2157.out (by decide)) BK2149.out (by decide)) (fun _ hk => hk.1.2) (.int .i64 t2170)) (fun _ hk => hk.2) (.int .i64 t2150)) (fun _ hk => hk.2) (.int .i64 t2170)) (fun _ hk => hk.2) (.slice Ao29 t2152.length co29)) (fun _ hk => trivial), is_l1Cur_ HI0.out, qe0_, qe1_⟩
  ·
   rw [if_neg c21] at H
   have c21b0 : (t2158 == 1) = false := beq_eq_false_iff_ne.mpr c21
   have c21b1 : (t2158 != 1) = true := bne_iff_ne.mpr c21
   by_cases c38 : t2158 = 2
   ·
    rw [if_pos c38] at H
    have c38b0 : (t2158 == 2) = true := beq_iff_eq.mpr c38
    have c38b1 : (t2158 != 2) = false := bne_eq_false_iff_eq.mpr c38
    clear c38
    replace H := Option.bind_eq_some_iff.mp H
    obtain ⟨⟨t2173, t2174, t2175⟩, A390, H⟩ := H
    replace H : ((spec_l1Pick.f s0_0 t2174 t2175 (([(⟨#[97]⟩ : ByteArray), (⟨#[65]⟩ : ByteArray)] : List ByteArray))).bind fun bt2179 => (if t2152.length < 2513169434916 then (some (t2150, t2151, (t2152 ++ [(⟨t2173, bt2179.1, (⟨#[]⟩ : ByteArray), 0, 0⟩ : S_Item)]), bt2179.2.1, bt2179.2.2)) else (none))) = some (r1, r2, r3, r4, r5) := H
    have A39 := Aside0.mk A390
    clear A390
    obtain ⟨y2176, hy2176⟩ : ∃ y_ : List ByteArray, y_ = (([(⟨#[97]⟩ : ByteArray), (⟨#[65]⟩ : ByteArray)] : List ByteArray)) := ⟨_, rfl⟩
    replace H : ((spec_l1Pick.f s0_0 t2174 t2175 y2176).bind fun bt2179 => (if t2152.length < 2513169434916 then (some (t2150, t2151, (t2152 ++ [(⟨t2173, bt2179.1, (⟨#[]⟩ : ByteArray), 0, 0⟩ : S_Item)]), bt2179.2.1, bt2179.2.2)) else (none))) = some (r1, r2, r3, r4, r5) := by first | (rw [hy2176]; with_reducible exact H) | (have H2_ := (Option.bind_some _ _).symm.trans H; rw [hy2176]; with_reducible exact H2_) | (have H2_ := (Option.bind_some _ _).symm.trans H; with_reducible exact H2_) | with_reducible exact H | (rw [hy2176]; exact H) | exact H
    have Ny2176 := Aside0.mk hy2176
    clear hy2176
    replace H := Option.bind_eq_some_iff.mp H
    obtain ⟨⟨t2179, t2180, t2181⟩, A400, H⟩ := H
    replace H : (if t2152.length < 2513169434916 then (some (t2150, t2151, (t2152 ++ [(⟨t2173, t2179, (⟨#[]⟩ : ByteArray), 0, 0⟩ : S_Item)]), t2180, t2181)) else (none)) = some (r1, r2, r3, r4, r5) := H
    have A40 := Aside0.mk A400
    clear A400
    by_cases c41 : t2152.length < 2513169434916
    ·
     rw [if_pos c41] at H
     have LMc41 := Aside0.mk c41
     clear c41
     obtain ⟨y2182, hy2182⟩ : ∃ y_ : List (S_Item), y_ = (t2152 ++ [(⟨t2173, t2179, (⟨#[]⟩ : ByteArray), 0, 0⟩ : S_Item)]) := ⟨_, rfl⟩
     replace H : (some (t2150, t2151, y2182, t2180, t2181)) = some (r1, r2, r3, r4, r5) := by first | (rw [hy2182]; with_reducible exact H) | (have H2_ := (Option.bind_some _ _).symm.trans H; rw [hy2182]; with_reducible exact H2_) | (have H2_ := (Option.bind_some _ _).symm.trans H; with_reducible exact H2_) | with_reducible exact H | (rw [hy2182]; exact H) | exact H
     have Ny2182 := Aside0.mk hy2182
     clear hy2182
     simp only [Option.some.injEq, Prod.mk.injEq] at H
     obtain ⟨rfl, rfl, rfl, rfl, rfl⟩ := H
     go_enter Try.func101, Try.ntmps101
     try go_wp2_with (first | ((with_reducible refine gate_dst (N := 2) rfl ?_); refine box_event ?hg (N := 2) ?hd (cs := #[.int .i64 0, .int .i64 0, .slice none 0 0]) (t := 57) ?hr ?_; (case hd => rfl); (case hg => rfl); (case hr => first | (go_simp; done) | (go_simp; rfl)); intro gb2149 hg w42 hbox hb; have BK2149 := Aside0.mk (hbox); have GW2149 := Aside0.mk ((by rw [hg]; exact (keep_size (w := w) (g := g) (row := none) (hk_ HK.out)) : w.heap.size ≤ gb2149)); have GE2149 := Aside0.mk ((Nat.le_trans HW0.out (by rw [hg]; exact (keep_size (w := w) (g := g) (row := none) (hk_ HK.out)) : w.heap.size ≤ gb2149) : w0.heap.size ≤ gb2149)); have NB0_2149 := Aside0.mk ((by rw [hg]; exact Nat.ne_of_lt (IsS_l1Cur.lt (show IsS_l1Cur w0 _ g s0_0 s0_1 s0_2 from is_l1Cur_ HI0.out)) : g ≠ gb2149)); have NB2149_0 := Aside0.mk ((by rw [hg]; exact Nat.ne_of_gt (IsS_l1Cur.lt (show IsS_l1Cur w0 _ g s0_0 s0_1 s0_2 from is_l1Cur_ HI0.out)) : gb2149 ≠ g)); replace HI0 := Aside0.mk (IsS_l1Cur.below (is_l1Cur_ HI0.out) hb); replace HK := Aside0.mk (KeepBut.trans (hk_ HK.out) (KeepBut.of_below hb g none) (.inl rfl)); replace HB := Aside0.mk (below_step (hi_ HB.out) hb); clear hb hbox hg) | ((with_reducible refine gate_callee (f := 154) rfl ?_); refine goesL_ (some 5) rfl rfl Try.func154 (by kernel_rfl) rfl #[.pointer (some ⟨g, 0, none⟩)] rfl sm_ ?_; (with_reducible refine (spec_l3DrawRight.calls k g s0_0 s0_1 s0_2 t2150 t2151 t2152 t2155 t2156 w0 _ ?side1 ?side2 A2.out).mono ?_); (case side1 => repeat (first | (with_reducible first | exact HI0.out | apply IsS_l1Cur.alloc | apply IsS_l1Cur.drewN | apply IsS_l1Cur.drew | apply IsS_l1Cur.set_1 | apply IsS_l1Cur.set_2 | refine IsS_l1Cur.far ?_ NB0_2149.out _) | exact HI0.out)); (case side2 => repeat (first | (with_reducible first | exact HB.out | apply below_alloc | apply pw_below_drewN | apply below_drew1 | refine below_set ?_ (IsS_l1Cur.ge HI0.out) | refine below_set ?_ GE2149.out) | exact HB.out)); rintro e w43 ⟨v2153, rfl, ho0, hi, hb, hk⟩; refine ⟨_, rfl, ?_⟩; have HO2154 := Aside0.mk (Kd.R_lower ho0 (keep_size (w := w) (g := g) (row := none) (hk_ HK.out))); replace BK2149 := Aside0.mk (KeepBut.blk hk (g' := gb2149) (o := .cells #[.int .i64 0, .int .i64 0, .slice none 0 0] 57 (0, 0)) (bq_ BK2149.out) NB2149_0.out (by simp)); replace HK := Aside0.mk (KeepBut.trans (hk_ HK.out) hk (.inl rfl)); replace HB := Aside0.mk (hb); replace HI0 := Aside0.mk (hi); (try clear hb); (try clear hb2); (try clear hk); (try clear hi); (try clear ho0)) | ((with_reducible refine gate_dst (N := 3) rfl ?_); refine box_event ?hg (N := 3) ?hd (cs := #[.int .i64 0, .int .i64 0, .slice none 0 0]) (t := 57) ?hr ?_; (case hd => rfl); (case hg => rfl); (case hr => first | (go_simp; done) | (go_simp; rfl)); intro gb2157 hg w44 hbox hb; have BK2157 := Aside0.mk (hbox); have GW2157 := Aside0.mk ((by rw [hg]; exact (keep_size (w := w) (g := g) (row := none) (hk_ HK.out)) : w.heap.size ≤ gb2157)); have GE2157 := Aside0.mk ((Nat.le_trans HW0.out (by rw [hg]; exact (keep_size (w := w) (g := g) (row := none) (hk_ HK.out)) : w.heap.size ≤ gb2157) : w0.heap.size ≤ gb2157)); have NB2149_2157 := cn_ BK2149 hg; have NB2157_2149 := cm_ BK2149 hg; have NB0_2157 := Aside0.mk ((by rw [hg]; exact Nat.ne_of_lt (IsS_l1Cur.lt (show IsS_l1Cur w0 _ g s0_0 t2155 t2156 from is_l1Cur_ HI0.out)) : g ≠ gb2157)); have NB2157_0 := Aside0.mk ((by rw [hg]; exact Nat.ne_of_gt (IsS_l1Cur.lt (show IsS_l1Cur w0 _ g s0_0 t2155 t2156 from is_l1Cur_ HI0.out)) : gb2157 ≠ g)); replace HO2154 := cr_ HO2154 hb; replace HI0 := Aside0.mk (IsS_l1Cur.below (is_l1Cur_ HI0.out) hb); replace BK2149 := cb_ BK2149 hb; replace HK := Aside0.mk (KeepBut.trans (hk_ HK.out) (KeepBut.of_below hb g none) (.inl rfl)); replace HB := Aside0.mk (below_step (hi_ HB.out) hb); clear hb hbox hg; have hnb45 := NB2157_2149.out; have hnc45 := NB2149_2157.out; have hnb46 := NB2157_0.out; have hnc46 := NB0_2157.out; have hcz47_0 : w44.cell? ⟨gb2157, 0, none⟩ = some (.int .i64 0) := bc_ BK2157 0; have hcz47_1 : w44.cell? ⟨gb2157, 1, none⟩ = some (.int .i64 0) := bc_ BK2157 1; have hcz47_2 : w44.cell? ⟨gb2157, 2, none⟩ = some (.slice none 0 0) := bc_ BK2157 2; have hfz47_0 := blk_frozen BK2157.out 0; have hfz47_1 := blk_frozen BK2157.out 1; have hfz47_2 := blk_frozen BK2157.out 2; obtain ⟨Ao48, co48, eo48⟩ := Kd.R_slice HO2154.out; subst eo48) | ((with_reducible refine gate_callee (f := 78) rfl ?_); refine goesL_ (some 7) rfl rfl Try.func78 (by kernel_rfl) rfl #[.pointer (some ⟨g, 0, none⟩), .int .i64 14] rfl sm_ ?_; (with_reducible refine (spec_l1Below.calls g s0_0 t2155 t2156 14 t2158 t2159 t2160 w0 _ ?side1 ?side2 A3.out).mono ?_); (case side1 => repeat (first | (with_reducible first | exact HI0.out | apply IsS_l1Cur.alloc | apply IsS_l1Cur.drewN | apply IsS_l1Cur.drew | apply IsS_l1Cur.set_1 | apply IsS_l1Cur.set_2 | refine IsS_l1Cur.far ?_ NB0_2149.out _ | refine IsS_l1Cur.far ?_ NB0_2157.out _) | exact HI0.out)); (case side2 => repeat (first | (with_reducible first | exact HB.out | apply below_alloc | apply pw_below_drewN | apply below_drew1 | refine below_set ?_ (IsS_l1Cur.ge HI0.out) | refine below_set ?_ GE2149.out | refine below_set ?_ GE2157.out) | exact HB.out)); rintro e w49 ⟨rfl, hi, hb, hk⟩; refine ⟨_, rfl, ?_⟩; replace BK2149 := Aside0.mk (KeepBut.blk hk (g' := gb2149) (o := .cells #[.int .i64 0, .int .i64 0, .slice none 0 0] 57 (0, 0)) (bf_ NB2149_2157.out BK2149.out) NB2149_0.out (by simp)); replace HO2154 := Aside0.mk (Kd.R_mono (Kd.R_keep (IsS_l1Cur.apart (show IsS_l1Cur w0 _ g s0_0 t2155 t2156 from is_l1Cur_ HI0.out) (rk_ HO2154.out BK2157.out) (by decide)) hk (fun _ h => h.2)) (fun _ h => h.1)); replace BK2157 := Aside0.mk (KeepBut.blk hk (g' := gb2157) (o := .cells #[.int .i64 t2150, .int .i64 t2151, .slice Ao48 t2152.length co48] 57 (0, 0)) (bp_ BK2157.out) NB2157_0.out (by simp)); replace HK := Aside0.mk (KeepBut.trans (hk_ HK.out) hk (.inl rfl)); replace HB := Aside0.mk (hb); replace HI0 := Aside0.mk (hi); (try clear hb); (try clear hb2); (try clear hk); (try clear hi)))
     replace HO2154 := Aside0.mk (Kd.R_drew HO2154.out)
     replace BK2149 := Aside0.mk (blk_drew BK2149.out)
     replace BK2157 := Aside0.mk (blk_drew BK2157.out)
     replace HI0 := Aside0.mk (IsS_l1Cur.drew HI0.out)
     replace HK := Aside0.mk (keep_drew HK.out)
     replace HB := Aside0.mk (below_drew1 HB.out)
     refine start_ (n := 12) (S := fun w' => w'.cell? ⟨gb2157, 0, none⟩ = some (.int .i64 t2150) ∧ w'.cell? ⟨gb2157, 1, none⟩ = some (.int .i64 t2151) ∧ w'.cell? ⟨gb2157, 2, none⟩ = some (.slice Ao48 t2152.length co48)) (ds := [11]) #[false, false, false, false, false, false, false, false, false, false, false, false] (by kernel_rfl) rfl rfl ⟨bc_ BK2157 0, bc_ BK2157 1, bc_ BK2157 2⟩ (fun hHeld => ?_); refine with_tabW spec_l3Draw.tab8 spec_l3Draw.bits8 (fun HT_ HW_ => ?_)
     generalize w49.drew = w50 at HO2154 BK2149 BK2157 HI0 HK HB hHeld ⊢
     refine pI_ 0 22 HT_ #[true, false, false, false, false, false, false, false, false, false, false, false] rfl rfl ?_
     refine pI_ 2 24 HT_ #[true, false, true, false, false, false, false, false, false, false, false, false] rfl rfl ?_
     refine pI_ 4 26 HT_ #[true, false, true, false, true, false, false, false, false, false, false, false] rfl rfl ?_
     refine tk_ 1 23 HT_ HW_ #[true, true, true, false, true, false, false, false, false, false, false, false] rfl rfl hHeld ?_
     refine join_ (σ := Value) 6 spec_l3Draw.m0 (fun s_ => [(25, .int .i64 t2173), (27, s_)]) (fun s_ w' => (w'.cell? ⟨gb2157, 0, none⟩ = some (.int .i64 t2150) ∧ w'.cell? ⟨gb2157, 1, none⟩ = some (.int .i64 t2151) ∧ w'.cell? ⟨gb2157, 2, none⟩ = some (.slice Ao48 t2152.length co48)) ∧ (Kd.R k_Item 69 w' w.heap.size (fun _ => True) (.slice Ao48 t2152.length co48) t2152) ∧ (Kd.R Kd.string 9 w' w.heap.size (fun _ => True) s_ y2176) ∧ (w'.heap[gb2149]? = some (.cells #[.int .i64 0, .int .i64 0, .slice none 0 0] 57 (0, 0))) ∧ (w'.heap[gb2157]? = some (.cells #[.int .i64 t2150, .int .i64 t2151, .slice Ao48 t2152.length co48] 57 (0, 0))) ∧ (IsS_l1Cur w0 w' g s0_0 t2174 t2175) ∧ (KeepBut w w' g none) ∧ (Below w0.heap.size w0 w')) ?_ ?_
     rotate_left
     ·
      intro hCont
      refine two_ (i := 3) (j := 5) (Ni := some 25) (Nj := some 27) #[true, true, true, true, true, false, false, false, false, false, false, false] #[true, true, true, false, true, true, false, false, false, false, false, false] rfl rfl rfl rfl (two_of HT_.out (by kernel_rfl)) (by decide) (by decide) (fun K hK => ?_) (fun K hK => ?_)
      ·
       skip
       refine goes_ Try.func78 (by kernel_rfl) rfl #[.pointer (some ⟨g, 0, none⟩), .int .i64 20] (by rfl) rfl rfl sm_ ?_
       with_reducible refine (spec_l1Below.calls g s0_0 t2159 t2160 20 t2173 t2174 t2175 w0 _ ?side1 ?side2 A39.out).mono ?_
       (case side1 => repeat (first | (with_reducible first | exact HI0.out | apply IsS_l1Cur.alloc | apply IsS_l1Cur.drewN | apply IsS_l1Cur.drew | apply IsS_l1Cur.set_1 | apply IsS_l1Cur.set_2 | refine IsS_l1Cur.far ?_ NB0_2149.out _ | refine IsS_l1Cur.far ?_ NB0_2157.out _) | exact HI0.out))
       (case side2 => repeat (first | (with_reducible first | exact HB.out | apply below_alloc | apply pw_below_drewN | apply below_drew1 | refine below_set ?_ (IsS_l1Cur.ge HI0.out) | refine below_set ?_ GE2149.out | refine below_set ?_ GE2157.out) | exact HB.out))
       rintro e w51 ⟨rfl, hi, hb, hk⟩
       refine ⟨_, rfl, ?_⟩
       replace BK2149 := Aside0.mk (KeepBut.blk hk (g' := gb2149) (o := .cells #[.int .i64 0, .int .i64 0, .slice none 0 0] 57 (0, 0)) (bq_ BK2149.out) NB2149_0.out (by simp))
       replace HO2154 := Aside0.mk (Kd.R_mono (Kd.R_keep (IsS_l1Cur.apart (show IsS_l1Cur w0 _ g s0_0 t2159 t2160 from is_l1Cur_ HI0.out) (rq_ HO2154.out) (by decide)) hk (fun _ h => h.2)) (fun _ h => h.1))
       replace BK2157 := Aside0.mk (KeepBut.blk hk (g' := gb2157) (o := .cells #[.int .i64 t2150, .int .i64 t2151, .slice Ao48 t2152.length co48] 57 (0, 0)) (bq_ BK2157.out) NB2157_0.out (by simp))
       replace HK := Aside0.mk (KeepBut.trans (hk_ HK.out) hk (.inl rfl))
       replace HB := Aside0.mk (hb)
       replace HI0 := Aside0.mk (hi)
       (try clear hb); (try clear hb2); (try clear hk); (try clear hi)
       refine hK.out _ _ ⟨bc_ BK2157 0, bc_ BK2157 1, bc_ BK2157 2⟩ (fun hHeld => ?_)
       clear hK K
       refine nm_ ?_
       refine on_ 5 27 HT_ spec_l3Draw.m0 rfl rfl (fun K hK => ?_)
       refine Kd.R_lit_step Kd.string _ 9 ?hg (N := 27) ?hd (xs := ([(⟨#[97]⟩ : ByteArray), (⟨#[65]⟩ : ByteArray)] : List ByteArray)) (inner := [.string (⟨#[97]⟩ : ByteArray), .string (⟨#[65]⟩ : ByteArray)]) (ok := fun _ => True) (okp := fun _ => True) ?hr ?hp (fun _ hk => hk) trivial (Below.refl _ _) (Nat.le_refl _) (by simp) ?_; (case hd => rfl); (case hg => rfl); (case hr => first | (go_simp; done) | (go_simp; rfl)); (case hp => exact (Reps.one (show Kd.M Kd.string _ _ _ (⟨#[97]⟩ : ByteArray) [.string (⟨#[97]⟩ : ByteArray)] from rfl) (Reps.one (show Kd.M Kd.string _ _ _ (⟨#[65]⟩ : ByteArray) [.string (⟨#[65]⟩ : ByteArray)] from rfl) (Reps.none _ _))))
       intro v2177 w52 ho53 hb hg_ hnew_
       clear hg_ hnew_
       (first | rw [← Ny2176.out] at ho53 | (simp only [Int.reduceToNat] at ho53; rw [← Ny2176.out] at ho53))
       have HO2178 := Aside0.mk (Kd.R_lower ho53 (keep_size (w := w) (g := g) (row := none) (hk_ HK.out)))
       replace HO2154 := cr_ HO2154 hb
       replace HI0 := Aside0.mk (IsS_l1Cur.below (is_l1Cur_ HI0.out) hb)
       replace BK2149 := cb_ BK2149 hb
       replace BK2157 := cb_ BK2157 hb
       replace HK := Aside0.mk (KeepBut.trans (hk_ HK.out) (KeepBut.of_below hb g none) (.inl rfl))
       replace HB := Aside0.mk (below_step (hi_ HB.out) hb)
       clear hb ho53
       refine hK.out _ _ ⟨bc_ BK2157 0, bc_ BK2157 1, bc_ BK2157 2⟩ (fun hHeld => ?_)
       clear hK K
       refine nm_ ?_
       exact norm_ (by simp only [putAll, Act.put, List.setIfInBounds_toArray, List.set_cons_zero, List.set_cons_succ]) (hCont (v2177) _ ⟨hHeld, (rq_ HO2154.out), (rq_ HO2178.out), (bq_ BK2149.out), (bq_ BK2157.out), (is_l1Cur_ HI0.out), (hk_ HK.out), (hi_ HB.out)⟩)
      ·
       skip
       refine Kd.R_lit_step Kd.string _ 9 ?hg (N := 27) ?hd (xs := ([(⟨#[97]⟩ : ByteArray), (⟨#[65]⟩ : ByteArray)] : List ByteArray)) (inner := [.string (⟨#[97]⟩ : ByteArray), .string (⟨#[65]⟩ : ByteArray)]) (ok := fun _ => True) (okp := fun _ => True) ?hr ?hp (fun _ hk => hk) trivial (Below.refl _ _) (Nat.le_refl _) (by simp) ?_; (case hd => rfl); (case hg => rfl); (case hr => first | (go_simp; done) | (go_simp; rfl)); (case hp => exact (Reps.one (show Kd.M Kd.string _ _ _ (⟨#[97]⟩ : ByteArray) [.string (⟨#[97]⟩ : ByteArray)] from rfl) (Reps.one (show Kd.M Kd.string _ _ _ (⟨#[65]⟩ : ByteArray) [.string (⟨#[65]⟩ : ByteArray)] from rfl) (Reps.none _ _))))
       intro v2177 w51 ho52 hb hg_ hnew_
       clear hg_ hnew_
       (first | rw [← Ny2176.out] at ho52 | (simp only [Int.reduceToNat] at ho52; rw [← Ny2176.out] at ho52))
       have HO2178 := Aside0.mk (Kd.R_lower ho52 (keep_size (w := w) (g := g) (row := none) (hk_ HK.out)))
       replace HO2154 := cr_ HO2154 hb
       replace HI0 := Aside0.mk (IsS_l1Cur.below (is_l1Cur_ HI0.out) hb)
       replace BK2149 := cb_ BK2149 hb
       replace BK2157 := cb_ BK2157 hb
       replace HK := Aside0.mk (KeepBut.trans (hk_ HK.out) (KeepBut.of_below hb g none) (.inl rfl))
       replace HB := Aside0.mk (below_step (hi_ HB.out) hb)
       clear hb ho52
       refine hK.out _ _ ⟨bc_ BK2157 0, bc_ BK2157 1, bc_ BK2157 2⟩ (fun hHeld => ?_)
       clear hK K
       refine nm_ ?_
       refine on_ 3 25 HT_ spec_l3Draw.m0 rfl rfl (fun K hK => ?_)
       refine goes_ Try.func78 (by kernel_rfl) rfl #[.pointer (some ⟨g, 0, none⟩), .int .i64 20] (by rfl) rfl rfl sm_ ?_
       with_reducible refine (spec_l1Below.calls g s0_0 t2159 t2160 20 t2173 t2174 t2175 w0 _ ?side1 ?side2 A39.out).mono ?_
       (case side1 => repeat (first | (with_reducible first | exact HI0.out | apply IsS_l1Cur.alloc | apply IsS_l1Cur.drewN | apply IsS_l1Cur.drew | apply IsS_l1Cur.set_1 | apply IsS_l1Cur.set_2 | refine IsS_l1Cur.far ?_ NB0_2149.out _ | refine IsS_l1Cur.far ?_ NB0_2157.out _) | exact HI0.out))
       (case side2 => repeat (first | (with_reducible first | exact HB.out | apply below_alloc | apply pw_below_drewN | apply below_drew1 | refine below_set ?_ (IsS_l1Cur.ge HI0.out) | refine below_set ?_ GE2149.out | refine below_set ?_ GE2157.out) | exact HB.out))
       rintro e w53 ⟨rfl, hi, hb, hk⟩
       refine ⟨_, rfl, ?_⟩
       replace BK2149 := Aside0.mk (KeepBut.blk hk (g' := gb2149) (o := .cells #[.int .i64 0, .int .i64 0, .slice none 0 0] 57 (0, 0)) (bq_ BK2149.out) NB2149_0.out (by simp))
       replace HO2154 := Aside0.mk (Kd.R_mono (Kd.R_keep (IsS_l1Cur.apart (show IsS_l1Cur w0 _ g s0_0 t2159 t2160 from is_l1Cur_ HI0.out) (rq_ HO2154.out) (by decide)) hk (fun _ h => h.2)) (fun _ h => h.1))
       replace BK2157 := Aside0.mk (KeepBut.blk hk (g' := gb2157) (o := .cells #[.int .i64 t2150, .int .i64 t2151, .slice Ao48 t2152.length co48] 57 (0, 0)) (bq_ BK2157.out) NB2157_0.out (by simp))
       replace HO2178 := Aside0.mk (Kd.R_mono (Kd.R_keep (IsS_l1Cur.apart (show IsS_l1Cur w0 _ g s0_0 t2159 t2160 from is_l1Cur_ HI0.out) (rq_ HO2178.out) (by decide)) hk (fun _ h => h.2)) (fun _ h => h.1))
       replace HK := Aside0.mk (KeepBut.trans (hk_ HK.out) hk (.inl rfl))
       replace HB := Aside0.mk (hb)
       replace HI0 := Aside0.mk (hi)
       (try clear hb); (try clear hb2); (try clear hk); (try clear hi)
       refine hK.out _ _ ⟨bc_ BK2157 0, bc_ BK2157 1, bc_ BK2157 2⟩ (fun hHeld => ?_)
       clear hK K
       refine nm_ ?_
       exact norm_ (by simp only [putAll, Act.put, List.setIfInBounds_toArray, List.set_cons_zero, List.set_cons_succ]) (hCont (v2177) _ ⟨hHeld, (rq_ HO2154.out), (rq_ HO2178.out), (bq_ BK2149.out), (bq_ BK2157.out), (is_l1Cur_ HI0.out), (hk_ HK.out), (hi_ HB.out)⟩)
     rintro v2177 w54 ⟨hS_, h0_, h1_, h2_, h3_, h4_, h5_, h6_⟩
     have n0_ : Aside0 (Kd.R k_Item 69 w54 w.heap.size (fun _ => True) (.slice Ao48 t2152.length co48) t2152) := ⟨h0_⟩
     have n1_ : Aside0 (Kd.R Kd.string 9 w54 w.heap.size (fun _ => True) v2177 y2176) := ⟨h1_⟩
     have n2_ : Aside0 (w54.heap[gb2149]? = some (.cells #[.int .i64 0, .int .i64 0, .slice none 0 0] 57 (0, 0))) := ⟨h2_⟩
     have n3_ : Aside0 (w54.heap[gb2157]? = some (.cells #[.int .i64 t2150, .int .i64 t2151, .slice Ao48 t2152.length co48] 57 (0, 0))) := ⟨h3_⟩
     have n4_ : Aside0 (IsS_l1Cur w0 w54 g s0_0 t2174 t2175) := ⟨h4_⟩
     have n5_ : Aside0 (KeepBut w w54 g none) := ⟨h5_⟩
     have n6_ : Aside0 (Below w0.heap.size w0 w54) := ⟨h6_⟩
     clear HO2154
     clear BK2149
     clear BK2157
     clear HI0
     clear HK
     clear HB
     clear h0_ h1_ h2_ h3_ h4_ h5_ h6_
     have HO2154 := n0_
     have HO2178 := n1_
     have BK2149 := n2_
     have BK2157 := n3_
     have HI0 := n4_
     have HK := n5_
     have HB := n6_
     clear n0_ n1_ n2_ n3_ n4_ n5_ n6_
     have hHeld : w54.cell? ⟨gb2157, 0, none⟩ = some (.int .i64 t2150) ∧ w54.cell? ⟨gb2157, 1, none⟩ = some (.int .i64 t2151) ∧ w54.cell? ⟨gb2157, 2, none⟩ = some (.slice Ao48 t2152.length co48) := hS_
     obtain ⟨Ao55, co55, eo55⟩ := Kd.R_slice HO2178.out
     (first | subst eo55 | (injection eo55 with f1_ f2_ f3_; have f4_ := f1_.symm; have f5_ := f3_.symm; clear f1_ f2_ f3_; subst f4_; subst f5_))
     refine norm_ (a' := ?_) ?_ ?_
     rotate_left; (focus simp only [putAll, Act.put, List.setIfInBounds_toArray, List.set_cons_zero, List.set_cons_succ]; rfl)
     refine on_ 6 28 HT_ #[true, true, true, true, true, true, true, false, false, false, false, false] rfl rfl (fun K hK => ?_)
     refine goes_ Try.func102 (by kernel_rfl) rfl #[.pointer (some ⟨g, 0, none⟩), .slice Ao55 y2176.length co55] (by rfl) rfl rfl sm_ ?_
     with_reducible refine (spec_l1Pick.calls g s0_0 t2174 t2175 _ _ y2176 t2179 t2180 t2181 w0 _ ?side1 ?side2 ?side3 ?side4 ?side5 A40.out).mono ?_
     (case side1 => repeat (first | (with_reducible first | exact HI0.out | apply IsS_l1Cur.alloc | apply IsS_l1Cur.drewN | apply IsS_l1Cur.drew | apply IsS_l1Cur.set_1 | apply IsS_l1Cur.set_2 | refine IsS_l1Cur.far ?_ NB0_2149.out _ | refine IsS_l1Cur.far ?_ NB0_2157.out _) | exact HI0.out))
     (case side2 => repeat (first | (with_reducible first | exact HB.out | apply below_alloc | apply pw_below_drewN | apply below_drew1 | refine below_set ?_ (IsS_l1Cur.ge HI0.out) | refine below_set ?_ GE2149.out | refine below_set ?_ GE2157.out) | exact HB.out))
     (case side3 => repeat (first | exact (Kd.R_reads' HO2178.out).2.2 | (with_reducible refine Kd.C_alloc ?_ _) | (with_reducible refine Kd.C_drewN ?_ _) | (with_reducible refine Kd.C_drew ?_)))
     (case side4 => exact (Kd.R_reads' HO2178.out).2.1)
     (case side5 => exact far_slice (IsS_l1Cur.own_ne HI0.out HO2178.out (by decide)))
     rintro e w56 ⟨rfl, hi, hb, hk⟩
     refine ⟨_, rfl, ?_⟩
     replace BK2149 := Aside0.mk (KeepBut.blk hk (g' := gb2149) (o := .cells #[.int .i64 0, .int .i64 0, .slice none 0 0] 57 (0, 0)) (bq_ BK2149.out) NB2149_0.out (by simp))
     replace HO2154 := Aside0.mk (Kd.R_mono (Kd.R_keep (IsS_l1Cur.apart (show IsS_l1Cur w0 _ g s0_0 t2174 t2175 from is_l1Cur_ HI0.out) (rq_ HO2154.out) (by decide)) hk (fun _ h => h.2)) (fun _ h => h.1))
     replace BK2157 := Aside0.mk (KeepBut.blk hk (g' := gb2157) (o := .cells #[.int .i64 t2150, .int .i64 t2151, .slice Ao48 t2152.length co48] 57 (0, 0)) (bq_ BK2157.out) NB2157_0.out (by simp))
     replace HO2178 := Aside0.mk (Kd.R_mono (Kd.R_keep (IsS_l1Cur.apart (show IsS_l1Cur w0 _ g s0_0 t2174 t2175 from is_l1Cur_ HI0.out) (rq_ HO2178.out) (by decide)) hk (fun _ h => h.2)) (fun _ h => h.1))
     replace HK := Aside0.mk (KeepBut.trans (hk_ HK.out) hk (.inl rfl))
     replace HB := Aside0.mk (hb)
     replace HI0 := Aside0.mk (hi)
     (try clear hb); (try clear hb2); (try clear hk); (try clear hi)
     refine hK.out _ _ ⟨bc_ BK2157 0, bc_ BK2157 1, bc_ BK2157 2⟩ (fun hHeld => ?_)
     clear hK K
     refine nm_ ?_
     refine pI_ 7 29 HT_ #[true, true, true, true, true, true, true, true, false, false, false, false] rfl rfl ?_
     refine on_ 8 30 HT_ #[true, true, true, true, true, true, true, true, true, false, false, false] rfl rfl (fun K hK => ?_)
     refine value_ (w1 := ?_) (v := ?_) (by rfl) rfl ?_ ?_
     rotate_left 2
     ·
      go_simp
      constructor
      ·
       rfl
      ·
       rfl
     refine hK.out _ _ ⟨(blk_cell (blk_alloc BK2157.out _) 0).trans rfl, (blk_cell (blk_alloc BK2157.out _) 1).trans rfl, (blk_cell (blk_alloc BK2157.out _) 2).trans rfl⟩ (fun hHeld => ?_)
     clear hK K
     refine nm_ ?_
     refine on_ 9 31 HT_ #[true, true, true, true, true, true, true, true, true, true, false, false] rfl rfl (fun K hK => ?_)
     refine Kd.R_append_step k_Item w.heap.size (by rfl) (.tmp 23) (.tmp 30) 55 69 (.agg #[(.int .i64 0), (.string ⟨#[]⟩), (.string ⟨#[]⟩), (.int .i64 0), (.int .i64 0)]) 56 rfl Try.underlying55 info69 rfl (by decide) (by omega) (.slice Ao48 t2152.length co48) t2152 (⟨t2173, t2179, (⟨#[]⟩ : ByteArray), 0, 0⟩ : S_Item) [.int .i64 t2173, .string t2179, .string (⟨#[]⟩ : ByteArray), .int .i64 0, .int .i64 0] (fun _ => True) (fun _ => False) rfl rfl ?aP (fun _ hk => hk.elim) ?aF ?aO (Below.refl _ _) ?aS ?aL ?_
     (case aP => exact k_Item_mkM _ _ _ (⟨t2173, t2179, (⟨#[]⟩ : ByteArray), 0, 0⟩ : S_Item))
     (case aF => exact (fun _ _ => trivial))
     (case aO => exact (rq_ HO2154.out))
     (case aS => exact (keep_size (w := w) (g := g) (row := none) (hk_ HK.out)))
     (case aL => have := LMc41.out; omega)
     intro v2183 w57 ho hb hg hat
     rw [← Ny2182.out] at ho
     have HO2184 := Aside0.mk (ho)
     replace HI0 := Aside0.mk (IsS_l1Cur.grown (is_l1Cur_ HI0.out) hg (IsS_l1Cur.own_ne HI0.out HO2154.out (by decide)))
     replace BK2149 := Aside0.mk (blk_grown (g := gb2149) (o := .cells #[.int .i64 0, .int .i64 0, .slice none 0 0] 57 (0, 0)) (bq_ BK2149.out) hg (Kd.R_ne HO2154.out BK2149.out (by decide)))
     replace BK2157 := Aside0.mk (blk_grown (g := gb2157) (o := .cells #[.int .i64 t2150, .int .i64 t2151, .slice Ao48 t2152.length co48] 57 (0, 0)) (bq_ BK2157.out) hg (Kd.R_ne HO2154.out BK2157.out (by decide)))
     replace HO2178 := Aside0.mk (Kd.R_over' (rq_ HO2178.out) (Kd.R_typed (rq_ HO2154.out)) (by decide) hg)
     replace HB := Aside0.mk (below_weaken (hi_ HB.out) HL.out hb)
     replace HK := Aside0.mk (KeepBut.trans (hk_ HK.out) (KeepBut.of_grown hg g) (Kd.R_base2 HO2154.out))
     clear HO2154
     clear ho hb hg hat
     obtain ⟨Ao58, co58, eo58⟩ := Kd.R_slice HO2184.out
     (first | subst eo58 | (injection eo58 with f1_ f2_ f3_; have f4_ := f1_.symm; have f5_ := f3_.symm; clear f1_ f2_ f3_; subst f4_; subst f5_))
     refine hK.out _ _ ⟨bc_ BK2157 0, bc_ BK2157 1, bc_ BK2157 2⟩ (fun hHeld => ?_)
     clear hK K
     refine nm_ ?_
     refine pI_ 10 32 HT_ #[true, true, true, true, true, true, true, true, true, true, true, false] rfl rfl ?_
     refine last_ (i := 11) (N := none) #[true, true, true, true, true, true, true, true, true, true, true, true] rfl rfl (one_of HT_.out (by kernel_rfl)) (by decide) (fun K hK => ?_)
     have hs59 : w57.cell? ⟨gb2157, 2, none⟩ = some (.slice Ao48 t2152.length co48) := bc_ BK2157 2
     have hfs59 := blk_frozen BK2157.out 2
     have hns59_0 := NB2149_2157.out
     have hms59_0 := NB2157_2149.out
     refine skip_ (w1 := ?_) (by rfl) rfl ?_ ?_
     rotate_left; (focus go_simp; rfl)
     refine hK.out _ _ ?_
     clear hK K
     refine done_ (done_of HT_.out (by kernel_rfl)) ?_
     have hcz60_0 : w57.cell? ⟨gb2157, 0, none⟩ = some (.int .i64 t2150) := bc_ BK2157 0
     have hcz60_1 : w57.cell? ⟨gb2157, 1, none⟩ = some (.int .i64 t2151) := bc_ BK2157 1
     have hcz60_2 : w57.cell? ⟨gb2157, 2, none⟩ = some (.slice Ao48 t2152.length co48) := bc_ BK2157 2
     have hfz60_0 := blk_frozen BK2157.out 0
     have hfz60_1 := blk_frozen BK2157.out 1
     have hfz60_2 := blk_frozen BK2157.out 2
     have hnb61 := NB2149_0.out
     have hnc61 := NB0_2149.out
     have hcz62_0 : w57.cell? ⟨gb2149, 0, none⟩ = some (.int .i64 0) := bc_ BK2149 0
     have hcz62_1 : w57.cell? ⟨gb2149, 1, none⟩ = some (.int .i64 0) := bc_ BK2149 1
     have hcz62_2 : w57.cell? ⟨gb2149, 2, none⟩ = some (.slice none 0 0) := bc_ BK2149 2
     have hfz62_0 := blk_frozen BK2149.out 0
     have hfz62_1 := blk_frozen BK2149.out 1
     have hfz62_2 := blk_frozen BK2149.out 2
     try go_wp2
     refine bodyPost_ret (results_cell_row rfl _ _ gb2149 57 #[.int .i64 t2150, .int .i64 t2151, .slice Ao58 y2182.length co58] (0, 0) _ rfl (by_ BK2149.out) Try.underlying57 rfl (by kernel_rfl)) rfl ?_
     exact ⟨_, er_, by (with_reducible repeat (first | apply Kd.R_alloc | apply Kd.R_drewN | apply Kd.R_drew)); exact Kd.R_mono (Kd.R_far (p := ⟨gb2149, 2, none⟩) (Kd.R_far (p := ⟨gb2149, 1, none⟩) (Kd.R_far (p := ⟨gb2149, 0, none⟩) (Kd.R_far (p := ⟨gb2157, 2, none⟩) (Kd.R_types (Kd.R_types HO2184.out BK2157.out (by decide)) BK2149.out (by decide)) (fun _ hk => hk.1.2) (.slice Ao58 y2182.length co58)) (fun _ hk => hk.2) (.int .i64 t2150)) (fun _ hk => hk.2) (.int .i64 t2151)) (fun _ hk => hk.2) (.slice Ao58 y2182.length co58)) (fun _ hk => trivial), is_l1Cur_ HI0.out, qe0_, qe1_⟩
    ·
     rw [if_neg c41] at H
     exact absurd H (by simp)
   ·
    rw [if_neg c38] at H
    have c38b0 : (t2158 == 2) = false := beq_eq_false_iff_ne.mpr c38
    have c38b1 : (t2158 != 2) = true := bne_iff_ne.mpr c38
    by_cases c63 : t2158 = 3
    ·
     rw [if_pos c63] at H
     have c63b0 : (t2158 == 3) = true := beq_iff_eq.mpr c63
     have c63b1 : (t2158 != 3) = false := bne_eq_false_iff_eq.mpr c63
     clear c63
     have H' := Aside0.mk H
     clear H
     go_enter Try.func101, Try.ntmps101
     go_wp2_with (first | ((with_reducible refine gate_dst (N := 2) rfl ?_); refine box_event ?hg (N := 2) ?hd (cs := #[.int .i64 0, .int .i64 0, .slice none 0 0]) (t := 57) ?hr ?_; (case hd => rfl); (case hg => rfl); (case hr => first | (go_simp; done) | (go_simp; rfl)); intro gb2149 hg w64 hbox hb; have BK2149 := Aside0.mk (hbox); have GW2149 := Aside0.mk ((by rw [hg]; exact (keep_size (w := w) (g := g) (row := none) (hk_ HK.out)) : w.heap.size ≤ gb2149)); have GE2149 := Aside0.mk ((Nat.le_trans HW0.out (by rw [hg]; exact (keep_size (w := w) (g := g) (row := none) (hk_ HK.out)) : w.heap.size ≤ gb2149) : w0.heap.size ≤ gb2149)); have NB0_2149 := Aside0.mk ((by rw [hg]; exact Nat.ne_of_lt (IsS_l1Cur.lt (show IsS_l1Cur w0 _ g s0_0 s0_1 s0_2 from is_l1Cur_ HI0.out)) : g ≠ gb2149)); have NB2149_0 := Aside0.mk ((by rw [hg]; exact Nat.ne_of_gt (IsS_l1Cur.lt (show IsS_l1Cur w0 _ g s0_0 s0_1 s0_2 from is_l1Cur_ HI0.out)) : gb2149 ≠ g)); replace HI0 := Aside0.mk (IsS_l1Cur.below (is_l1Cur_ HI0.out) hb); replace HK := Aside0.mk (KeepBut.trans (hk_ HK.out) (KeepBut.of_below hb g none) (.inl rfl)); replace HB := Aside0.mk (below_step (hi_ HB.out) hb); clear hb hbox hg) | ((with_reducible refine gate_callee (f := 154) rfl ?_); refine goesL_ (some 5) rfl rfl Try.func154 (by kernel_rfl) rfl #[.pointer (some ⟨g, 0, none⟩)] rfl sm_ ?_; (with_reducible refine (spec_l3DrawRight.calls k g s0_0 s0_1 s0_2 t2150 t2151 t2152 t2155 t2156 w0 _ ?side1 ?side2 A2.out).mono ?_); (case side1 => repeat (first | (with_reducible first | exact HI0.out | apply IsS_l1Cur.alloc | apply IsS_l1Cur.drewN | apply IsS_l1Cur.drew | apply IsS_l1Cur.set_1 | apply IsS_l1Cur.set_2 | refine IsS_l1Cur.far ?_ NB0_2149.out _) | exact HI0.out)); (case side2 => repeat (first | (with_reducible first | exact HB.out | apply below_alloc | apply pw_below_drewN | apply below_drew1 | refine below_set ?_ (IsS_l1Cur.ge HI0.out) | refine below_set ?_ GE2149.out) | exact HB.out)); rintro e w65 ⟨v2153, rfl, ho0, hi, hb, hk⟩; refine ⟨_, rfl, ?_⟩; have HO2154 := Aside0.mk (Kd.R_lower ho0 (keep_size (w := w) (g := g) (row := none) (hk_ HK.out))); replace BK2149 := Aside0.mk (KeepBut.blk hk (g' := gb2149) (o := .cells #[.int .i64 0, .int .i64 0, .slice none 0 0] 57 (0, 0)) (bq_ BK2149.out) NB2149_0.out (by simp)); replace HK := Aside0.mk (KeepBut.trans (hk_ HK.out) hk (.inl rfl)); replace HB := Aside0.mk (hb); replace HI0 := Aside0.mk (hi); (try clear hb); (try clear hb2); (try clear hk); (try clear hi); (try clear ho0)) | ((with_reducible refine gate_dst (N := 3) rfl ?_); refine box_event ?hg (N := 3) ?hd (cs := #[.int .i64 0, .int .i64 0, .slice none 0 0]) (t := 57) ?hr ?_; (case hd => rfl); (case hg => rfl); (case hr => first | (go_simp; done) | (go_simp; rfl)); intro gb2157 hg w66 hbox hb; have BK2157 := Aside0.mk (hbox); have GW2157 := Aside0.mk ((by rw [hg]; exact (keep_size (w := w) (g := g) (row := none) (hk_ HK.out)) : w.heap.size ≤ gb2157)); have GE2157 := Aside0.mk ((Nat.le_trans HW0.out (by rw [hg]; exact (keep_size (w := w) (g := g) (row := none) (hk_ HK.out)) : w.heap.size ≤ gb2157) : w0.heap.size ≤ gb2157)); have NB2149_2157 := cn_ BK2149 hg; have NB2157_2149 := cm_ BK2149 hg; have NB0_2157 := Aside0.mk ((by rw [hg]; exact Nat.ne_of_lt (IsS_l1Cur.lt (show IsS_l1Cur w0 _ g s0_0 t2155 t2156 from is_l1Cur_ HI0.out)) : g ≠ gb2157)); have NB2157_0 := Aside0.mk ((by rw [hg]; exact Nat.ne_of_gt (IsS_l1Cur.lt (show IsS_l1Cur w0 _ g s0_0 t2155 t2156 from is_l1Cur_ HI0.out)) : gb2157 ≠ g)); replace HO2154 := cr_ HO2154 hb; replace HI0 := Aside0.mk (IsS_l1Cur.below (is_l1Cur_ HI0.out) hb); replace BK2149 := cb_ BK2149 hb; replace HK := Aside0.mk (KeepBut.trans (hk_ HK.out) (KeepBut.of_below hb g none) (.inl rfl)); replace HB := Aside0.mk (below_step (hi_ HB.out) hb); clear hb hbox hg; have hnb67 := NB2157_2149.out; have hnc67 := NB2149_2157.out; have hnb68 := NB2157_0.out; have hnc68 := NB0_2157.out; have hcz69_0 : w66.cell? ⟨gb2157, 0, none⟩ = some (.int .i64 0) := bc_ BK2157 0; have hcz69_1 : w66.cell? ⟨gb2157, 1, none⟩ = some (.int .i64 0) := bc_ BK2157 1; have hcz69_2 : w66.cell? ⟨gb2157, 2, none⟩ = some (.slice none 0 0) := bc_ BK2157 2; have hfz69_0 := blk_frozen BK2157.out 0; have hfz69_1 := blk_frozen BK2157.out 1; have hfz69_2 := blk_frozen BK2157.out 2; obtain ⟨Ao70, co70, eo70⟩ := Kd.R_slice HO2154.out; subst eo70) | ((with_reducible refine gate_callee (f := 78) rfl ?_); refine goesL_ (some 7) rfl rfl Try.func78 (by kernel_rfl) rfl #[.pointer (some ⟨g, 0, none⟩), .int .i64 14] rfl sm_ ?_; (with_reducible refine (spec_l1Below.calls g s0_0 t2155 t2156 14 t2158 t2159 t2160 w0 _ ?side1 ?side2 A3.out).mono ?_); (case side1 => repeat (first | (with_reducible first | exact HI0.out | apply IsS_l1Cur.alloc | apply IsS_l1Cur.drewN | apply IsS_l1Cur.drew | apply IsS_l1Cur.set_1 | apply IsS_l1Cur.set_2 | refine IsS_l1Cur.far ?_ NB0_2149.out _ | refine IsS_l1Cur.far ?_ NB0_2157.out _) | exact HI0.out)); (case side2 => repeat (first | (with_reducible first | exact HB.out | apply below_alloc | apply pw_below_drewN | apply below_drew1 | refine below_set ?_ (IsS_l1Cur.ge HI0.out) | refine below_set ?_ GE2149.out | refine below_set ?_ GE2157.out) | exact HB.out)); rintro e w71 ⟨rfl, hi, hb, hk⟩; refine ⟨_, rfl, ?_⟩; replace BK2149 := Aside0.mk (KeepBut.blk hk (g' := gb2149) (o := .cells #[.int .i64 0, .int .i64 0, .slice none 0 0] 57 (0, 0)) (bf_ NB2149_2157.out BK2149.out) NB2149_0.out (by simp)); replace HO2154 := Aside0.mk (Kd.R_mono (Kd.R_keep (IsS_l1Cur.apart (show IsS_l1Cur w0 _ g s0_0 t2155 t2156 from is_l1Cur_ HI0.out) (rk_ HO2154.out BK2157.out) (by decide)) hk (fun _ h => h.2)) (fun _ h => h.1)); replace BK2157 := Aside0.mk (KeepBut.blk hk (g' := gb2157) (o := .cells #[.int .i64 t2150, .int .i64 t2151, .slice Ao70 t2152.length co70] 57 (0, 0)) (bp_ BK2157.out) NB2157_0.out (by simp)); replace HK := Aside0.mk (KeepBut.trans (hk_ HK.out) hk (.inl rfl)); replace HB := Aside0.mk (hb); replace HI0 := Aside0.mk (hi); (try clear hb); (try clear hb2); (try clear hk); (try clear hi)))
     go_loopg [] k (fun kq w' => ∃ (x2158000_1 : Int) (x2158001_1 : Int) (x2158002_1 : List (S_Item)) (u2158002 : Value), Aside0 (spec_l3Draw.l0 kq s0_0 t2159 t2160 x2158000_1 x2158001_1 x2158002_1 = some (r1, r2, r3, r4, r5)) ∧ Aside0 (kq ≤ k) ∧ Aside0 (Kd.R k_Item 69 w' w.heap.size (fun _ => True) u2158002 x2158002_1) ∧ Aside0 (w'.heap[gb2149]? = some (.cells #[.int .i64 0, .int .i64 0, (.slice none 0 0)] 57 (0, 0))) ∧ Aside0 (w'.heap[gb2157]? = some (.cells #[.int .i64 x2158000_1, .int .i64 x2158001_1, u2158002] 57 (0, 0))) ∧ Aside0 (IsS_l1Cur w0 w' g s0_0 t2159 t2160) ∧ Aside0 (KeepBut w w' g none) ∧ Aside0 (Below w0.heap.size w0 w'))
     case atStart => exact ⟨(t2150), (t2151), (t2152), (.slice Ao70 t2152.length co70), H', ⟨Nat.le_refl _⟩, ⟨rq_ HO2154.out⟩, ⟨bq_ BK2149.out⟩, ⟨bq_ BK2157.out⟩, ⟨is_l1Cur_ HI0.out⟩, ⟨qe1_⟩, ⟨qe0_⟩⟩
     case round =>
      clear H'
      (try clear c4); (try clear c4b0); (try clear c4b1); (try clear c21); (try clear c21b0); (try clear c21b1); (try clear c38); (try clear c38b0); (try clear c38b1); (try clear c63b0); (try clear c63b1); (try clear hcz69_0); (try clear hcz69_1); (try clear hcz69_2); (try clear hfz69_0); (try clear hfz69_1); (try clear hfz69_2)
      obtain ⟨x2158000_1, x2158001_1, x2158002_1, u2158002, HA, HK1, HO_2158002, BK2149, BK2157, HI0, HK, HB⟩ := hrel
      cases gk with
      | zero => exact absurd HA.out (by simp [spec_l3Draw.l0])
      | succ k1 =>
       have H := HA.out
       clear HA
       simp only [spec_l3Draw.l0] at H
       by_cases c72 : (x2158002_1.length : Int) < 80
       ·
        rw [if_pos c72] at H
        have c72b0 : decide ((x2158002_1.length : Int) < 80) = true := decide_eq_true c72
        have c72b1 : decide (x2158002_1.length < 80) = true := decide_eq_true (by omega)
        clear c72
        replace H := Option.bind_eq_some_iff.mp H
        obtain ⟨⟨t2185, t2186, t2187, t2190, t2191⟩, A730, H⟩ := H
        replace H : (spec_l3Draw.l0 k1 s0_0 t2159 t2160 t2185 t2186 t2187) = some (r1, r2, r3, r4, r5) := H
        have A73 := Aside0.mk A730
        clear A730
        have H' := Aside0.mk H
        clear H
        have hnb74 := NB2157_2149.out
        have hnc74 := NB2149_2157.out
        have hnb75 := NB2157_0.out
        have hnc75 := NB0_2157.out
        have hcz76_0 : wr.cell? ⟨gb2157, 0, none⟩ = some (.int .i64 x2158000_1) := bc_ BK2157 0
        have hcz76_1 : wr.cell? ⟨gb2157, 1, none⟩ = some (.int .i64 x2158001_1) := bc_ BK2157 1
        have hcz76_2 : wr.cell? ⟨gb2157, 2, none⟩ = some (u2158002) := bc_ BK2157 2
        have hfz76_0 := blk_frozen BK2157.out 0
        have hfz76_1 := blk_frozen BK2157.out 1
        have hfz76_2 := blk_frozen BK2157.out 2
        obtain ⟨Ao77, co77, eo77⟩ := Kd.R_slice HO_2158002.out
        subst eo77
        go_wp2_with (first | ((with_reducible refine gate_callee (f := 30) rfl ?_); refine goesL_ (some 41) rfl rfl Try.func30 (by kernel_rfl) rfl #[.agg #[.int .i64 x2158000_1, .int .i64 x2158001_1, .slice Ao77 x2158002_1.length co77], .string (⟨#[]⟩ : ByteArray), .string (⟨#[]⟩ : ByteArray), .int .i64 0, .int .i64 0] rfl sm_ ?_; (with_reducible refine (spec_RowPut.calls k1 x2158000_1 x2158001_1 _ _ x2158002_1 (⟨#[]⟩ : ByteArray) (⟨#[]⟩ : ByteArray) 0 0 t2185 t2186 t2187 t2190 t2191 _ ?side1 ?side2 A73.out).mono ?_); (case side1 => repeat (first | exact (Kd.R_reads' HO_2158002.out).2.2 | (with_reducible refine Kd.C_alloc ?_ _) | (with_reducible refine Kd.C_drewN ?_ _) | (with_reducible refine Kd.C_drew ?_))); (case side2 => exact (Kd.R_reads' HO_2158002.out).2.1); rintro e w78 ⟨v2188, rfl, ho0, hb⟩; refine ⟨_, rfl, ?_⟩; have HO2189 := Aside0.mk (Kd.R_lower (Kd.R_new' ho0 (Kd.R_lt (rq_ HO_2158002.out))) (keep_size (w := w) (g := g) (row := none) (hk_ HK.out))); replace HO_2158002 := Aside0.mk (Kd.R_elder' (rq_ HO_2158002.out) (Kd.R_base ho0) hb); replace BK2149 := cb_ BK2149 hb; replace BK2157 := cb_ BK2157 hb; replace HI0 := Aside0.mk (IsS_l1Cur.below (is_l1Cur_ HI0.out) hb); replace HK := Aside0.mk (KeepBut.trans (hk_ HK.out) (KeepBut.of_below hb g none) (.inl rfl)); replace HB := Aside0.mk (below_step (hi_ HB.out) hb); (try clear hb); (try clear hb2); (try clear hk); (try clear hi); (try clear ho0); have hcz79_0 : w78.cell? ⟨gb2157, 0, none⟩ = some (.int .i64 x2158000_1) := bc_ BK2157 0; have hcz79_1 : w78.cell? ⟨gb2157, 1, none⟩ = some (.int .i64 x2158001_1) := bc_ BK2157 1; have hcz79_2 : w78.cell? ⟨gb2157, 2, none⟩ = some (.slice Ao77 x2158002_1.length co77) := bc_ BK2157 2; have hfz79_0 := blk_frozen BK2157.out 0; have hfz79_1 := blk_frozen BK2157.out 1; have hfz79_2 := blk_frozen BK2157.out 2; obtain ⟨Ao80, co80, eo80⟩ := Kd.R_slice HO2189.out; subst eo80))
        go_roundg k1
        case measure => have := HK1.out; omega
        case rel => exact ⟨(t2185), (t2186), (t2187), (.slice Ao80 t2187.length co80), H', ⟨by have := HK1.out; omega⟩, ⟨by (with_reducible repeat (first | apply Kd.R_alloc | apply Kd.R_drewN | apply Kd.R_drew)); exact Kd.R_mono (Kd.R_far (p := ⟨gb2157, 2, none⟩) (Kd.R_far (p := ⟨gb2157, 1, none⟩) (Kd.R_far (p := ⟨gb2157, 0, none⟩) (Kd.R_types HO2189.out BK2157.out (by decide)) (fun _ hk => hk.2) (.int .i64 t2185)) (fun _ hk => hk.2) (.int .i64 t2186)) (fun _ hk => hk.2) (.slice Ao80 t2187.length co80)) (fun _ hk => trivial)⟩, ⟨bf_ NB2149_2157.out BK2149.out⟩, ⟨bp_ BK2157.out⟩, ⟨is_l1Cur_ HI0.out⟩, ⟨qe1_⟩, ⟨qe0_⟩⟩
       ·
        rw [if_neg c72] at H
        have c72b0 : decide ((x2158002_1.length : Int) < 80) = false := decide_eq_false c72
        have c72b1 : decide (x2158002_1.length < 80) = false := decide_eq_false (by omega)
        clear c72
        simp only [Option.some.injEq, Prod.mk.injEq] at H
        obtain ⟨rfl, rfl, rfl, rfl, rfl⟩ := H
        have hnb81 := NB2157_2149.out
        have hnc81 := NB2149_2157.out
        have hnb82 := NB2157_0.out
        have hnc82 := NB0_2157.out
        have hcz83_0 : wr.cell? ⟨gb2157, 0, none⟩ = some (.int .i64 x2158000_1) := bc_ BK2157 0
        have hcz83_1 : wr.cell? ⟨gb2157, 1, none⟩ = some (.int .i64 x2158001_1) := bc_ BK2157 1
        have hcz83_2 : wr.cell? ⟨gb2157, 2, none⟩ = some (u2158002) := bc_ BK2157 2
        have hfz83_0 := blk_frozen BK2157.out 0
        have hfz83_1 := blk_frozen BK2157.out 1
        have hfz83_2 := blk_frozen BK2157.out 2
        obtain ⟨Ao84, co84, eo84⟩ := Kd.R_slice HO_2158002.out
        subst eo84
        have hnb85 := NB2149_0.out
        have hnc85 := NB0_2149.out
        have hcz86_0 : wr.cell? ⟨gb2149, 0, none⟩ = some (.int .i64 0) := bc_ BK2149 0
        have hcz86_1 : wr.cell? ⟨gb2149, 1, none⟩ = some (.int .i64 0) := bc_ BK2149 1
        have hcz86_2 : wr.cell? ⟨gb2149, 2, none⟩ = some (.slice none 0 0) := bc_ BK2149 2
        have hfz86_0 := blk_frozen BK2149.out 0
        have hfz86_1 := blk_frozen BK2149.out 1
        have hfz86_2 := blk_frozen BK2149.out 2
        go_wp2
        refine bodyPost_ret (results_cell_row rfl _ _ gb2149 57 #[.int .i64 x2158000_1, .int .i64 x2158001_1, .slice Ao84 x2158002_1.length co84] (0, 0) _ rfl (bp_ BK2149.out) Try.underlying57 rfl (by kernel_rfl)) rfl ?_
        exact ⟨_, er_, by (with_reducible repeat (first | apply Kd.R_alloc | apply Kd.R_drewN | apply Kd.R_drew)); exact Kd.R_mono (Kd.R_far (p := ⟨gb2149, 2, none⟩) (Kd.R_far (p := ⟨gb2149, 1, none⟩) (Kd.R_far (p := ⟨gb2149, 0, none⟩) (Kd.R_types HO_2158002.out BK2149.out (by decide)) (fun _ hk => hk.2) (.int .i64 x2158000_1)) (fun _ hk => hk.2) (.int .i64 x2158001_1)) (fun _ hk => hk.2) (.slice Ao84 x2158002_1.length co84)) (fun _ hk => trivial), is_l1Cur_ HI0.out, qe0_, qe1_⟩
    ·
     rw [if_neg c63] at H
     have c63b0 : (t2158 == 3) = false := beq_eq_false_iff_ne.mpr c63
     have c63b1 : (t2158 != 3) = true := bne_iff_ne.mpr c63
     simp only [Option.some.injEq, Prod.mk.injEq] at H
     obtain ⟨rfl, rfl, rfl, rfl, rfl⟩ := H
     go_enter Try.func101, Try.ntmps101
     go_wp2_with (first | ((with_reducible refine gate_dst (N := 2) rfl ?_); refine box_event ?hg (N := 2) ?hd (cs := #[.int .i64 0, .int .i64 0, .slice none 0 0]) (t := 57) ?hr ?_; (case hd => rfl); (case hg => rfl); (case hr => first | (go_simp; done) | (go_simp; rfl)); intro gb2149 hg w87 hbox hb; have BK2149 := Aside0.mk (hbox); have GW2149 := Aside0.mk ((by rw [hg]; exact (keep_size (w := w) (g := g) (row := none) (hk_ HK.out)) : w.heap.size ≤ gb2149)); have GE2149 := Aside0.mk ((Nat.le_trans HW0.out (by rw [hg]; exact (keep_size (w := w) (g := g) (row := none) (hk_ HK.out)) : w.heap.size ≤ gb2149) : w0.heap.size ≤ gb2149)); have NB0_2149 := Aside0.mk ((by rw [hg]; exact Nat.ne_of_lt (IsS_l1Cur.lt (show IsS_l1Cur w0 _ g s0_0 s0_1 s0_2 from is_l1Cur_ HI0.out)) : g ≠ gb2149)); have NB2149_0 := Aside0.mk ((by rw [hg]; exact Nat.ne_of_gt (IsS_l1Cur.lt (show IsS_l1Cur w0 _ g s0_0 s0_1 s0_2 from is_l1Cur_ HI0.out)) : gb2149 ≠ g)); replace HI0 := Aside0.mk (IsS_l1Cur.below (is_l1Cur_ HI0.out) hb); replace HK := Aside0.mk (KeepBut.trans (hk_ HK.out) (KeepBut.of_below hb g none) (.inl rfl)); replace HB := Aside0.mk (below_step (hi_ HB.out) hb); clear hb hbox hg) | ((with_reducible refine gate_callee (f := 154) rfl ?_); refine goesL_ (some 5) rfl rfl Try.func154 (by kernel_rfl) rfl #[.pointer (some ⟨g, 0, none⟩)] rfl sm_ ?_; (with_reducible refine (spec_l3DrawRight.calls k g s0_0 s0_1 s0_2 t2150 t2151 t2152 t2155 t2156 w0 _ ?side1 ?side2 A2.out).mono ?_); (case side1 => repeat (first | (with_reducible first | exact HI0.out | apply IsS_l1Cur.alloc | apply IsS_l1Cur.drewN | apply IsS_l1Cur.drew | apply IsS_l1Cur.set_1 | apply IsS_l1Cur.set_2 | refine IsS_l1Cur.far ?_ NB0_2149.out _) | exact HI0.out)); (case side2 => repeat (first | (with_reducible first | exact HB.out | apply below_alloc | apply pw_below_drewN | apply below_drew1 | refine below_set ?_ (IsS_l1Cur.ge HI0.out) | refine below_set ?_ GE2149.out) | exact HB.out)); rintro e w88 ⟨v2153, rfl, ho0, hi, hb, hk⟩; refine ⟨_, rfl, ?_⟩; have HO2154 := Aside0.mk (Kd.R_lower ho0 (keep_size (w := w) (g := g) (row := none) (hk_ HK.out))); replace BK2149 := Aside0.mk (KeepBut.blk hk (g' := gb2149) (o := .cells #[.int .i64 0, .int .i64 0, .slice none 0 0] 57 (0, 0)) (bq_ BK2149.out) NB2149_0.out (by simp)); replace HK := Aside0.mk (KeepBut.trans (hk_ HK.out) hk (.inl rfl)); replace HB := Aside0.mk (hb); replace HI0 := Aside0.mk (hi); (try clear hb); (try clear hb2); (try clear hk); (try clear hi); (try clear ho0)) | ((with_reducible refine gate_dst (N := 3) rfl ?_); refine box_event ?hg (N := 3) ?hd (cs := #[.int .i64 0, .int .i64 0, .slice none 0 0]) (t := 57) ?hr ?_; (case hd => rfl); (case hg => rfl); (case hr => first | (go_simp; done) | (go_simp; rfl)); intro gb2157 hg w89 hbox hb; have BK2157 := Aside0.mk (hbox); have GW2157 := Aside0.mk ((by rw [hg]; exact (keep_size (w := w) (g := g) (row := none) (hk_ HK.out)) : w.heap.size ≤ gb2157)); have GE2157 := Aside0.mk ((Nat.le_trans HW0.out (by rw [hg]; exact (keep_size (w := w) (g := g) (row := none) (hk_ HK.out)) : w.heap.size ≤ gb2157) : w0.heap.size ≤ gb2157)); have NB2149_2157 := cn_ BK2149 hg; have NB2157_2149 := cm_ BK2149 hg; have NB0_2157 := Aside0.mk ((by rw [hg]; exact Nat.ne_of_lt (IsS_l1Cur.lt (show IsS_l1Cur w0 _ g s0_0 t2155 t2156 from is_l1Cur_ HI0.out)) : g ≠ gb2157)); have NB2157_0 := Aside0.mk ((by rw [hg]; exact Nat.ne_of_gt (IsS_l1Cur.lt (show IsS_l1Cur w0 _ g s0_0 t2155 t2156 from is_l1Cur_ HI0.out)) : gb2157 ≠ g)); replace HO2154 := cr_ HO2154 hb; replace HI0 := Aside0.mk (IsS_l1Cur.below (is_l1Cur_ HI0.out) hb); replace BK2149 := cb_ BK2149 hb; replace HK := Aside0.mk (KeepBut.trans (hk_ HK.out) (KeepBut.of_below hb g none) (.inl rfl)); replace HB := Aside0.mk (below_step (hi_ HB.out) hb); clear hb hbox hg; have hnb90 := NB2157_2149.out; have hnc90 := NB2149_2157.out; have hnb91 := NB2157_0.out; have hnc91 := NB0_2157.out; have hcz92_0 : w89.cell? ⟨gb2157, 0, none⟩ = some (.int .i64 0) := bc_ BK2157 0; have hcz92_1 : w89.cell? ⟨gb2157, 1, none⟩ = some (.int .i64 0) := bc_ BK2157 1; have hcz92_2 : w89.cell? ⟨gb2157, 2, none⟩ = some (.slice none 0 0) := bc_ BK2157 2; have hfz92_0 := blk_frozen BK2157.out 0; have hfz92_1 := blk_frozen BK2157.out 1; have hfz92_2 := blk_frozen BK2157.out 2; obtain ⟨Ao93, co93, eo93⟩ := Kd.R_slice HO2154.out; subst eo93) | ((with_reducible refine gate_callee (f := 78) rfl ?_); refine goesL_ (some 7) rfl rfl Try.func78 (by kernel_rfl) rfl #[.pointer (some ⟨g, 0, none⟩), .int .i64 14] rfl sm_ ?_; (with_reducible refine (spec_l1Below.calls g s0_0 t2155 t2156 14 t2158 t2159 t2160 w0 _ ?side1 ?side2 A3.out).mono ?_); (case side1 => repeat (first | (with_reducible first | exact HI0.out | apply IsS_l1Cur.alloc | apply IsS_l1Cur.drewN | apply IsS_l1Cur.drew | apply IsS_l1Cur.set_1 | apply IsS_l1Cur.set_2 | refine IsS_l1Cur.far ?_ NB0_2149.out _ | refine IsS_l1Cur.far ?_ NB0_2157.out _) | exact HI0.out)); (case side2 => repeat (first | (with_reducible first | exact HB.out | apply below_alloc | apply pw_below_drewN | apply below_drew1 | refine below_set ?_ (IsS_l1Cur.ge HI0.out) | refine below_set ?_ GE2149.out | refine below_set ?_ GE2157.out) | exact HB.out)); rintro e w94 ⟨rfl, hi, hb, hk⟩; refine ⟨_, rfl, ?_⟩; replace BK2149 := Aside0.mk (KeepBut.blk hk (g' := gb2149) (o := .cells #[.int .i64 0, .int .i64 0, .slice none 0 0] 57 (0, 0)) (bf_ NB2149_2157.out BK2149.out) NB2149_0.out (by simp)); replace HO2154 := Aside0.mk (Kd.R_mono (Kd.R_keep (IsS_l1Cur.apart (show IsS_l1Cur w0 _ g s0_0 t2155 t2156 from is_l1Cur_ HI0.out) (rk_ HO2154.out BK2157.out) (by decide)) hk (fun _ h => h.2)) (fun _ h => h.1)); replace BK2157 := Aside0.mk (KeepBut.blk hk (g' := gb2157) (o := .cells #[.int .i64 t2150, .int .i64 t2151, .slice Ao93 t2152.length co93] 57 (0, 0)) (bp_ BK2157.out) NB2157_0.out (by simp)); replace HK := Aside0.mk (KeepBut.trans (hk_ HK.out) hk (.inl rfl)); replace HB := Aside0.mk (hb); replace HI0 := Aside0.mk (hi); (try clear hb); (try clear hb2); (try clear hk); (try clear hi); have hcz95_0 : w94.cell? ⟨gb2157, 0, none⟩ = some (.int .i64 t2150) := bc_ BK2157 0; have hcz95_1 : w94.cell? ⟨gb2157, 1, none⟩ = some (.int .i64 t2151) := bc_ BK2157 1; have hcz95_2 : w94.cell? ⟨gb2157, 2, none⟩ = some (.slice Ao93 t2152.length co93) := bc_ BK2157 2; have hfz95_0 := blk_frozen BK2157.out 0; have hfz95_1 := blk_frozen BK2157.out 1; have hfz95_2 := blk_frozen BK2157.out 2; have hnb96 := NB2149_0.out; have hnc96 := NB0_2149.out; have hcz97_0 : w94.cell? ⟨gb2149, 0, none⟩ = some (.int .i64 0) := bc_ BK2149 0; have hcz97_1 : w94.cell? ⟨gb2149, 1, none⟩ = some (.int .i64 0) := bc_ BK2149 1; have hcz97_2 : w94.cell? ⟨gb2149, 2, none⟩ = some (.slice none 0 0) := bc_ BK2149 2; have hfz97_0 := blk_frozen BK2149.out 0; have hfz97_1 := blk_frozen BK2149.out 1; have hfz97_2 := blk_frozen BK2149.out 2))
     refine bodyPost_ret (results_cell_row rfl _ _ gb2149 57 #[.int .i64 t2150, .int .i64 t2151, .slice Ao93 t2152.length co93] (0, 0) _ rfl (bp_ BK2149.out) Try.underlying57 rfl (by kernel_rfl)) rfl ?_
     exact ⟨_, er_, by (with_reducible repeat (first | apply Kd.R_alloc | apply Kd.R_drewN | apply Kd.R_drew)); exact Kd.R_mono (Kd.R_far (p := ⟨gb2149, 2, none⟩) (Kd.R_far (p := ⟨gb2149, 1, none⟩) (Kd.R_far (p := ⟨gb2149, 0, none⟩) (Kd.R_types HO2154.out BK2149.out (by decide)) (fun _ hk => hk.2) (.int .i64 t2150)) (fun _ hk => hk.2) (.int .i64 t2151)) (fun _ hk => hk.2) (.slice Ao93 t2152.length co93)) (fun _ hk => trivial), is_l1Cur_ HI0.out, qe0_, qe1_⟩
end Go.Proofs.Ytiknkolclcdajaa.Q
