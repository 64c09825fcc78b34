/- Made by a program of ours out of the print of the loaded functions: for each of some functions a plain function, and the walk that shows that a call comes to what it says. No condition but those of each theorem. -/
import Derived.Test.YthmjhhkheohgfaaZFnMakers0
namespace Go.Proofs.Ythmjhhkheohgfaa.Q
open Go.RowKit Go.Proofs.YthmjhhkheohgfaaW.PrintWords Go.Proofs.YthmjhhkheohgfaaW.PrintLast Go.Proofs.YthmjhhkheohgfaaW.PrintMore
attribute [local go_sem] max2_int min2_int max_two min_two max_three min_three max_four min_four   -- for this text's walks alone
set_option linter.unusedVariables false
set_option linter.unusedSimpArgs false
theorem qa0_ {P : Prop} (h : P := by repeat (first | (with_reducible first | exact HB.out | apply below_alloc | apply pw_below_drewN | apply below_drew1) | exact HB.out)) : P := h
theorem qa1_ {P : Prop} (h : P := by repeat (first | (with_reducible first | exact HB.out | apply below_alloc | apply pw_below_drewN | apply below_drew1 | refine below_set ?_ GE379.out) | exact HB.out)) : P := h
theorem qa2_ {P : Prop} (h : P := by repeat (first | (with_reducible first | exact HK.out | apply KeepBut.set_ | apply keep_drewN | apply keep_drew | apply keep_alloc) | exact HK.out)) : P := h
theorem qa3_ {P : Prop} (h : P := by first | rfl | (simp; done) | (simp [*]; done)) : P := h
theorem qa4_ {P : Prop} (h : P := by first | rfl | (simp [errW_none, errW_some] <;> rfl) | (simp [*, errW_none, errW_some] <;> rfl)) : P := h
theorem qa5_ {P : Prop} (h : P := by (try simp only [List.map_toArray, List.map_cons, List.map_nil]); first | done | rfl | (simp only [List.length_drop, List.length_take]; rfl)) : P := h
theorem qa6_ {P : Prop} (h : P := by repeat (first | (with_reducible first | exact HB.out | apply below_alloc | apply pw_below_drewN | apply below_drew1 | refine below_set ?_ GE335.out) | exact HB.out)) : P := h
theorem qa7_ {P : Prop} (h : P := by repeat (first | (with_reducible first | exact HB.out | apply below_alloc | apply pw_below_drewN | apply below_drew1 | refine below_set ?_ GE379.out | refine below_set ?_ GE381.out) | exact HB.out)) : P := h
theorem qa8_ {P : Prop} (h : P := by repeat (first | (with_reducible first | exact HI0.out | apply IsS_l1Cur.alloc | apply IsS_l1Cur.drewN | apply IsS_l1Cur.drew | apply IsS_l1Cur.set_1 | apply IsS_l1Cur.set_2) | exact HI0.out)) : P := h
theorem qa9_ {P : Prop} (h : P := by repeat (first | (with_reducible first | exact HB.out | apply below_alloc | apply pw_below_drewN | apply below_drew1 | refine below_set ?_ (IsS_l1Cur.ge HI0.out)) | exact HB.out)) : P := h
theorem qa10_ {P : Prop} (h : P := by repeat (first | (with_reducible first | exact HB.out | apply below_alloc | apply pw_below_drewN | apply below_drew1 | refine below_set ?_ GE498.out) | exact HB.out)) : P := h
theorem qa11_ {P : Prop} (h : P := by (with_reducible repeat (first | apply Kd.S_alloc | apply Kd.S_drewN | apply Kd.S_drew)); exact HO_5.out) : P := h
theorem qa12_ {P : Prop} (h : P := by repeat (first | (with_reducible first | exact HB.out | apply below_alloc | apply pw_below_drewN | apply below_drew1 | refine below_set ?_ GE327.out | refine below_set ?_ GE328.out) | exact HB.out)) : P := h
theorem qa13_ {P : Prop} (h : P := by (with_reducible repeat (first | apply Kd.S_alloc | apply Kd.S_drewN | apply Kd.S_drew)); exact Kd.S_mono (Kd.S_far (p := ⟨gb456, 4, none⟩) (Kd.S_far (p := ⟨gb456, 3, none⟩) (Kd.S_far (p := ⟨gb456, 2, none⟩) (Kd.S_far (p := ⟨gb456, 1, none⟩) (Kd.S_far (p := ⟨gb456, 0, none⟩) (Kd.S_mono HO_5.out (fun k_ hk => (⟨hk, hk.2⟩ : _ ∧ k_ ≠ gb456))) (fun _ hk => hk.2) (.int .i64 ((rd_Maker l0 x7_1).f0))) (fun _ hk => hk.2) (.int .i64 ((rd_Maker l0 x7_1).f1))) (fun _ hk => hk.2) (.int .i64 ((rd_Maker l0 x7_1).f2))) (fun _ hk => hk.2) (.int .i64 ((rd_Maker l0 x7_1).f3))) (fun _ hk => hk.2) (.slice A455_4 ((rd_Maker l0 x7_1).f4).length c455_4)) (fun _ hk => ⟨hk.1.1, hk.1.2⟩)) : P := h
theorem qa14_ {P : Prop} (h : P := by repeat (first | (with_reducible first | exact HBW.out | apply below_alloc | apply pw_below_drewN | apply below_drew1) | exact HBW.out)) : P := h
theorem qa15_ {P : Prop} (h : P := by repeat (first | (with_reducible first | exact HB.out | apply below_alloc | apply pw_below_drewN | apply below_drew1 | refine below_set ?_ GE374.out | refine below_set ?_ GE375.out) | exact HB.out)) : P := h
theorem qa16_ {P : Prop} (h : P := by (with_reducible repeat (first | apply Kd.S_alloc | apply Kd.S_drewN | apply Kd.S_drew)); exact Kd.S_mono HO_5.out (fun k_ hk => ⟨⟨hk.1.1, hk.1.2⟩, fun e_ => hk.2 e_⟩)) : P := h
theorem qa17_ {P : Prop} (h : P := by repeat (first | (with_reducible first | exact HB.out | apply below_alloc | apply pw_below_drewN | apply below_drew1 | refine below_set ?_ GE374.out) | exact HB.out)) : P := h
theorem qa18_ {P : Prop} (h : P := by repeat (first | (with_reducible first | exact HB.out | apply below_alloc | apply pw_below_drewN | apply below_drew1 | refine below_set ?_ GE327.out) | exact HB.out)) : P := h
theorem qa19_ {P : Prop} (h : P := by repeat (first | exact Drawn0.refl _ | apply Drawn0.step)) : P := h
theorem qa20_ {P : Prop} (h : P := by have := HK1.out; have := HJ7.out; first | omega | exact Nat.le_refl _) : P := h
theorem qa21_ {P : Prop} (h : P := by first | exact Kd.R_nil _ _ _ _ _ | exact Kd.N_nil _ _ _ _ _ | exact Kd.V_nil _ _ _ _ _ | exact Kd.Q_nil _ _ _ _ _ | exact Kd.S_nil _ _ _ _ _) : P := h
theorem qah0_ {P : Prop} (h : P := by repeat' first | (with_reducible exact ih0 _ _ _ _) | (with_reducible exact LeO.refl _) | (with_reducible exact LeO.none _) | (with_reducible refine LeO.ite ?_ ?_) | (with_reducible refine LeO.bind ?_ (fun _ => ?_)) | exact ih0 _ _ _ _ | exact LeO.none _ | refine LeO.ite ?_ ?_ | refine LeO.bind ?_ (fun _ => ?_)) : P := h
theorem qah1_ {P : Prop} (h : P := by repeat' first | (with_reducible exact ih0 _ _ _ _ _) | (with_reducible exact LeO.refl _) | (with_reducible exact LeO.none _) | (with_reducible refine LeO.ite ?_ ?_) | (with_reducible refine LeO.bind ?_ (fun _ => ?_)) | exact ih0 _ _ _ _ _ | exact LeO.none _ | refine LeO.ite ?_ ?_ | refine LeO.bind ?_ (fun _ => ?_)) : P := h
theorem qah2_ {P : Prop} (h : P := by repeat' first | (with_reducible exact ih0 _ _ _ _ _ _ _ _ _) | (with_reducible exact ih1 _ _ _ _ _ _ _ _ _ _ _ _ _ _ _) | (with_reducible exact ih2 _ _ _ _ _ _ _ _ _ _ _ _ _ _ _) | (with_reducible exact LeO.refl _) | (with_reducible exact LeO.none _) | (with_reducible refine LeO.ite ?_ ?_) | (with_reducible refine LeO.bind ?_ (fun _ => ?_)) | exact ih0 _ _ _ _ _ _ _ _ _ | exact ih1 _ _ _ _ _ _ _ _ _ _ _ _ _ _ _ | exact ih2 _ _ _ _ _ _ _ _ _ _ _ _ _ _ _ | exact LeO.none _ | refine LeO.ite ?_ ?_ | refine LeO.bind ?_ (fun _ => ?_)) : P := h
theorem qah3_ {P : Prop} (h : P := by repeat' first | (with_reducible exact ih0 _ _ _) | (with_reducible exact LeO.refl _) | (with_reducible exact LeO.none _) | (with_reducible refine LeO.ite ?_ ?_) | (with_reducible refine LeO.bind ?_ (fun _ => ?_)) | exact ih0 _ _ _ | exact LeO.none _ | refine LeO.ite ?_ ?_ | refine LeO.bind ?_ (fun _ => ?_)) : P := h

theorem hk_ {w W W' : World} {g : Nat} {row row' : Option Nat} (x : KeepBut w W g row) (h : KeepBut w W g row → KeepBut w W' g row' := by intro h_; repeat (first | (with_reducible first | exact h_ | apply KeepBut.set_ | apply keep_drewN | apply keep_drew | apply keep_alloc | refine keep_far ?_ (Aside0.out (by assumption)) _) | exact h_)) : KeepBut w W' g row' := h x
theorem nl_ {g b : Nat} {o : Obj} {W w : World} (x : W.heap[g]? = some o) (hg : b = w.heap.size) (h : W.heap[g]? = some o → w.heap[g]? = some o := by intro h_; (with_reducible repeat (first | refine blk_drewN ?_ _ | refine blk_drew ?_ | refine blk_alloc ?_ _)); exact h_) : g ≠ b := by rw [hg]; exact Nat.ne_of_lt (blk_lt (h x))
theorem ng_ {g b : Nat} {o : Obj} {W w : World} (x : W.heap[g]? = some o) (hg : b = w.heap.size) (h : W.heap[g]? = some o → w.heap[g]? = some o := by intro h_; (with_reducible repeat (first | refine blk_drewN ?_ _ | refine blk_drew ?_ | refine blk_alloc ?_ _)); exact h_) : b ≠ g := by rw [hg]; exact Nat.ne_of_gt (blk_lt (h x))
theorem er_ {q : Prop} (h : q := by first | rfl | (simp [errW_none, errW_some] <;> rfl) | (simp [*, errW_none, errW_some] <;> rfl)) : q := h
theorem eqA_Mark (d : Nat) (w : World) (x0 y0 : Int) (x1 y1 : Int) :
    (Op.equalIn (d + 2) 110 (.agg #[.int .i64 x0, .int .i64 x1]) (.agg #[.int .i64 y0, .int .i64 y1])).run Try.prog w = .ok (x0 == y0 && (x1 == y1)) w := by
  refine eqA_of Try.underlying110 (by kernel_rfl) ?_
  refine eqf_cons (by rfl) (by go_simp; rfl) (by go_simp; rfl) (by go_simp) ?_
  exact eqf_last (by rfl) (by go_simp; rfl) (by go_simp; rfl) (by go_simp)
/-! ### spec_l1In: function 74 -/
def spec_l1In.f (a0 : Int) (a1 : Int) (a2 : Int) : Option (Bool) := if a0 ≥ a1 then (some (decide (a0 ≤ a2))) else (some false)
set_option maxHeartbeats 8000000 in
set_option maxRecDepth 100000 in
theorem spec_l1In.calls (a0 : Int) (a1 : Int) (a2 : Int) (r : Bool) (w : World) (h : spec_l1In.f a0 a1 a2 = some r) :
    Calls Try.prog 74 #[.int .i64 a0, .int .i64 a1, .int .i64 a2] w fun e w' => e = .returned (.bool r) ∧ Drawn0 w w' := by
  have H : (if a0 ≥ a1 then (some (decide (a0 ≤ a2))) else (some false)) = some r := h
  clear h
  by_cases c4 : a0 ≥ a1
  · rw [if_pos c4] at H
    have c4b0 : decide (a1 ≤ a0) = true := decide_eq_true c4
    clear c4
    obtain rfl := Option.some.inj H
    go_enter Try.func74, Try.ntmps74
    go_wp2
    go_ret
    exact ⟨qa3_, qa19_⟩
  · rw [if_neg c4] at H
    have c4b0 : decide (a1 ≤ a0) = false := decide_eq_false c4
    clear c4
    obtain rfl := Option.some.inj H
    go_enter Try.func74, Try.ntmps74
    go_wp2
    go_ret
    exact ⟨qa3_, qa19_⟩

/-! ### impl_within: function 58 -/
def impl_within.f (a0 : Int) (a1 : Int) (a2 : Int) : Option (Bool) := if a0 ≥ a1 then (some (decide (a0 ≤ a2))) else (some false)
set_option maxHeartbeats 8000000 in
set_option maxRecDepth 100000 in
theorem impl_within.calls (a0 : Int) (a1 : Int) (a2 : Int) (r : Bool) (w : World) (h : impl_within.f a0 a1 a2 = some r) :
    Calls Try.prog 58 #[.int .i64 a0, .int .i64 a1, .int .i64 a2] w fun e w' => e = .returned (.bool r) ∧ Drawn0 w w' := by
  have H : (if a0 ≥ a1 then (some (decide (a0 ≤ a2))) else (some false)) = some r := h
  clear h
  by_cases c4 : a0 ≥ a1
  · rw [if_pos c4] at H
    have c4b0 : decide (a1 ≤ a0) = true := decide_eq_true c4
    clear c4
    obtain rfl := Option.some.inj H
    go_enter Try.func58, Try.ntmps58
    go_wp2
    go_ret
    exact ⟨qa3_, qa19_⟩
  · rw [if_neg c4] at H
    have c4b0 : decide (a1 ≤ a0) = false := decide_eq_false c4
    clear c4
    obtain rfl := Option.some.inj H
    go_enter Try.func58, Try.ntmps58
    go_wp2
    go_ret
    exact ⟨qa3_, qa19_⟩

/-! ### spec_l4Copy: function 60 -/
def spec_l4Copy.f (a0_0 : Int) (a0_1 : Int) (a0_2 : Int) (a0_3 : Int) (l0_4 : List (S_Mark)) : Option (Int × Int × Int × Int × (List (S_Mark))) := (some (([] : List (S_Mark)) : List (S_Mark))).bind fun y329 => (if y329.length + l0_4.length < 8796093022208 then (some (a0_0, a0_1, a0_2, a0_3, (y329 ++ l0_4))) else (none))
set_option maxHeartbeats 8000000 in
set_option maxRecDepth 100000 in
theorem spec_l4Copy.calls (a0_0 : Int) (a0_1 : Int) (a0_2 : Int) (a0_3 : Int) (A0_4 : Option Addr) (c0_4 : Nat) (l0_4 : List (S_Mark)) (r1 : Int) (r2 : Int) (r3 : Int) (r4 : Int) (r5 : List (S_Mark)) (w : World) (hr0_4 : Kd.C k_Mark w A0_4 l0_4.length l0_4) (hc0_4 : l0_4.length ≤ c0_4) (h : spec_l4Copy.f a0_0 a0_1 a0_2 a0_3 l0_4 = some (r1, r2, r3, r4, r5)) :
    Calls Try.prog 60 #[.agg #[.int .i64 a0_0, .int .i64 a0_1, .int .i64 a0_2, .int .i64 a0_3, .slice A0_4 l0_4.length c0_4]] w fun e w' => ∃ v4_ : Value, e = .returned (.agg #[.int .i64 r1, .int .i64 r2, .int .i64 r3, .int .i64 r4, v4_]) ∧ Kd.R k_Mark 110 w' w.heap.size (fun _ => True) v4_ r5 ∧ Below w.heap.size w w' := by
  have hu38 := Try.underlying38
  have HR0_4 := Aside0.mk hr0_4
  have HC0_4 := Aside0.mk hc0_4
  clear hr0_4 hc0_4
  have HB := Aside0.mk (Below.refl w.heap.size w)
  have H : ((some (([] : List (S_Mark)) : List (S_Mark))).bind fun y329 => (if y329.length + l0_4.length < 8796093022208 then (some (a0_0, a0_1, a0_2, a0_3, (y329 ++ l0_4))) else (none))) = some (r1, r2, r3, r4, r5) := h
  clear h
  obtain ⟨y329, hy329⟩ : ∃ y_ : List (S_Mark), y_ = (([] : List (S_Mark))) := ⟨_, rfl⟩
  replace H : (if y329.length + l0_4.length < 8796093022208 then (some (a0_0, a0_1, a0_2, a0_3, (y329 ++ l0_4))) else (none)) = some (r1, r2, r3, r4, r5) := by first | (rw [hy329]; with_reducible exact H) | (have H2_ := (Option.bind_some _ _).symm.trans H; rw [hy329]; with_reducible exact H2_) | (have H2_ := (Option.bind_some _ _).symm.trans H; with_reducible exact H2_) | with_reducible exact H | (rw [hy329]; exact H) | exact H
  have Ny329 := Aside0.mk hy329
  clear hy329
  by_cases c2 : y329.length + l0_4.length < 8796093022208
  · rw [if_pos c2] at H
    have LMc2 := Aside0.mk c2
    clear c2
    obtain ⟨y332, hy332⟩ : ∃ y_ : List (S_Mark), y_ = (y329 ++ l0_4) := ⟨_, rfl⟩
    replace H : (some (a0_0, a0_1, a0_2, a0_3, y332)) = some (r1, r2, r3, r4, r5) := by first | (rw [hy332]; with_reducible exact H) | (have H2_ := (Option.bind_some _ _).symm.trans H; rw [hy332]; with_reducible exact H2_) | (have H2_ := (Option.bind_some _ _).symm.trans H; with_reducible exact H2_) | with_reducible exact H | (rw [hy332]; exact H) | exact H
    have Ny332 := Aside0.mk hy332
    clear hy332
    simp only [Option.some.injEq, Prod.mk.injEq] at H
    obtain ⟨rfl, rfl, rfl, rfl, rfl⟩ := H
    go_enter Try.func60, Try.ntmps60
    go_wp2_with (first | ((with_reducible refine gate_dst (N := 1) rfl ?_); refine box_event ?hg (N := 1) ?hd (cs := #[.int .i64 a0_0, .int .i64 a0_1, .int .i64 a0_2, .int .i64 a0_3, .slice A0_4 l0_4.length c0_4]) (t := 38) ?hr ?_; (case hd => rfl); (case hg => rfl); (case hr => first | (go_simp; done) | (go_simp; rfl)); intro gb327 hg w3 hbox hb; have BK327 := Aside0.mk (hbox); have GW327 := Aside0.mk ((by rw [hg]; exact (below_size (qa0_)) : w.heap.size ≤ gb327)); have GE327 := Aside0.mk ((by rw [hg]; exact (below_size (qa0_)) : w.heap.size ≤ gb327)); replace HB := Aside0.mk (below_step (qa0_) hb); clear hb hbox hg) | ((with_reducible refine gate_dst (N := 2) rfl ?_); refine box_event ?hg (N := 2) ?hd (cs := #[.int .i64 0, .int .i64 0, .int .i64 0, .int .i64 0, .slice none 0 0]) (t := 38) ?hr ?_; (case hd => rfl); (case hg => rfl); (case hr => first | (go_simp; done) | (go_simp; rfl)); intro gb328 hg w4 hbox hb; have BK328 := Aside0.mk (hbox); have GW328 := Aside0.mk ((by rw [hg]; exact (below_size (qa18_)) : w.heap.size ≤ gb328)); have GE328 := Aside0.mk ((by rw [hg]; exact (below_size (qa18_)) : w.heap.size ≤ gb328)); have NB327_328 := Aside0.mk ((by rw [hg]; exact Nat.ne_of_lt (blk_lt (g := gb327) (o := .cells #[.int .i64 a0_0, .int .i64 a0_1, .int .i64 a0_2, .int .i64 a0_3, .slice A0_4 l0_4.length c0_4] 38 (0, 0)) (bq_ BK327.out)) : gb327 ≠ gb328)); have NB328_327 := Aside0.mk ((by rw [hg]; exact Nat.ne_of_gt (blk_lt (g := gb327) (o := .cells #[.int .i64 a0_0, .int .i64 a0_1, .int .i64 a0_2, .int .i64 a0_3, .slice A0_4 l0_4.length c0_4] 38 (0, 0)) (bq_ BK327.out)) : gb328 ≠ gb327)); replace BK327 := Aside0.mk (blk_below (g := gb327) (o := .cells #[.int .i64 a0_0, .int .i64 a0_1, .int .i64 a0_2, .int .i64 a0_3, .slice A0_4 l0_4.length c0_4] 38 (0, 0)) (bq_ BK327.out) hb); replace HB := Aside0.mk (below_step (qa18_) hb); clear hb hbox hg) | ((with_reducible refine gate_dst (N := 3) rfl ?_); refine Kd.R_lit k_Mark _ 110 ?hg (N := 3) ?hd (xs := ([] : List (S_Mark))) (inner := []) (ok := fun _ => True) (okp := fun _ => True) ?hr ?hp (fun _ hk => hk) trivial (Below.refl _ _) (Nat.le_refl _) (by simp) ?_; (case hd => rfl); (case hg => rfl); (case hr => first | (go_simp; done) | (go_simp; rfl)); (case hp => exact (Reps.none _ _)); intro v330 w5 ho6 hb hg_ hnew_; clear hg_ hnew_; (first | rw [← Ny329.out] at ho6 | (simp only [Int.reduceToNat] at ho6; rw [← Ny329.out] at ho6)); have HO331 := Aside0.mk (Kd.R_lower ho6 (below_size (qa12_))); replace BK327 := Aside0.mk (blk_below (g := gb327) (o := .cells #[.int .i64 a0_0, .int .i64 a0_1, .int .i64 a0_2, .int .i64 a0_3, .slice A0_4 l0_4.length c0_4] 38 (0, 0)) (bq_ BK327.out) hb); replace BK328 := Aside0.mk (blk_below (g := gb328) (o := .cells #[.int .i64 0, .int .i64 0, .int .i64 0, .int .i64 0, .slice none 0 0] 38 (0, 0)) (bq_ BK328.out) hb); replace HB := Aside0.mk (below_step (qa12_) hb); clear hb ho6; have hnb7 := NB327_328.out; have hnc7 := NB328_327.out; have hcz8_0 : w5.cell? ⟨gb327, 0, none⟩ = some (.int .i64 a0_0) := bc_ BK327 0; have hcz8_1 : w5.cell? ⟨gb327, 1, none⟩ = some (.int .i64 a0_1) := bc_ BK327 1; have hcz8_2 : w5.cell? ⟨gb327, 2, none⟩ = some (.int .i64 a0_2) := bc_ BK327 2; have hcz8_3 : w5.cell? ⟨gb327, 3, none⟩ = some (.int .i64 a0_3) := bc_ BK327 3; have hcz8_4 : w5.cell? ⟨gb327, 4, none⟩ = some (.slice A0_4 l0_4.length c0_4) := bc_ BK327 4; have hfz8_0 := blk_frozen BK327.out 0; have hfz8_1 := blk_frozen BK327.out 1; have hfz8_2 := blk_frozen BK327.out 2; have hfz8_3 := blk_frozen BK327.out 3; have hfz8_4 := blk_frozen BK327.out 4) | ((with_reducible refine gate_builtin (b := .append) (xs := #[.tmp 3, .tmp 5]) rfl ?_); at_builtin; refine Kd.R_append_rows k_Mark (w0 := w) w.heap.size rfl (.tmp 3) (.tmp 5) 36 110 (.agg #[(.int .i64 0), (.int .i64 0)]) 16 rfl Try.underlying36 info110 rfl (by decide) (by omega) v330 y329 l0_4 _ _ _ (fun _ => True) (fun _ => False) rfl rfl ?aO ?aR (fun _ _ h => h) (fun _ h => h.elim) ?aF ?aB ?aS ?aL ?_; (case aR => repeat (first | exact (Kd.C_below HR0_4.out HB.out) | (with_reducible refine Kd.C_alloc ?_ _) | (with_reducible refine Kd.C_drewN ?_ _) | (with_reducible refine Kd.C_drew ?_))); (case aB => exact (qa12_)); (case aF => exact (fun _ _ => trivial)); (case aO => exact (by (with_reducible repeat (first | apply Kd.R_alloc | apply Kd.R_drewN | apply Kd.R_drew)); exact HO331.out)); (case aS => exact (below_size (qa12_))); (case aL => have := LMc2.out; omega); intro v333 w9 ho hb hg hat; rw [← Ny332.out] at ho; have HO334 := Aside0.mk (ho); replace BK327 := Aside0.mk (blk_grown (g := gb327) (o := .cells #[.int .i64 a0_0, .int .i64 a0_1, .int .i64 a0_2, .int .i64 a0_3, .slice A0_4 l0_4.length c0_4] 38 (0, 0)) (bq_ BK327.out) hg (Kd.R_ne HO331.out BK327.out (by decide))); replace BK328 := Aside0.mk (blk_grown (g := gb328) (o := .cells #[.int .i64 0, .int .i64 0, .int .i64 0, .int .i64 0, .slice none 0 0] 38 (0, 0)) (bq_ BK328.out) hg (Kd.R_ne HO331.out BK328.out (by decide))); replace HB := Aside0.mk (hb); clear HO331; clear ho hb hg hat; obtain ⟨Ao10, co10, eo10⟩ := Kd.R_slice HO334.out; subst eo10; have hcz11_0 : w9.cell? ⟨gb327, 0, none⟩ = some (.int .i64 a0_0) := bc_ BK327 0; have hcz11_1 : w9.cell? ⟨gb327, 1, none⟩ = some (.int .i64 a0_1) := bc_ BK327 1; have hcz11_2 : w9.cell? ⟨gb327, 2, none⟩ = some (.int .i64 a0_2) := bc_ BK327 2; have hcz11_3 : w9.cell? ⟨gb327, 3, none⟩ = some (.int .i64 a0_3) := bc_ BK327 3; have hcz11_4 : w9.cell? ⟨gb327, 4, none⟩ = some (.slice A0_4 l0_4.length c0_4) := bc_ BK327 4; have hfz11_0 := blk_frozen BK327.out 0; have hfz11_1 := blk_frozen BK327.out 1; have hfz11_2 := blk_frozen BK327.out 2; have hfz11_3 := blk_frozen BK327.out 3; have hfz11_4 := blk_frozen BK327.out 4; have hcz12_0 : w9.cell? ⟨gb328, 0, none⟩ = some (.int .i64 0) := bc_ BK328 0; have hcz12_1 : w9.cell? ⟨gb328, 1, none⟩ = some (.int .i64 0) := bc_ BK328 1; have hcz12_2 : w9.cell? ⟨gb328, 2, none⟩ = some (.int .i64 0) := bc_ BK328 2; have hcz12_3 : w9.cell? ⟨gb328, 3, none⟩ = some (.int .i64 0) := bc_ BK328 3; have hcz12_4 : w9.cell? ⟨gb328, 4, none⟩ = some (.slice none 0 0) := bc_ BK328 4; have hfz12_0 := blk_frozen BK328.out 0; have hfz12_1 := blk_frozen BK328.out 1; have hfz12_2 := blk_frozen BK328.out 2; have hfz12_3 := blk_frozen BK328.out 3; have hfz12_4 := blk_frozen BK328.out 4))
    refine bodyPost_ret (results_cell_row rfl _ _ gb328 38 #[.int .i64 a0_0, .int .i64 a0_1, .int .i64 a0_2, .int .i64 a0_3, .slice Ao10 y332.length co10] (0, 0) _ rfl (by_ BK328.out) Try.underlying38 rfl (by kernel_rfl)) rfl ?_
    exact ⟨_, qa4_, by (with_reducible repeat (first | apply Kd.R_alloc | apply Kd.R_drewN | apply Kd.R_drew)); exact Kd.R_mono (Kd.R_far (p := ⟨gb328, 4, none⟩) (Kd.R_far (p := ⟨gb328, 3, none⟩) (Kd.R_far (p := ⟨gb328, 2, none⟩) (Kd.R_far (p := ⟨gb328, 1, none⟩) (Kd.R_far (p := ⟨gb328, 0, none⟩) (Kd.R_far (p := ⟨gb327, 4, none⟩) (Kd.R_types (Kd.R_types HO334.out BK327.out (by decide)) BK328.out (by decide)) (fun _ hk => hk.1.2) (.slice Ao10 y332.length co10)) (fun _ hk => hk.2) (.int .i64 a0_0)) (fun _ hk => hk.2) (.int .i64 a0_1)) (fun _ hk => hk.2) (.int .i64 a0_2)) (fun _ hk => hk.2) (.int .i64 a0_3)) (fun _ hk => hk.2) (.slice Ao10 y332.length co10)) (fun _ hk => trivial), qa12_⟩
  · rw [if_neg c2] at H
    exact absurd H (by simp)

/-! ### spec_MakerOf: function 16 -/
def spec_MakerOf.l0 : Nat → List (S_Maker) → Int → Int → Int → Option (Int × Int × Int × Int × (List (S_Mark)))
  | 0, _, _, _, _ => none
  | k + 1, x0, x1, x2, x7 => if x7 < (x0.length : Int) then (if 0 ≤ x7 then (if ((rd_Maker x0 x7).f0) = x1 then (if ((rd_Maker x0 x7).f1) = x2 then ((spec_l4Copy.f ((rd_Maker x0 x7).f0) ((rd_Maker x0 x7).f1) ((rd_Maker x0 x7).f2) ((rd_Maker x0 x7).f3) ((rd_Maker x0 x7).f4)).bind fun bt339 => (some (bt339.1, bt339.2.1, bt339.2.2.1, bt339.2.2.2.1, bt339.2.2.2.2))) else (spec_MakerOf.l0 k x0 x1 x2 (wrap64 (x7 + 1)))) else (spec_MakerOf.l0 k x0 x1 x2 (wrap64 (x7 + 1)))) else (none)) else (some (x1, x2, 0, (-1), ([] : List (S_Mark))))
def spec_MakerOf.f (k : Nat) (l0 : List (S_Maker)) (a1 : Int) (a2 : Int) : Option (Int × Int × Int × Int × (List (S_Mark))) := spec_MakerOf.l0 k l0 a1 a2 0
theorem spec_MakerOf.mono_l : ∀ k, (∀ y0 y1 y2 y3, LeO (spec_MakerOf.l0 k y0 y1 y2 y3) (spec_MakerOf.l0 (k + 1) y0 y1 y2 y3))
  | 0 => fun _ _ _ _ r h => by simp [spec_MakerOf.l0] at h
  | k + 1 => by
    have ih0 := spec_MakerOf.mono_l k
    · intro y0 y1 y2 y3
      unfold spec_MakerOf.l0
      exact qah0_
theorem spec_MakerOf.mono : ∀ a0 a1 a2 k, LeO (spec_MakerOf.f k a0 a1 a2) (spec_MakerOf.f (k + 1) a0 a1 a2) := by
  intro a0 a1 a2 k
  have ih0 := spec_MakerOf.mono_l k
  unfold spec_MakerOf.f
  exact qah0_
set_option maxHeartbeats 8000000 in
set_option maxRecDepth 100000 in
theorem spec_MakerOf.calls (k : Nat) (A0 : Option Addr) (c0 : Nat) (l0 : List (S_Maker)) (a1 : Int) (a2 : Int) (r1 : Int) (r2 : Int) (r3 : Int) (r4 : Int) (r5 : List (S_Mark)) (w : World) (hr0 : Kd.C k_Maker w A0 l0.length l0) (hc0 : l0.length ≤ c0) (h : spec_MakerOf.f k l0 a1 a2 = some (r1, r2, r3, r4, r5)) :
    Calls Try.prog 16 #[.slice A0 l0.length c0, .int .i64 a1, .int .i64 a2] w fun e w' => ∃ v4_ : Value, e = .returned (.agg #[.int .i64 r1, .int .i64 r2, .int .i64 r3, .int .i64 r4, v4_]) ∧ Kd.R k_Mark 110 w' w.heap.size (fun _ => True) v4_ r5 ∧ Below w.heap.size w w' := by
  have hu38 := Try.underlying38
  have HR0 := Aside0.mk hr0
  have HC0 := Aside0.mk hc0
  clear hr0 hc0
  have HB := Aside0.mk (Below.refl w.heap.size w)
  have H : (spec_MakerOf.l0 k l0 a1 a2 0) = some (r1, r2, r3, r4, r5) := h
  clear h
  have H' := Aside0.mk H
  clear H
  go_enter Try.func16, Try.ntmps16
  go_wp2_with (first | ((with_reducible refine gate_dst (N := 6) rfl ?_); refine box_event ?hg (N := 6) ?hd (cs := #[.int .i64 0, .int .i64 0, .int .i64 0, .int .i64 0, .slice none 0 0]) (t := 38) ?hr ?_; (case hd => rfl); (case hg => rfl); (case hr => first | (go_simp; done) | (go_simp; rfl)); intro gb335 hg w4 hbox hb; have BK335 := Aside0.mk (hbox); have GW335 := Aside0.mk ((by rw [hg]; exact (below_size (qa0_)) : w.heap.size ≤ gb335)); have GE335 := Aside0.mk ((by rw [hg]; exact (below_size (qa0_)) : w.heap.size ≤ gb335)); replace HB := Aside0.mk (below_step (qa0_) hb); clear hb hbox hg))
  go_loopg [7] k (fun kq v7 w' => ∃ (x7_1 : Int) (x336000_1 : Int) (x336001_1 : Int) (x336002_1 : Int) (x336003_1 : Int), v7 = .int .i64 x7_1 ∧ Aside0 (spec_MakerOf.l0 kq l0 a1 a2 x7_1 = some (r1, r2, r3, r4, r5)) ∧ Aside0 (kq ≤ k) ∧ Aside0 (w'.heap[gb335]? = some (.cells #[.int .i64 x336000_1, .int .i64 x336001_1, .int .i64 x336002_1, .int .i64 x336003_1, (.slice none 0 0)] 38 (0, 0))) ∧ Aside0 (Below w.heap.size w w'))
  case atStart => exact ⟨(0), (0), (0), (0), (0), (qa3_), H', ⟨Nat.le_refl _⟩, ⟨bq_ BK335.out⟩, ⟨qa6_⟩⟩
  case round =>
    clear H'
    try clear c1
    try clear p2
    obtain ⟨x7_1, x336000_1, x336001_1, x336002_1, x336003_1, rfl, HA, HK1, BK335, HB⟩ := hrel
    cases gk with
    | zero => exact absurd HA.out (by simp [spec_MakerOf.l0])
    | succ k1 =>
      have H := HA.out
      clear HA
      simp only [spec_MakerOf.l0] at H
      by_cases c5 : x7_1 < (l0.length : Int)
      · rw [if_pos c5] at H
        have c5b0 : decide (x7_1 < (l0.length : Int)) = true := decide_eq_true c5
        clear c5
        by_cases c6 : 0 ≤ x7_1
        · rw [if_pos c6] at H
          have c6b0 : decide (0 ≤ x7_1) = true := decide_eq_true c6
          clear c6
          by_cases c7 : ((rd_Maker l0 x7_1).f0) = a1
          · rw [if_pos c7] at H
            have c7b0 : (((rd_Maker l0 x7_1).f0) == a1) = true := beq_iff_eq.mpr c7
            have c7b1 : (((rd_Maker l0 x7_1).f0) != a1) = false := bne_eq_false_iff_eq.mpr c7
            clear c7
            by_cases c8 : ((rd_Maker l0 x7_1).f1) = a2
            · rw [if_pos c8] at H
              have c8b0 : (((rd_Maker l0 x7_1).f1) == a2) = true := beq_iff_eq.mpr c8
              have c8b1 : (((rd_Maker l0 x7_1).f1) != a2) = false := bne_eq_false_iff_eq.mpr c8
              clear c8
              replace H := Option.bind_eq_some_iff.mp H
              obtain ⟨⟨t339, t340, t341, t342, t343⟩, A90, H⟩ := H
              replace H : (some (t339, t340, t341, t342, t343)) = some (r1, r2, r3, r4, r5) := H
              have A9 := Aside0.mk A90
              clear A90
              simp only [Option.some.injEq, Prod.mk.injEq] at H
              obtain ⟨rfl, rfl, rfl, rfl, rfl⟩ := H
              have p336 : 0 ≤ (x7_1 : Int) := of_decide_eq_true dt_
              have q336 : x7_1 < (l0.length : Int) := of_decide_eq_true dt_
              obtain ⟨ad336, A336_4, c336_4, e336, hx336_0, hx336_1, hx336_2, hx336_3, hx336_4, hl336_4, hi336_4⟩ := at_Maker HR0.out x7_1 p336 q336
              cases e336
              replace hx336_0 := hc_ HB hx336_0
              replace hx336_1 := hc_ HB hx336_1
              replace hx336_2 := hc_ HB hx336_2
              replace hx336_3 := hc_ HB hx336_3
              replace hx336_4 := hc_ HB hx336_4
              have HR336_4 := Aside0.mk hi336_4
              have HC336_4 := Aside0.mk hl336_4
              clear hi336_4 hl336_4
              replace p336 := eq_true p336
              replace q336 := eq_true q336
              have p337 : 0 ≤ (x7_1 : Int) := of_decide_eq_true dt_
              have q337 : x7_1 < (l0.length : Int) := of_decide_eq_true dt_
              obtain ⟨ad337, A337_4, c337_4, e337, hx337_0, hx337_1, hx337_2, hx337_3, hx337_4, hl337_4, hi337_4⟩ := at_Maker HR0.out x7_1 p337 q337
              obtain rfl : ad336 = ad337 := (by injection e337)
              replace hx337_0 := hc_ HB hx337_0
              replace hx337_1 := hc_ HB hx337_1
              replace hx337_2 := hc_ HB hx337_2
              replace hx337_3 := hc_ HB hx337_3
              replace hx337_4 := hc_ HB hx337_4
              have HR337_4 := Aside0.mk hi337_4
              have HC337_4 := Aside0.mk hl337_4
              clear hi337_4 hl337_4
              replace p337 := eq_true p337
              replace q337 := eq_true q337
              have ea_ := Option.some.inj (hx336_4.symm.trans hx337_4)
              injection ea_ with ea_ en_ ec_
              subst ea_
              subst ec_
              clear en_
              have p338 : 0 ≤ (x7_1 : Int) := of_decide_eq_true dt_
              have q338 : x7_1 < (l0.length : Int) := of_decide_eq_true dt_
              obtain ⟨ad338, A338_4, c338_4, e338, hx338_0, hx338_1, hx338_2, hx338_3, hx338_4, hl338_4, hi338_4⟩ := at_Maker HR0.out x7_1 p338 q338
              obtain rfl : ad336 = ad338 := (by injection e338)
              replace hx338_0 := hc_ HB hx338_0
              replace hx338_1 := hc_ HB hx338_1
              replace hx338_2 := hc_ HB hx338_2
              replace hx338_3 := hc_ HB hx338_3
              replace hx338_4 := hc_ HB hx338_4
              have HR338_4 := Aside0.mk hi338_4
              have HC338_4 := Aside0.mk hl338_4
              clear hi338_4 hl338_4
              replace p338 := eq_true p338
              replace q338 := eq_true q338
              have ea_ := Option.some.inj (hx336_4.symm.trans hx338_4)
              injection ea_ with ea_ en_ ec_
              subst ea_
              subst ec_
              clear en_
              go_wp2_with (first | ((with_reducible refine gate_callee (f := 60) rfl ?_); refine goesL_ (some 34) rfl rfl Try.func60 (by kernel_rfl) rfl #[.agg #[.int .i64 ((rd_Maker l0 x7_1).f0), .int .i64 ((rd_Maker l0 x7_1).f1), .int .i64 ((rd_Maker l0 x7_1).f2), .int .i64 ((rd_Maker l0 x7_1).f3), .slice A336_4 ((rd_Maker l0 x7_1).f4).length c336_4]] rfl (qa5_) ?_; (with_reducible refine (spec_l4Copy.calls ((rd_Maker l0 x7_1).f0) ((rd_Maker l0 x7_1).f1) ((rd_Maker l0 x7_1).f2) ((rd_Maker l0 x7_1).f3) _ _ ((rd_Maker l0 x7_1).f4) t339 t340 t341 t342 t343 _ ?side1 ?side2 A9.out).mono ?_); (case side1 => repeat (first | exact (Kd.C_below HR338_4.out HB.out) | (with_reducible refine Kd.C_alloc ?_ _) | (with_reducible refine Kd.C_drewN ?_ _) | (with_reducible refine Kd.C_drew ?_))); (case side2 => exact HC338_4.out); rintro e w10 ⟨v344, rfl, ho0, hb⟩; refine ⟨_, rfl, ?_⟩; have HO345 := Aside0.mk (Kd.R_lower ho0 (below_size (qa6_))); replace BK335 := Aside0.mk (blk_below (g := gb335) (o := .cells #[.int .i64 x336000_1, .int .i64 x336001_1, .int .i64 x336002_1, .int .i64 x336003_1, .slice none 0 0] 38 (0, 0)) (bq_ BK335.out) hb); replace HB := Aside0.mk (below_step (qa6_) hb); (try clear hb); (try clear hb2); (try clear hk); (try clear hi); (try clear ho0); have hcz11_0 : w10.cell? ⟨gb335, 0, none⟩ = some (.int .i64 x336000_1) := bc_ BK335 0; have hcz11_1 : w10.cell? ⟨gb335, 1, none⟩ = some (.int .i64 x336001_1) := bc_ BK335 1; have hcz11_2 : w10.cell? ⟨gb335, 2, none⟩ = some (.int .i64 x336002_1) := bc_ BK335 2; have hcz11_3 : w10.cell? ⟨gb335, 3, none⟩ = some (.int .i64 x336003_1) := bc_ BK335 3; have hcz11_4 : w10.cell? ⟨gb335, 4, none⟩ = some (.slice none 0 0) := bc_ BK335 4; have hfz11_0 := blk_frozen BK335.out 0; have hfz11_1 := blk_frozen BK335.out 1; have hfz11_2 := blk_frozen BK335.out 2; have hfz11_3 := blk_frozen BK335.out 3; have hfz11_4 := blk_frozen BK335.out 4; obtain ⟨Ao12, co12, eo12⟩ := Kd.R_slice HO345.out; subst eo12))
              refine bodyPost_ret (results_cell_row rfl _ _ gb335 38 #[.int .i64 t339, .int .i64 t340, .int .i64 t341, .int .i64 t342, .slice Ao12 t343.length co12] (0, 0) _ rfl (bp_ BK335.out) Try.underlying38 rfl (by kernel_rfl)) rfl ?_
              exact ⟨_, qa4_, by (with_reducible repeat (first | apply Kd.R_alloc | apply Kd.R_drewN | apply Kd.R_drew)); exact Kd.R_mono (Kd.R_far (p := ⟨gb335, 4, none⟩) (Kd.R_far (p := ⟨gb335, 3, none⟩) (Kd.R_far (p := ⟨gb335, 2, none⟩) (Kd.R_far (p := ⟨gb335, 1, none⟩) (Kd.R_far (p := ⟨gb335, 0, none⟩) (Kd.R_types HO345.out BK335.out (by decide)) (fun _ hk => hk.2) (.int .i64 t339)) (fun _ hk => hk.2) (.int .i64 t340)) (fun _ hk => hk.2) (.int .i64 t341)) (fun _ hk => hk.2) (.int .i64 t342)) (fun _ hk => hk.2) (.slice Ao12 t343.length co12)) (fun _ hk => trivial), qa6_⟩
            · rw [if_neg c8] at H
              have c8b0 : (((rd_Maker l0 x7_1).f1) == a2) = false := beq_eq_false_iff_ne.mpr c8
              have c8b1 : (((rd_Maker l0 x7_1).f1) != a2) = true := bne_iff_ne.mpr c8
              have H' := Aside0.mk H
              clear H
              have p336 : 0 ≤ (x7_1 : Int) := of_decide_eq_true dt_
              have q336 : x7_1 < (l0.length : Int) := of_decide_eq_true dt_
              obtain ⟨ad336, A336_4, c336_4, e336, hx336_0, hx336_1, hx336_2, hx336_3, hx336_4, hl336_4, hi336_4⟩ := at_Maker HR0.out x7_1 p336 q336
              cases e336
              replace hx336_0 := hc_ HB hx336_0
              replace hx336_1 := hc_ HB hx336_1
              replace hx336_2 := hc_ HB hx336_2
              replace hx336_3 := hc_ HB hx336_3
              replace hx336_4 := hc_ HB hx336_4
              have HR336_4 := Aside0.mk hi336_4
              have HC336_4 := Aside0.mk hl336_4
              clear hi336_4 hl336_4
              replace p336 := eq_true p336
              replace q336 := eq_true q336
              have p337 : 0 ≤ (x7_1 : Int) := of_decide_eq_true dt_
              have q337 : x7_1 < (l0.length : Int) := of_decide_eq_true dt_
              obtain ⟨ad337, A337_4, c337_4, e337, hx337_0, hx337_1, hx337_2, hx337_3, hx337_4, hl337_4, hi337_4⟩ := at_Maker HR0.out x7_1 p337 q337
              obtain rfl : ad336 = ad337 := (by injection e337)
              replace hx337_0 := hc_ HB hx337_0
              replace hx337_1 := hc_ HB hx337_1
              replace hx337_2 := hc_ HB hx337_2
              replace hx337_3 := hc_ HB hx337_3
              replace hx337_4 := hc_ HB hx337_4
              have HR337_4 := Aside0.mk hi337_4
              have HC337_4 := Aside0.mk hl337_4
              clear hi337_4 hl337_4
              replace p337 := eq_true p337
              replace q337 := eq_true q337
              have ea_ := Option.some.inj (hx336_4.symm.trans hx337_4)
              injection ea_ with ea_ en_ ec_
              subst ea_
              subst ec_
              clear en_
              go_wp2
              go_roundg k1
              case measure => have := HK1.out; omega
              case rel => exact ⟨(wrap64 (x7_1 + 1)), (x336000_1), (x336001_1), (x336002_1), (x336003_1), (qa3_), H', ⟨by have := HK1.out; omega⟩, ⟨bq_ BK335.out⟩, ⟨qa6_⟩⟩
          · rw [if_neg c7] at H
            have c7b0 : (((rd_Maker l0 x7_1).f0) == a1) = false := beq_eq_false_iff_ne.mpr c7
            have c7b1 : (((rd_Maker l0 x7_1).f0) != a1) = true := bne_iff_ne.mpr c7
            have H' := Aside0.mk H
            clear H
            have p336 : 0 ≤ (x7_1 : Int) := of_decide_eq_true dt_
            have q336 : x7_1 < (l0.length : Int) := of_decide_eq_true dt_
            obtain ⟨ad336, A336_4, c336_4, e336, hx336_0, hx336_1, hx336_2, hx336_3, hx336_4, hl336_4, hi336_4⟩ := at_Maker HR0.out x7_1 p336 q336
            cases e336
            replace hx336_0 := hc_ HB hx336_0
            replace hx336_1 := hc_ HB hx336_1
            replace hx336_2 := hc_ HB hx336_2
            replace hx336_3 := hc_ HB hx336_3
            replace hx336_4 := hc_ HB hx336_4
            have HR336_4 := Aside0.mk hi336_4
            have HC336_4 := Aside0.mk hl336_4
            clear hi336_4 hl336_4
            replace p336 := eq_true p336
            replace q336 := eq_true q336
            go_wp2
            go_roundg k1
            case measure => have := HK1.out; omega
            case rel => exact ⟨(wrap64 (x7_1 + 1)), (x336000_1), (x336001_1), (x336002_1), (x336003_1), (qa3_), H', ⟨by have := HK1.out; omega⟩, ⟨bq_ BK335.out⟩, ⟨qa6_⟩⟩
        · rw [if_neg c6] at H
          exact absurd H (by simp)
      · rw [if_neg c5] at H
        have c5b0 : decide (x7_1 < (l0.length : Int)) = false := decide_eq_false c5
        clear c5
        simp only [Option.some.injEq, Prod.mk.injEq] at H
        obtain ⟨rfl, rfl, rfl, rfl, rfl⟩ := H
        have hcz13_0 : wr.cell? ⟨gb335, 0, none⟩ = some (.int .i64 x336000_1) := bc_ BK335 0
        have hcz13_1 : wr.cell? ⟨gb335, 1, none⟩ = some (.int .i64 x336001_1) := bc_ BK335 1
        have hcz13_2 : wr.cell? ⟨gb335, 2, none⟩ = some (.int .i64 x336002_1) := bc_ BK335 2
        have hcz13_3 : wr.cell? ⟨gb335, 3, none⟩ = some (.int .i64 x336003_1) := bc_ BK335 3
        have hcz13_4 : wr.cell? ⟨gb335, 4, none⟩ = some (.slice none 0 0) := bc_ BK335 4
        have hfz13_0 := blk_frozen BK335.out 0
        have hfz13_1 := blk_frozen BK335.out 1
        have hfz13_2 := blk_frozen BK335.out 2
        have hfz13_3 := blk_frozen BK335.out 3
        have hfz13_4 := blk_frozen BK335.out 4
        go_wp2
        refine bodyPost_ret (results_cell_row rfl _ _ gb335 38 #[.int .i64 a1, .int .i64 a2, .int .i64 0, .int .i64 (-1), .slice none 0 0] (0, 0) _ rfl (bp_ BK335.out) Try.underlying38 rfl (by kernel_rfl)) rfl ?_
        exact ⟨_, qa4_, qa21_, qa6_⟩

/-! ### impl_copyMaker: function 61 -/
def impl_copyMaker.f (a0_0 : Int) (a0_1 : Int) (a0_2 : Int) (a0_3 : Int) (l0_4 : List (S_Mark)) : Option (Int × Int × Int × Int × (List (S_Mark))) := if ([] : List (S_Mark)).length + l0_4.length < 8796093022208 then (some (a0_0, a0_1, a0_2, a0_3, (([] : List (S_Mark)) ++ l0_4))) else (none)
set_option maxHeartbeats 8000000 in
set_option maxRecDepth 100000 in
theorem impl_copyMaker.calls (a0_0 : Int) (a0_1 : Int) (a0_2 : Int) (a0_3 : Int) (A0_4 : Option Addr) (c0_4 : Nat) (l0_4 : List (S_Mark)) (r1 : Int) (r2 : Int) (r3 : Int) (r4 : Int) (r5 : List (S_Mark)) (w : World) (hr0_4 : Kd.C k_Mark w A0_4 l0_4.length l0_4) (hc0_4 : l0_4.length ≤ c0_4) (h : impl_copyMaker.f a0_0 a0_1 a0_2 a0_3 l0_4 = some (r1, r2, r3, r4, r5)) :
    Calls Try.prog 61 #[.agg #[.int .i64 a0_0, .int .i64 a0_1, .int .i64 a0_2, .int .i64 a0_3, .slice A0_4 l0_4.length c0_4]] w fun e w' => ∃ v4_ : Value, e = .returned (.agg #[.int .i64 r1, .int .i64 r2, .int .i64 r3, .int .i64 r4, v4_]) ∧ Kd.R k_Mark 110 w' w.heap.size (fun _ => True) v4_ r5 ∧ Below w.heap.size w w' := by
  have hu38 := Try.underlying38
  have HR0_4 := Aside0.mk hr0_4
  have HC0_4 := Aside0.mk hc0_4
  clear hr0_4 hc0_4
  have HB := Aside0.mk (Below.refl w.heap.size w)
  have H : (if ([] : List (S_Mark)).length + l0_4.length < 8796093022208 then (some (a0_0, a0_1, a0_2, a0_3, (([] : List (S_Mark)) ++ l0_4))) else (none)) = some (r1, r2, r3, r4, r5) := h
  clear h
  by_cases c2 : ([] : List (S_Mark)).length + l0_4.length < 8796093022208
  · rw [if_pos c2] at H
    have LMc2 := Aside0.mk c2
    clear c2
    obtain ⟨y376, hy376⟩ : ∃ y_ : List (S_Mark), y_ = (([] : List (S_Mark)) ++ l0_4) := ⟨_, rfl⟩
    replace H : (some (a0_0, a0_1, a0_2, a0_3, y376)) = some (r1, r2, r3, r4, r5) := by first | (rw [hy376]; with_reducible exact H) | (have H2_ := (Option.bind_some _ _).symm.trans H; rw [hy376]; with_reducible exact H2_) | (have H2_ := (Option.bind_some _ _).symm.trans H; with_reducible exact H2_) | with_reducible exact H | (rw [hy376]; exact H) | exact H
    have Ny376 := Aside0.mk hy376
    clear hy376
    simp only [Option.some.injEq, Prod.mk.injEq] at H
    obtain ⟨rfl, rfl, rfl, rfl, rfl⟩ := H
    go_enter Try.func61, Try.ntmps61
    go_wp2_with (first | ((with_reducible refine gate_dst (N := 1) rfl ?_); refine box_event ?hg (N := 1) ?hd (cs := #[.int .i64 a0_0, .int .i64 a0_1, .int .i64 a0_2, .int .i64 a0_3, .slice A0_4 l0_4.length c0_4]) (t := 38) ?hr ?_; (case hd => rfl); (case hg => rfl); (case hr => first | (go_simp; done) | (go_simp; rfl)); intro gb374 hg w3 hbox hb; have BK374 := Aside0.mk (hbox); have GW374 := Aside0.mk ((by rw [hg]; exact (below_size (qa0_)) : w.heap.size ≤ gb374)); have GE374 := Aside0.mk ((by rw [hg]; exact (below_size (qa0_)) : w.heap.size ≤ gb374)); replace HB := Aside0.mk (below_step (qa0_) hb); clear hb hbox hg) | ((with_reducible refine gate_dst (N := 2) rfl ?_); refine box_event ?hg (N := 2) ?hd (cs := #[.int .i64 0, .int .i64 0, .int .i64 0, .int .i64 0, .slice none 0 0]) (t := 38) ?hr ?_; (case hd => rfl); (case hg => rfl); (case hr => first | (go_simp; done) | (go_simp; rfl)); intro gb375 hg w4 hbox hb; have BK375 := Aside0.mk (hbox); have GW375 := Aside0.mk ((by rw [hg]; exact (below_size (qa17_)) : w.heap.size ≤ gb375)); have GE375 := Aside0.mk ((by rw [hg]; exact (below_size (qa17_)) : w.heap.size ≤ gb375)); have NB374_375 := Aside0.mk ((by rw [hg]; exact Nat.ne_of_lt (blk_lt (g := gb374) (o := .cells #[.int .i64 a0_0, .int .i64 a0_1, .int .i64 a0_2, .int .i64 a0_3, .slice A0_4 l0_4.length c0_4] 38 (0, 0)) (bq_ BK374.out)) : gb374 ≠ gb375)); have NB375_374 := Aside0.mk ((by rw [hg]; exact Nat.ne_of_gt (blk_lt (g := gb374) (o := .cells #[.int .i64 a0_0, .int .i64 a0_1, .int .i64 a0_2, .int .i64 a0_3, .slice A0_4 l0_4.length c0_4] 38 (0, 0)) (bq_ BK374.out)) : gb375 ≠ gb374)); replace BK374 := Aside0.mk (blk_below (g := gb374) (o := .cells #[.int .i64 a0_0, .int .i64 a0_1, .int .i64 a0_2, .int .i64 a0_3, .slice A0_4 l0_4.length c0_4] 38 (0, 0)) (bq_ BK374.out) hb); replace HB := Aside0.mk (below_step (qa17_) hb); clear hb hbox hg; have hnb5 := NB374_375.out; have hnc5 := NB375_374.out; have hcz6_0 : w4.cell? ⟨gb374, 0, none⟩ = some (.int .i64 a0_0) := bc_ BK374 0; have hcz6_1 : w4.cell? ⟨gb374, 1, none⟩ = some (.int .i64 a0_1) := bc_ BK374 1; have hcz6_2 : w4.cell? ⟨gb374, 2, none⟩ = some (.int .i64 a0_2) := bc_ BK374 2; have hcz6_3 : w4.cell? ⟨gb374, 3, none⟩ = some (.int .i64 a0_3) := bc_ BK374 3; have hcz6_4 : w4.cell? ⟨gb374, 4, none⟩ = some (.slice A0_4 l0_4.length c0_4) := bc_ BK374 4; have hfz6_0 := blk_frozen BK374.out 0; have hfz6_1 := blk_frozen BK374.out 1; have hfz6_2 := blk_frozen BK374.out 2; have hfz6_3 := blk_frozen BK374.out 3; have hfz6_4 := blk_frozen BK374.out 4) | ((with_reducible refine gate_builtin (b := .append) (xs := #[.const (.slice none 0 0), .tmp 4]) rfl ?_); at_builtin; refine Kd.R_append_rows k_Mark (w0 := w) w.heap.size rfl (.const (.slice none 0 0)) (.tmp 4) 36 110 (.agg #[(.int .i64 0), (.int .i64 0)]) 16 rfl Try.underlying36 info110 rfl (by decide) (by omega) (.slice none 0 0) ([] : List (S_Mark)) l0_4 _ _ _ (fun _ => True) (fun _ => False) rfl rfl ?aO ?aR (fun _ _ h => h) (fun _ h => h.elim) ?aF ?aB ?aS ?aL ?_; (case aR => repeat (first | exact (Kd.C_below HR0_4.out HB.out) | (with_reducible refine Kd.C_alloc ?_ _) | (with_reducible refine Kd.C_drewN ?_ _) | (with_reducible refine Kd.C_drew ?_))); (case aB => exact (qa15_)); (case aF => exact (fun _ _ => trivial)); (case aO => exact ((Kd.R_nil _ _ _ _ (fun _ => True)))); (case aS => exact (below_size (qa15_))); (case aL => have := LMc2.out; omega); intro v377 w7 ho hb hg hat; rw [← Ny376.out] at ho; have HO378 := Aside0.mk (ho); replace BK374 := Aside0.mk (blk_grown (g := gb374) (o := .cells #[.int .i64 a0_0, .int .i64 a0_1, .int .i64 a0_2, .int .i64 a0_3, .slice A0_4 l0_4.length c0_4] 38 (0, 0)) (bq_ BK374.out) hg (by simp [Value.ownBlock])); replace BK375 := Aside0.mk (blk_grown (g := gb375) (o := .cells #[.int .i64 0, .int .i64 0, .int .i64 0, .int .i64 0, .slice none 0 0] 38 (0, 0)) (bq_ BK375.out) hg (by simp [Value.ownBlock])); replace HB := Aside0.mk (hb); clear ho hb hg hat; obtain ⟨Ao8, co8, eo8⟩ := Kd.R_slice HO378.out; subst eo8; have hcz9_0 : w7.cell? ⟨gb374, 0, none⟩ = some (.int .i64 a0_0) := bc_ BK374 0; have hcz9_1 : w7.cell? ⟨gb374, 1, none⟩ = some (.int .i64 a0_1) := bc_ BK374 1; have hcz9_2 : w7.cell? ⟨gb374, 2, none⟩ = some (.int .i64 a0_2) := bc_ BK374 2; have hcz9_3 : w7.cell? ⟨gb374, 3, none⟩ = some (.int .i64 a0_3) := bc_ BK374 3; have hcz9_4 : w7.cell? ⟨gb374, 4, none⟩ = some (.slice A0_4 l0_4.length c0_4) := bc_ BK374 4; have hfz9_0 := blk_frozen BK374.out 0; have hfz9_1 := blk_frozen BK374.out 1; have hfz9_2 := blk_frozen BK374.out 2; have hfz9_3 := blk_frozen BK374.out 3; have hfz9_4 := blk_frozen BK374.out 4; have hcz10_0 : w7.cell? ⟨gb375, 0, none⟩ = some (.int .i64 0) := bc_ BK375 0; have hcz10_1 : w7.cell? ⟨gb375, 1, none⟩ = some (.int .i64 0) := bc_ BK375 1; have hcz10_2 : w7.cell? ⟨gb375, 2, none⟩ = some (.int .i64 0) := bc_ BK375 2; have hcz10_3 : w7.cell? ⟨gb375, 3, none⟩ = some (.int .i64 0) := bc_ BK375 3; have hcz10_4 : w7.cell? ⟨gb375, 4, none⟩ = some (.slice none 0 0) := bc_ BK375 4; have hfz10_0 := blk_frozen BK375.out 0; have hfz10_1 := blk_frozen BK375.out 1; have hfz10_2 := blk_frozen BK375.out 2; have hfz10_3 := blk_frozen BK375.out 3; have hfz10_4 := blk_frozen BK375.out 4))
    refine bodyPost_ret (results_cell_row rfl _ _ gb375 38 #[.int .i64 a0_0, .int .i64 a0_1, .int .i64 a0_2, .int .i64 a0_3, .slice Ao8 y376.length co8] (0, 0) _ rfl (by_ BK375.out) Try.underlying38 rfl (by kernel_rfl)) rfl ?_
    exact ⟨_, qa4_, by (with_reducible repeat (first | apply Kd.R_alloc | apply Kd.R_drewN | apply Kd.R_drew)); exact Kd.R_mono (Kd.R_far (p := ⟨gb375, 4, none⟩) (Kd.R_far (p := ⟨gb375, 3, none⟩) (Kd.R_far (p := ⟨gb375, 2, none⟩) (Kd.R_far (p := ⟨gb375, 1, none⟩) (Kd.R_far (p := ⟨gb375, 0, none⟩) (Kd.R_far (p := ⟨gb374, 4, none⟩) (Kd.R_types (Kd.R_types HO378.out BK374.out (by decide)) BK375.out (by decide)) (fun _ hk => hk.1.2) (.slice Ao8 y376.length co8)) (fun _ hk => hk.2) (.int .i64 a0_0)) (fun _ hk => hk.2) (.int .i64 a0_1)) (fun _ hk => hk.2) (.int .i64 a0_2)) (fun _ hk => hk.2) (.int .i64 a0_3)) (fun _ hk => hk.2) (.slice Ao8 y376.length co8)) (fun _ hk => trivial), qa15_⟩
  · rw [if_neg c2] at H
    exact absurd H (by simp)

/-! ### impl_MakerOf: function 18 -/
def impl_MakerOf.l0 : Nat → Int → Int → List (S_Maker) → Int → Int → Option (Int × Int × Int × Int × (List (S_Mark)))
  | 0, _, _, _, _, _ => none
  | k + 1, x1, x2, x9, x10, x11 => if x11 < x10 then (if 0 ≤ x11 then (if x11 < (x9.length : Int) then (if ((rd_Maker x9 x11).f0) = x1 then (if ((rd_Maker x9 x11).f1) = x2 then ((impl_copyMaker.f ((rd_Maker x9 x11).f0) ((rd_Maker x9 x11).f1) ((rd_Maker x9 x11).f2) ((rd_Maker x9 x11).f3) ((rd_Maker x9 x11).f4)).bind fun bt382 => (some (bt382.1, bt382.2.1, bt382.2.2.1, bt382.2.2.2.1, bt382.2.2.2.2))) else (impl_MakerOf.l0 k x1 x2 x9 x10 (wrap64 (x11 + 1)))) else (impl_MakerOf.l0 k x1 x2 x9 x10 (wrap64 (x11 + 1)))) else (none)) else (none)) else (some (x1, x2, 0, (-1), ([] : List (S_Mark))))
def impl_MakerOf.f (k : Nat) (l0 : List (S_Maker)) (a1 : Int) (a2 : Int) : Option (Int × Int × Int × Int × (List (S_Mark))) := impl_MakerOf.l0 k a1 a2 l0 (l0.length : Int) 0
theorem impl_MakerOf.mono_l : ∀ k, (∀ y0 y1 y2 y3 y4, LeO (impl_MakerOf.l0 k y0 y1 y2 y3 y4) (impl_MakerOf.l0 (k + 1) y0 y1 y2 y3 y4))
  | 0 => fun _ _ _ _ _ r h => by simp [impl_MakerOf.l0] at h
  | k + 1 => by
    have ih0 := impl_MakerOf.mono_l k
    · intro y0 y1 y2 y3 y4
      unfold impl_MakerOf.l0
      exact qah1_
theorem impl_MakerOf.mono : ∀ a0 a1 a2 k, LeO (impl_MakerOf.f k a0 a1 a2) (impl_MakerOf.f (k + 1) a0 a1 a2) := by
  intro a0 a1 a2 k
  have ih0 := impl_MakerOf.mono_l k
  unfold impl_MakerOf.f
  exact qah1_
set_option maxHeartbeats 8000000 in
set_option maxRecDepth 100000 in
theorem impl_MakerOf.calls (k : Nat) (A0 : Option Addr) (c0 : Nat) (l0 : List (S_Maker)) (a1 : Int) (a2 : Int) (r1 : Int) (r2 : Int) (r3 : Int) (r4 : Int) (r5 : List (S_Mark)) (w : World) (hr0 : Kd.C k_Maker w A0 l0.length l0) (hc0 : l0.length ≤ c0) (h : impl_MakerOf.f k l0 a1 a2 = some (r1, r2, r3, r4, r5)) :
    Calls Try.prog 18 #[.slice A0 l0.length c0, .int .i64 a1, .int .i64 a2] w fun e w' => ∃ v4_ : Value, e = .returned (.agg #[.int .i64 r1, .int .i64 r2, .int .i64 r3, .int .i64 r4, v4_]) ∧ Kd.R k_Mark 110 w' w.heap.size (fun _ => True) v4_ r5 ∧ Below w.heap.size w w' := by
  have hu38 := Try.underlying38
  have HR0 := Aside0.mk hr0
  have HC0 := Aside0.mk hc0
  clear hr0 hc0
  have HB := Aside0.mk (Below.refl w.heap.size w)
  have H : (impl_MakerOf.l0 k a1 a2 l0 (l0.length : Int) 0) = some (r1, r2, r3, r4, r5) := h
  clear h
  have H' := Aside0.mk H
  clear H
  go_enter Try.func18, Try.ntmps18
  go_wp2_with (first | ((with_reducible refine gate_dst (N := 6) rfl ?_); refine box_event ?hg (N := 6) ?hd (cs := #[.int .i64 0, .int .i64 0, .int .i64 0, .int .i64 0, .slice none 0 0]) (t := 38) ?hr ?_; (case hd => rfl); (case hg => rfl); (case hr => first | (go_simp; done) | (go_simp; rfl)); intro gb379 hg w4 hbox hb; have BK379 := Aside0.mk (hbox); have GW379 := Aside0.mk ((by rw [hg]; exact (below_size (qa0_)) : w.heap.size ≤ gb379)); have GE379 := Aside0.mk ((by rw [hg]; exact (below_size (qa0_)) : w.heap.size ≤ gb379)); replace HB := Aside0.mk (below_step (qa0_) hb); clear hb hbox hg))
  go_loopg [11] k (fun kq v11 w' => ∃ (x11_1 : Int) (x380000_1 : Int) (x380001_1 : Int) (x380002_1 : Int) (x380003_1 : Int), v11 = .int .i64 x11_1 ∧ Aside0 (impl_MakerOf.l0 kq a1 a2 l0 (l0.length : Int) x11_1 = some (r1, r2, r3, r4, r5)) ∧ Aside0 (kq ≤ k) ∧ Aside0 (w'.heap[gb379]? = some (.cells #[.int .i64 x380000_1, .int .i64 x380001_1, .int .i64 x380002_1, .int .i64 x380003_1, (.slice none 0 0)] 38 (0, 0))) ∧ Aside0 (Below w.heap.size w w'))
  case atStart => exact ⟨(0), (0), (0), (0), (0), (qa3_), H', ⟨Nat.le_refl _⟩, ⟨bq_ BK379.out⟩, ⟨qa1_⟩⟩
  case round =>
    clear H'
    try clear c1
    try clear p2
    obtain ⟨x11_1, x380000_1, x380001_1, x380002_1, x380003_1, rfl, HA, HK1, BK379, HB⟩ := hrel
    cases gk with
    | zero => exact absurd HA.out (by simp [impl_MakerOf.l0])
    | succ k1 =>
      have H := HA.out
      clear HA
      simp only [impl_MakerOf.l0] at H
      by_cases c5 : x11_1 < (l0.length : Int)
      · rw [if_pos c5] at H
        have c5b0 : decide (x11_1 < (l0.length : Int)) = true := decide_eq_true c5
        clear c5
        by_cases c6 : 0 ≤ x11_1
        · rw [if_pos c6] at H
          have c6b0 : decide (0 ≤ x11_1) = true := decide_eq_true c6
          clear c6
          by_cases c7 : x11_1 < (l0.length : Int)
          · rw [if_pos c7] at H
            have c7b0 : decide (x11_1 < (l0.length : Int)) = true := decide_eq_true c7
            clear c7
            by_cases c8 : ((rd_Maker l0 x11_1).f0) = a1
            · rw [if_pos c8] at H
              have c8b0 : (((rd_Maker l0 x11_1).f0) == a1) = true := beq_iff_eq.mpr c8
              have c8b1 : (((rd_Maker l0 x11_1).f0) != a1) = false := bne_eq_false_iff_eq.mpr c8
              clear c8
              by_cases c9 : ((rd_Maker l0 x11_1).f1) = a2
              · rw [if_pos c9] at H
                have c9b0 : (((rd_Maker l0 x11_1).f1) == a2) = true := beq_iff_eq.mpr c9
                have c9b1 : (((rd_Maker l0 x11_1).f1) != a2) = false := bne_eq_false_iff_eq.mpr c9
                clear c9
                replace H := Option.bind_eq_some_iff.mp H
                obtain ⟨⟨t382, t383, t384, t385, t386⟩, A100, H⟩ := H
                replace H : (some (t382, t383, t384, t385, t386)) = some (r1, r2, r3, r4, r5) := H
                have A10 := Aside0.mk A100
                clear A100
                simp only [Option.some.injEq, Prod.mk.injEq] at H
                obtain ⟨rfl, rfl, rfl, rfl, rfl⟩ := H
                have p380 : 0 ≤ (x11_1 : Int) := of_decide_eq_true dt_
                have q380 : x11_1 < (l0.length : Int) := of_decide_eq_true dt_
                obtain ⟨ad380, A380_4, c380_4, e380, hx380_0, hx380_1, hx380_2, hx380_3, hx380_4, hl380_4, hi380_4⟩ := at_Maker HR0.out x11_1 p380 q380
                cases e380
                replace hx380_0 := hc_ HB hx380_0
                replace hx380_1 := hc_ HB hx380_1
                replace hx380_2 := hc_ HB hx380_2
                replace hx380_3 := hc_ HB hx380_3
                replace hx380_4 := hc_ HB hx380_4
                have HR380_4 := Aside0.mk hi380_4
                have HC380_4 := Aside0.mk hl380_4
                clear hi380_4 hl380_4
                replace p380 := eq_true p380
                replace q380 := eq_true q380
                go_wp2_with (first | ((with_reducible refine gate_dst (N := 8) rfl ?_); refine box_event ?hg (N := 8) ?hd (cs := #[.int .i64 0, .int .i64 0, .int .i64 0, .int .i64 0, .slice none 0 0]) (t := 38) ?hr ?_; (case hd => rfl); (case hg => rfl); (case hr => first | (go_simp; done) | (go_simp; rfl)); intro gb381 hg w11 hbox hb; have BK381 := Aside0.mk (hbox); have GW381 := Aside0.mk ((by rw [hg]; exact (below_size (qa1_)) : w.heap.size ≤ gb381)); have GE381 := Aside0.mk ((by rw [hg]; exact (below_size (qa1_)) : w.heap.size ≤ gb381)); have NB379_381 := Aside0.mk ((by rw [hg]; exact Nat.ne_of_lt (blk_lt (g := gb379) (o := .cells #[.int .i64 x380000_1, .int .i64 x380001_1, .int .i64 x380002_1, .int .i64 x380003_1, .slice none 0 0] 38 (0, 0)) (bq_ BK379.out)) : gb379 ≠ gb381)); have NB381_379 := Aside0.mk ((by rw [hg]; exact Nat.ne_of_gt (blk_lt (g := gb379) (o := .cells #[.int .i64 x380000_1, .int .i64 x380001_1, .int .i64 x380002_1, .int .i64 x380003_1, .slice none 0 0] 38 (0, 0)) (bq_ BK379.out)) : gb381 ≠ gb379)); replace BK379 := Aside0.mk (blk_below (g := gb379) (o := .cells #[.int .i64 x380000_1, .int .i64 x380001_1, .int .i64 x380002_1, .int .i64 x380003_1, .slice none 0 0] 38 (0, 0)) (bq_ BK379.out) hb); replace HB := Aside0.mk (below_step (qa1_) hb); clear hb hbox hg; have hnb12 := NB381_379.out; have hnc12 := NB379_381.out; have hcz13_0 : w11.cell? ⟨gb381, 0, none⟩ = some (.int .i64 0) := bc_ BK381 0; have hcz13_1 : w11.cell? ⟨gb381, 1, none⟩ = some (.int .i64 0) := bc_ BK381 1; have hcz13_2 : w11.cell? ⟨gb381, 2, none⟩ = some (.int .i64 0) := bc_ BK381 2; have hcz13_3 : w11.cell? ⟨gb381, 3, none⟩ = some (.int .i64 0) := bc_ BK381 3; have hcz13_4 : w11.cell? ⟨gb381, 4, none⟩ = some (.slice none 0 0) := bc_ BK381 4; have hfz13_0 := blk_frozen BK381.out 0; have hfz13_1 := blk_frozen BK381.out 1; have hfz13_2 := blk_frozen BK381.out 2; have hfz13_3 := blk_frozen BK381.out 3; have hfz13_4 := blk_frozen BK381.out 4) | ((with_reducible refine gate_callee (f := 61) rfl ?_); refine goesL_ (some 26) rfl rfl Try.func61 (by kernel_rfl) rfl #[.agg #[.int .i64 ((rd_Maker l0 x11_1).f0), .int .i64 ((rd_Maker l0 x11_1).f1), .int .i64 ((rd_Maker l0 x11_1).f2), .int .i64 ((rd_Maker l0 x11_1).f3), .slice A380_4 ((rd_Maker l0 x11_1).f4).length c380_4]] rfl (qa5_) ?_; (with_reducible refine (impl_copyMaker.calls ((rd_Maker l0 x11_1).f0) ((rd_Maker l0 x11_1).f1) ((rd_Maker l0 x11_1).f2) ((rd_Maker l0 x11_1).f3) _ _ ((rd_Maker l0 x11_1).f4) t382 t383 t384 t385 t386 _ ?side1 ?side2 A10.out).mono ?_); (case side1 => exact Kd.C_below HR380_4.out (qa7_)); (case side2 => exact HC380_4.out); rintro e w14 ⟨v387, rfl, ho0, hb⟩; refine ⟨_, rfl, ?_⟩; have HO388 := Aside0.mk (Kd.R_lower ho0 (below_size (qa7_))); replace BK379 := Aside0.mk (blk_below (g := gb379) (o := .cells #[.int .i64 x380000_1, .int .i64 x380001_1, .int .i64 x380002_1, .int .i64 x380003_1, .slice none 0 0] 38 (0, 0)) (bf_ NB379_381.out BK379.out) hb); replace BK381 := Aside0.mk (blk_below (g := gb381) (o := .cells #[.int .i64 ((rd_Maker l0 x11_1).f0), .int .i64 ((rd_Maker l0 x11_1).f1), .int .i64 ((rd_Maker l0 x11_1).f2), .int .i64 ((rd_Maker l0 x11_1).f3), .slice A380_4 ((rd_Maker l0 x11_1).f4).length c380_4] 38 (0, 0)) (bp_ BK381.out) hb); replace HB := Aside0.mk (below_step (qa7_) hb); (try clear hb); (try clear hb2); (try clear hk); (try clear hi); (try clear ho0); have hcz15_0 : w14.cell? ⟨gb379, 0, none⟩ = some (.int .i64 x380000_1) := bc_ BK379 0; have hcz15_1 : w14.cell? ⟨gb379, 1, none⟩ = some (.int .i64 x380001_1) := bc_ BK379 1; have hcz15_2 : w14.cell? ⟨gb379, 2, none⟩ = some (.int .i64 x380002_1) := bc_ BK379 2; have hcz15_3 : w14.cell? ⟨gb379, 3, none⟩ = some (.int .i64 x380003_1) := bc_ BK379 3; have hcz15_4 : w14.cell? ⟨gb379, 4, none⟩ = some (.slice none 0 0) := bc_ BK379 4; have hfz15_0 := blk_frozen BK379.out 0; have hfz15_1 := blk_frozen BK379.out 1; have hfz15_2 := blk_frozen BK379.out 2; have hfz15_3 := blk_frozen BK379.out 3; have hfz15_4 := blk_frozen BK379.out 4; obtain ⟨Ao16, co16, eo16⟩ := Kd.R_slice HO388.out; subst eo16))
                refine bodyPost_ret (results_cell_row rfl _ _ gb379 38 #[.int .i64 t382, .int .i64 t383, .int .i64 t384, .int .i64 t385, .slice Ao16 t386.length co16] (0, 0) _ rfl (bp_ BK379.out) Try.underlying38 rfl (by kernel_rfl)) rfl ?_
                exact ⟨_, qa4_, by (with_reducible repeat (first | apply Kd.R_alloc | apply Kd.R_drewN | apply Kd.R_drew)); exact Kd.R_mono (Kd.R_far (p := ⟨gb379, 4, none⟩) (Kd.R_far (p := ⟨gb379, 3, none⟩) (Kd.R_far (p := ⟨gb379, 2, none⟩) (Kd.R_far (p := ⟨gb379, 1, none⟩) (Kd.R_far (p := ⟨gb379, 0, none⟩) (Kd.R_types HO388.out BK379.out (by decide)) (fun _ hk => hk.2) (.int .i64 t382)) (fun _ hk => hk.2) (.int .i64 t383)) (fun _ hk => hk.2) (.int .i64 t384)) (fun _ hk => hk.2) (.int .i64 t385)) (fun _ hk => hk.2) (.slice Ao16 t386.length co16)) (fun _ hk => trivial), qa7_⟩
              · rw [if_neg c9] at H
                have c9b0 : (((rd_Maker l0 x11_1).f1) == a2) = false := beq_eq_false_iff_ne.mpr c9
                have c9b1 : (((rd_Maker l0 x11_1).f1) != a2) = true := bne_iff_ne.mpr c9
                have H' := Aside0.mk H
                clear H
                have p380 : 0 ≤ (x11_1 : Int) := of_decide_eq_true dt_
                have q380 : x11_1 < (l0.length : Int) := of_decide_eq_true dt_
                obtain ⟨ad380, A380_4, c380_4, e380, hx380_0, hx380_1, hx380_2, hx380_3, hx380_4, hl380_4, hi380_4⟩ := at_Maker HR0.out x11_1 p380 q380
                cases e380
                replace hx380_0 := hc_ HB hx380_0
                replace hx380_1 := hc_ HB hx380_1
                replace hx380_2 := hc_ HB hx380_2
                replace hx380_3 := hc_ HB hx380_3
                replace hx380_4 := hc_ HB hx380_4
                have HR380_4 := Aside0.mk hi380_4
                have HC380_4 := Aside0.mk hl380_4
                clear hi380_4 hl380_4
                replace p380 := eq_true p380
                replace q380 := eq_true q380
                go_wp2_with (first | ((with_reducible refine gate_dst (N := 8) rfl ?_); refine box_event ?hg (N := 8) ?hd (cs := #[.int .i64 0, .int .i64 0, .int .i64 0, .int .i64 0, .slice none 0 0]) (t := 38) ?hr ?_; (case hd => rfl); (case hg => rfl); (case hr => first | (go_simp; done) | (go_simp; rfl)); intro gb381 hg w17 hbox hb; have BK381 := Aside0.mk (hbox); have GW381 := Aside0.mk ((by rw [hg]; exact (below_size (qa1_)) : w.heap.size ≤ gb381)); have GE381 := Aside0.mk ((by rw [hg]; exact (below_size (qa1_)) : w.heap.size ≤ gb381)); have NB379_381 := Aside0.mk ((by rw [hg]; exact Nat.ne_of_lt (blk_lt (g := gb379) (o := .cells #[.int .i64 x380000_1, .int .i64 x380001_1, .int .i64 x380002_1, .int .i64 x380003_1, .slice none 0 0] 38 (0, 0)) (bq_ BK379.out)) : gb379 ≠ gb381)); have NB381_379 := Aside0.mk ((by rw [hg]; exact Nat.ne_of_gt (blk_lt (g := gb379) (o := .cells #[.int .i64 x380000_1, .int .i64 x380001_1, .int .i64 x380002_1, .int .i64 x380003_1, .slice none 0 0] 38 (0, 0)) (bq_ BK379.out)) : gb381 ≠ gb379)); replace BK379 := Aside0.mk (blk_below (g := gb379) (o := .cells #[.int .i64 x380000_1, .int .i64 x380001_1, .int .i64 x380002_1, .int .i64 x380003_1, .slice none 0 0] 38 (0, 0)) (bq_ BK379.out) hb); replace HB := Aside0.mk (below_step (qa1_) hb); clear hb hbox hg; have hnb18 := NB381_379.out; have hnc18 := NB379_381.out; have hcz19_0 : w17.cell? ⟨gb381, 0, none⟩ = some (.int .i64 0) := bc_ BK381 0; have hcz19_1 : w17.cell? ⟨gb381, 1, none⟩ = some (.int .i64 0) := bc_ BK381 1; have hcz19_2 : w17.cell? ⟨gb381, 2, none⟩ = some (.int .i64 0) := bc_ BK381 2; have hcz19_3 : w17.cell? ⟨gb381, 3, none⟩ = some (.int .i64 0) := bc_ BK381 3; have hcz19_4 : w17.cell? ⟨gb381, 4, none⟩ = some (.slice none 0 0) := bc_ BK381 4; have hfz19_0 := blk_frozen BK381.out 0; have hfz19_1 := blk_frozen BK381.out 1; have hfz19_2 := blk_frozen BK381.out 2; have hfz19_3 := blk_frozen BK381.out 3; have hfz19_4 := blk_frozen BK381.out 4))
                go_roundg k1
                case measure => have := HK1.out; omega
                case rel => exact ⟨(wrap64 (x11_1 + 1)), (x380000_1), (x380001_1), (x380002_1), (x380003_1), (qa3_), H', ⟨by have := HK1.out; omega⟩, ⟨bf_ NB379_381.out BK379.out⟩, ⟨qa7_⟩⟩
            · rw [if_neg c8] at H
              have c8b0 : (((rd_Maker l0 x11_1).f0) == a1) = false := beq_eq_false_iff_ne.mpr c8
              have c8b1 : (((rd_Maker l0 x11_1).f0) != a1) = true := bne_iff_ne.mpr c8
              have H' := Aside0.mk H
              clear H
              have p380 : 0 ≤ (x11_1 : Int) := of_decide_eq_true dt_
              have q380 : x11_1 < (l0.length : Int) := of_decide_eq_true dt_
              obtain ⟨ad380, A380_4, c380_4, e380, hx380_0, hx380_1, hx380_2, hx380_3, hx380_4, hl380_4, hi380_4⟩ := at_Maker HR0.out x11_1 p380 q380
              cases e380
              replace hx380_0 := hc_ HB hx380_0
              replace hx380_1 := hc_ HB hx380_1
              replace hx380_2 := hc_ HB hx380_2
              replace hx380_3 := hc_ HB hx380_3
              replace hx380_4 := hc_ HB hx380_4
              have HR380_4 := Aside0.mk hi380_4
              have HC380_4 := Aside0.mk hl380_4
              clear hi380_4 hl380_4
              replace p380 := eq_true p380
              replace q380 := eq_true q380
              go_wp2_with (first | ((with_reducible refine gate_dst (N := 8) rfl ?_); refine box_event ?hg (N := 8) ?hd (cs := #[.int .i64 0, .int .i64 0, .int .i64 0, .int .i64 0, .slice none 0 0]) (t := 38) ?hr ?_; (case hd => rfl); (case hg => rfl); (case hr => first | (go_simp; done) | (go_simp; rfl)); intro gb381 hg w20 hbox hb; have BK381 := Aside0.mk (hbox); have GW381 := Aside0.mk ((by rw [hg]; exact (below_size (qa1_)) : w.heap.size ≤ gb381)); have GE381 := Aside0.mk ((by rw [hg]; exact (below_size (qa1_)) : w.heap.size ≤ gb381)); have NB379_381 := Aside0.mk ((by rw [hg]; exact Nat.ne_of_lt (blk_lt (g := gb379) (o := .cells #[.int .i64 x380000_1, .int .i64 x380001_1, .int .i64 x380002_1, .int .i64 x380003_1, .slice none 0 0] 38 (0, 0)) (bq_ BK379.out)) : gb379 ≠ gb381)); have NB381_379 := Aside0.mk ((by rw [hg]; exact Nat.ne_of_gt (blk_lt (g := gb379) (o := .cells #[.int .i64 x380000_1, .int .i64 x380001_1, .int .i64 x380002_1, .int .i64 x380003_1, .slice none 0 0] 38 (0, 0)) (bq_ BK379.out)) : gb381 ≠ gb379)); replace BK379 := Aside0.mk (blk_below (g := gb379) (o := .cells #[.int .i64 x380000_1, .int .i64 x380001_1, .int .i64 x380002_1, .int .i64 x380003_1, .slice none 0 0] 38 (0, 0)) (bq_ BK379.out) hb); replace HB := Aside0.mk (below_step (qa1_) hb); clear hb hbox hg; have hnb21 := NB381_379.out; have hnc21 := NB379_381.out; have hcz22_0 : w20.cell? ⟨gb381, 0, none⟩ = some (.int .i64 0) := bc_ BK381 0; have hcz22_1 : w20.cell? ⟨gb381, 1, none⟩ = some (.int .i64 0) := bc_ BK381 1; have hcz22_2 : w20.cell? ⟨gb381, 2, none⟩ = some (.int .i64 0) := bc_ BK381 2; have hcz22_3 : w20.cell? ⟨gb381, 3, none⟩ = some (.int .i64 0) := bc_ BK381 3; have hcz22_4 : w20.cell? ⟨gb381, 4, none⟩ = some (.slice none 0 0) := bc_ BK381 4; have hfz22_0 := blk_frozen BK381.out 0; have hfz22_1 := blk_frozen BK381.out 1; have hfz22_2 := blk_frozen BK381.out 2; have hfz22_3 := blk_frozen BK381.out 3; have hfz22_4 := blk_frozen BK381.out 4))
              go_roundg k1
              case measure => have := HK1.out; omega
              case rel => exact ⟨(wrap64 (x11_1 + 1)), (x380000_1), (x380001_1), (x380002_1), (x380003_1), (qa3_), H', ⟨by have := HK1.out; omega⟩, ⟨bf_ NB379_381.out BK379.out⟩, ⟨qa7_⟩⟩
          · rw [if_neg c7] at H
            exact absurd H (by simp)
        · rw [if_neg c6] at H
          exact absurd H (by simp)
      · rw [if_neg c5] at H
        have c5b0 : decide (x11_1 < (l0.length : Int)) = false := decide_eq_false c5
        clear c5
        simp only [Option.some.injEq, Prod.mk.injEq] at H
        obtain ⟨rfl, rfl, rfl, rfl, rfl⟩ := H
        have hcz23_0 : wr.cell? ⟨gb379, 0, none⟩ = some (.int .i64 x380000_1) := bc_ BK379 0
        have hcz23_1 : wr.cell? ⟨gb379, 1, none⟩ = some (.int .i64 x380001_1) := bc_ BK379 1
        have hcz23_2 : wr.cell? ⟨gb379, 2, none⟩ = some (.int .i64 x380002_1) := bc_ BK379 2
        have hcz23_3 : wr.cell? ⟨gb379, 3, none⟩ = some (.int .i64 x380003_1) := bc_ BK379 3
        have hcz23_4 : wr.cell? ⟨gb379, 4, none⟩ = some (.slice none 0 0) := bc_ BK379 4
        have hfz23_0 := blk_frozen BK379.out 0
        have hfz23_1 := blk_frozen BK379.out 1
        have hfz23_2 := blk_frozen BK379.out 2
        have hfz23_3 := blk_frozen BK379.out 3
        have hfz23_4 := blk_frozen BK379.out 4
        go_wp2
        refine bodyPost_ret (results_cell_row rfl _ _ gb379 38 #[.int .i64 a1, .int .i64 a2, .int .i64 0, .int .i64 (-1), .slice none 0 0] (0, 0) _ rfl (bp_ BK379.out) Try.underlying38 rfl (by kernel_rfl)) rfl ?_
        exact ⟨_, qa4_, qa21_, qa1_⟩

/-! ### spec_MakerSet: function 25 -/
mutual
def spec_MakerSet.l0 : Nat → List (S_Maker) → List (S_Maker) → Bool → Int → Int → Int → Int → Int → List (S_Mark) → Option ((List (S_Maker)))
 | 0, _, _, _, _, _, _, _, _, _ => none
 | k + 1, x0, x5, x6, x7, x442000, x442001, x442002, x442003, x442004 => if x7 < (x0.length : Int) then (if 0 ≤ x7 then (if ((rd_Maker x0 x7).f0) = x442000 then (spec_MakerSet.j1 k x0 x5 x6 x7 (((rd_Maker x0 x7).f1) == x442001) x442000 x442001 x442002 x442003 x442004 ((rd_Maker x0 x7).f0) ((rd_Maker x0 x7).f1) ((rd_Maker x0 x7).f2) ((rd_Maker x0 x7).f3) ((rd_Maker x0 x7).f4)) else (spec_MakerSet.j1 k x0 x5 x6 x7 false x442000 x442001 x442002 x442003 x442004 ((rd_Maker x0 x7).f0) ((rd_Maker x0 x7).f1) ((rd_Maker x0 x7).f2) ((rd_Maker x0 x7).f3) ((rd_Maker x0 x7).f4))) else (none)) else (if x6 = true then (some x5) else ((spec_l4Copy.f x442000 x442001 x442002 x442003 x442004).bind fun bt445 => (if x5.length < 2513169434916 then (some (x5 ++ [(⟨bt445.1, bt445.2.1, bt445.2.2.1, bt445.2.2.2.1, bt445.2.2.2.2⟩ : S_Maker)])) else (none))))
def spec_MakerSet.j1 : Nat → List (S_Maker) → List (S_Maker) → Bool → Int → Bool → Int → Int → Int → Int → List (S_Mark) → Int → Int → Int → Int → List (S_Mark) → Option ((List (S_Maker)))
 | 0, _, _, _, _, _, _, _, _, _, _, _, _, _, _, _ => none
 | k + 1, x0, x5, x6, x7, x31, x442000, x442001, x442002, x442003, x442004, x457000, x457001, x457002, x457003, x457004 => if x31 = true then (if x6 = true then (spec_MakerSet.l0 k x0 x5 x6 (wrap64 (x7 + 1)) x442000 x442001 x442002 x442003 x442004) else ((spec_l4Copy.f x442000 x442001 x442002 x442003 x442004).bind fun bt457 => (if x5.length < 2513169434916 then (spec_MakerSet.l0 k x0 (x5 ++ [(⟨bt457.1, bt457.2.1, bt457.2.2.1, bt457.2.2.2.1, bt457.2.2.2.2⟩ : S_Maker)]) true (wrap64 (x7 + 1)) x442000 x442001 x442002 x442003 x442004) else (none)))) else (if x6 = true then (spec_MakerSet.j2 k x0 x5 x6 x7 false x442000 x442001 x442002 x442003 x442004 x457000 x457001 x457002 x457003 x457004) else (if x457000 > x442000 then (spec_MakerSet.j2 k x0 x5 x6 x7 true x442000 x442001 x442002 x442003 x442004 x457000 x457001 x457002 x457003 x457004) else (if x457000 = x442000 then (spec_MakerSet.j2 k x0 x5 x6 x7 (decide (x457001 > x442001)) x442000 x442001 x442002 x442003 x442004 x457000 x457001 x457002 x457003 x457004) else (spec_MakerSet.j2 k x0 x5 x6 x7 false x442000 x442001 x442002 x442003 x442004 x457000 x457001 x457002 x457003 x457004))))
def spec_MakerSet.j2 : Nat → List (S_Maker) → List (S_Maker) → Bool → Int → Bool → Int → Int → Int → Int → List (S_Mark) → Int → Int → Int → Int → List (S_Mark) → Option ((List (S_Maker)))
 | 0, _, _, _, _, _, _, _, _, _, _, _, _, _, _, _ => none
 | k + 1, x0, x5, x6, x7, x61, x442000, x442001, x442002, x442003, x442004, x457000, x457001, x457002, x457003, x457004 => if x61 = true then ((spec_l4Copy.f x442000 x442001 x442002 x442003 x442004).bind fun bt467 => (if x5.length < 2513169434916 then ((some (x5 ++ [(⟨bt467.1, bt467.2.1, bt467.2.2.1, bt467.2.2.2.1, bt467.2.2.2.2⟩ : S_Maker)] : List (S_Maker))).bind fun y474 => ((spec_l4Copy.f x457000 x457001 x457002 x457003 x457004).bind fun bt477 => (if y474.length < 2513169434916 then (spec_MakerSet.l0 k x0 (y474 ++ [(⟨bt477.1, bt477.2.1, bt477.2.2.1, bt477.2.2.2.1, bt477.2.2.2.2⟩ : S_Maker)]) true (wrap64 (x7 + 1)) x442000 x442001 x442002 x442003 x442004) else (none)))) else (none))) else ((spec_l4Copy.f x457000 x457001 x457002 x457003 x457004).bind fun bt487 => (if x5.length < 2513169434916 then (spec_MakerSet.l0 k x0 (x5 ++ [(⟨bt487.1, bt487.2.1, bt487.2.2.1, bt487.2.2.2.1, bt487.2.2.2.2⟩ : S_Maker)]) x6 (wrap64 (x7 + 1)) x442000 x442001 x442002 x442003 x442004) else (none)))
end
def spec_MakerSet.f (k : Nat) (l0 : List (S_Maker)) (a1_0 : Int) (a1_1 : Int) (a1_2 : Int) (a1_3 : Int) (l1_4 : List (S_Mark)) : Option ((List (S_Maker))) := spec_MakerSet.l0 k l0 (([] : List (S_Maker))) false 0 a1_0 a1_1 a1_2 a1_3 l1_4
theorem spec_MakerSet.mono_l : ∀ k, (∀ y0 y1 y2 y3 y4 y5 y6 y7 y8, LeO (spec_MakerSet.l0 k y0 y1 y2 y3 y4 y5 y6 y7 y8) (spec_MakerSet.l0 (k + 1) y0 y1 y2 y3 y4 y5 y6 y7 y8)) ∧ (∀ y0 y1 y2 y3 y4 y5 y6 y7 y8 y9 y10 y11 y12 y13 y14, LeO (spec_MakerSet.j1 k y0 y1 y2 y3 y4 y5 y6 y7 y8 y9 y10 y11 y12 y13 y14) (spec_MakerSet.j1 (k + 1) y0 y1 y2 y3 y4 y5 y6 y7 y8 y9 y10 y11 y12 y13 y14)) ∧ (∀ y0 y1 y2 y3 y4 y5 y6 y7 y8 y9 y10 y11 y12 y13 y14, LeO (spec_MakerSet.j2 k y0 y1 y2 y3 y4 y5 y6 y7 y8 y9 y10 y11 y12 y13 y14) (spec_MakerSet.j2 (k + 1) y0 y1 y2 y3 y4 y5 y6 y7 y8 y9 y10 y11 y12 y13 y14))
 | 0 => ⟨fun _ _ _ _ _ _ _ _ _ r h => by simp [spec_MakerSet.l0] at h, fun _ _ _ _ _ _ _ _ _ _ _ _ _ _ _ r h => by simp [spec_MakerSet.j1] at h, fun _ _ _ _ _ _ _ _ _ _ _ _ _ _ _ r h => by simp [spec_MakerSet.j2] at h⟩
 | k + 1 => by
  obtain ⟨ih0, ih1, ih2⟩ := spec_MakerSet.mono_l k
  refine ⟨?_, ?_, ?_⟩
  ·
   intro y0 y1 y2 y3 y4 y5 y6 y7 y8
   unfold spec_MakerSet.l0
   exact qah2_
  ·
   intro y0 y1 y2 y3 y4 y5 y6 y7 y8 y9 y10 y11 y12 y13 y14
   unfold spec_MakerSet.j1
   exact qah2_
  ·
   intro y0 y1 y2 y3 y4 y5 y6 y7 y8 y9 y10 y11 y12 y13 y14
   unfold spec_MakerSet.j2
   exact qah2_
theorem spec_MakerSet.mono : ∀ a0 a1 a2 a3 a4 a5 k, LeO (spec_MakerSet.f k a0 a1 a2 a3 a4 a5) (spec_MakerSet.f (k + 1) a0 a1 a2 a3 a4 a5) := by
 intro a0 a1 a2 a3 a4 a5 k
 obtain ⟨ih0, ih1, ih2⟩ := spec_MakerSet.mono_l k
 unfold spec_MakerSet.f
 exact qah2_
set_option maxHeartbeats 8000000 in
set_option maxRecDepth 100000 in
theorem spec_MakerSet.calls (k : Nat) (A0 : Option Addr) (c0 : Nat) (l0 : List (S_Maker)) (a1_0 : Int) (a1_1 : Int) (a1_2 : Int) (a1_3 : Int) (A1_4 : Option Addr) (c1_4 : Nat) (l1_4 : List (S_Mark)) (r : List (S_Maker)) (w : World) (hr0 : Kd.C k_Maker w A0 l0.length l0) (hc0 : l0.length ≤ c0) (hr1_4 : Kd.C k_Mark w A1_4 l1_4.length l1_4) (hc1_4 : l1_4.length ≤ c1_4) (h : spec_MakerSet.f k l0 a1_0 a1_1 a1_2 a1_3 l1_4 = some r) :
 Calls Try.prog 25 #[.slice A0 l0.length c0, .agg #[.int .i64 a1_0, .int .i64 a1_1, .int .i64 a1_2, .int .i64 a1_3, .slice A1_4 l1_4.length c1_4]] w fun e w' => ∃ v0_ : Value, e = .returned (v0_) ∧ Kd.S k_Maker 38 w' w.heap.size (fun _ => True) v0_ r ∧ Below w.heap.size w w' := by
 have hu38 := Try.underlying38
 have HR0 := Aside0.mk hr0
 have HC0 := Aside0.mk hc0
 clear hr0 hc0
 have HR1_4 := Aside0.mk hr1_4
 have HC1_4 := Aside0.mk hc1_4
 clear hr1_4 hc1_4
 have HB := Aside0.mk (Below.refl w.heap.size w)
 have H : (spec_MakerSet.l0 k l0 (([] : List (S_Maker))) false 0 a1_0 a1_1 a1_2 a1_3 l1_4) = some r := h
 clear h
 obtain ⟨y442, hy442⟩ : ∃ y_ : List (S_Maker), y_ = (([] : List (S_Maker))) := ⟨_, rfl⟩
 replace H : (spec_MakerSet.l0 k l0 y442 false 0 a1_0 a1_1 a1_2 a1_3 l1_4) = some r := by first | (rw [hy442]; with_reducible exact H) | (have H2_ := (Option.bind_some _ _).symm.trans H; rw [hy442]; with_reducible exact H2_) | (have H2_ := (Option.bind_some _ _).symm.trans H; with_reducible exact H2_) | with_reducible exact H | (rw [hy442]; exact H) | exact H
 have Ny442 := Aside0.mk hy442
 clear hy442
 have H' := Aside0.mk H
 clear H
 go_enter Try.func25, Try.ntmps25
 go_wp2_with (first | ((with_reducible refine gate_dst (N := 3) rfl ?_); refine box_event ?hg (N := 3) ?hd (cs := #[.int .i64 a1_0, .int .i64 a1_1, .int .i64 a1_2, .int .i64 a1_3, .slice A1_4 l1_4.length c1_4]) (t := 38) ?hr ?_; (case hd => rfl); (case hg => rfl); (case hr => first | (go_simp; done) | (go_simp; rfl)); intro gb441 hg w3 hbox hb; have BK441 := Aside0.mk (hbox); have GW441 := cz_ HB hg; have GE441 := cz_ HB hg; replace HB := ch_ HB hb; clear hb hbox hg) | ((with_reducible refine gate_dst (N := 9) rfl ?_); refine Kd.S_lit k_Maker _ 38 ?hg (N := 9) ?hd (xs := ([] : List (S_Maker))) (inner := []) (ok := fun _ => True) (okp := fun _ => True) ?hr ?hp (fun _ hk => hk) trivial (Below.refl _ _) (Nat.le_refl _) (by simp) ?_; (case hd => rfl); (case hg => rfl); (case hr => first | (go_simp; done) | (go_simp; rfl)); (case hp => exact (Reps.none _ _)); intro v443 w4 ho5 hb hg_ hnew_; clear hg_ hnew_; (first | rw [← Ny442.out] at ho5 | (simp only [Int.reduceToNat] at ho5; rw [← Ny442.out] at ho5)); have HO444 := Aside0.mk (Kd.S_lower (Kd.S_newB ho5 (g := gb441) (o := .cells #[.int .i64 a1_0, .int .i64 a1_1, .int .i64 a1_2, .int .i64 a1_3, .slice A1_4 l1_4.length c1_4] 38 (0, 0)) (bq_ BK441.out)) (below_size (hb_ HB.out))); replace BK441 := cb_ BK441 hb; replace HB := ch_ HB hb; clear hb ho5))
 go_loopg [5, 6, 7] k (fun kq v5 v6 v7 w' => ∃ (x5_1 : List (S_Maker)) (x6_1 : Bool) (x7_1 : Int), v6 = .bool x6_1 ∧ v7 = .int .i64 x7_1 ∧ Aside0 (spec_MakerSet.l0 kq l0 x5_1 x6_1 x7_1 a1_0 a1_1 a1_2 a1_3 l1_4 = some r) ∧ Aside0 (kq ≤ k) ∧ Aside0 (Kd.S k_Maker 38 w' w.heap.size (fun k_ => k_ ≠ gb441) v5 x5_1) ∧ Aside0 (w'.heap[gb441]? = some (.cells #[.int .i64 a1_0, .int .i64 a1_1, .int .i64 a1_2, .int .i64 a1_3, (.slice A1_4 l1_4.length c1_4)] 38 (0, 0))) ∧ Aside0 (Below w.heap.size w w'))
 case atStart => exact ⟨(y442), (false), (0), (qa3_), (qa3_), H', ⟨Nat.le_refl _⟩, ⟨by (with_reducible repeat (first | apply Kd.S_alloc | apply Kd.S_drewN | apply Kd.S_drew)); exact Kd.S_mono HO444.out (fun _ hk => hk.2)⟩, ⟨bq_ BK441.out⟩, ⟨hb_ HB.out⟩⟩
 case round =>
  clear H'
  obtain ⟨x5_1, x6_1, x7_1, rfl, rfl, HA, HK1, HO_5, BK441, HB⟩ := hrel
  cases gk with
  | zero => exact absurd HA.out (by simp [spec_MakerSet.l0])
  | succ k1 =>
   have H := HA.out
   clear HA
   simp only [spec_MakerSet.l0] at H
   by_cases c6 : x7_1 < (l0.length : Int)
   ·
    rw [if_pos c6] at H
    have c6b0 : decide (x7_1 < (l0.length : Int)) = true := decide_eq_true c6
    clear c6
    by_cases c7 : 0 ≤ x7_1
    ·
     rw [if_pos c7] at H
     have c7b0 : decide (0 ≤ x7_1) = true := decide_eq_true c7
     clear c7
     have HC8 := Aside0.mk H
     clear H
     have p455 : 0 ≤ (x7_1 : Int) := of_decide_eq_true dt_
     have q455 : x7_1 < (l0.length : Int) := of_decide_eq_true dt_
     obtain ⟨ad455, A455_4, c455_4, e455, hx455_0, hx455_1, hx455_2, hx455_3, hx455_4, hl455_4, hi455_4⟩ := at_Maker HR0.out x7_1 p455 q455
     cases e455
     replace hx455_0 := hc_ HB hx455_0
     replace hx455_1 := hc_ HB hx455_1
     replace hx455_2 := hc_ HB hx455_2
     replace hx455_3 := hc_ HB hx455_3
     replace hx455_4 := hc_ HB hx455_4
     have HR455_4 := Aside0.mk hi455_4
     have HC455_4 := Aside0.mk hl455_4
     clear hi455_4 hl455_4
     replace p455 := eq_true p455
     replace q455 := eq_true q455
     go_upto_region 7 with (first | ((with_reducible refine gate_dst (N := 8) rfl ?_); refine box_event ?hg (N := 8) ?hd (cs := #[.int .i64 0, .int .i64 0, .int .i64 0, .int .i64 0, .slice none 0 0]) (t := 38) ?hr ?_; (case hd => rfl); (case hg => rfl); (case hr => first | (go_simp; done) | (go_simp; rfl)); intro gb456 hg w9 hbox hb; have BK456 := Aside0.mk (hbox); have GW456 := cz_ HB hg; have GE456 := cz_ HB hg; have NB441_456 := cn_ BK441 hg; have NB456_441 := cm_ BK441 hg; replace HO_5 := Aside0.mk (Kd.S_below (Kd.S_elderB (qa11_) gb456 (Nat.le_of_eq hg.symm)) hb); replace BK441 := cb_ BK441 hb; replace HB := ch_ HB hb; clear hb hbox hg; have hnb10 := NB456_441.out; have hnc10 := NB441_456.out; have hcz11_0 : w9.cell? ⟨gb456, 0, none⟩ = some (.int .i64 0) := bc_ BK456 0; have hcz11_1 : w9.cell? ⟨gb456, 1, none⟩ = some (.int .i64 0) := bc_ BK456 1; have hcz11_2 : w9.cell? ⟨gb456, 2, none⟩ = some (.int .i64 0) := bc_ BK456 2; have hcz11_3 : w9.cell? ⟨gb456, 3, none⟩ = some (.int .i64 0) := bc_ BK456 3; have hcz11_4 : w9.cell? ⟨gb456, 4, none⟩ = some (.slice none 0 0) := bc_ BK456 4; have hfz11_0 := blk_frozen BK456.out 0; have hfz11_1 := blk_frozen BK456.out 1; have hfz11_2 := blk_frozen BK456.out 2; have hfz11_3 := blk_frozen BK456.out 3; have hfz11_4 := blk_frozen BK456.out 4))
     (try simp only [Act.put, List.setIfInBounds_toArray, List.set_cons_zero, List.set_cons_succ])
     go_cut [31] (fun v31 wc => ∃ (kq : Nat) (x31_7 : Bool), v31 = .bool x31_7 ∧ Aside0 (spec_MakerSet.j1 kq l0 x5_1 x6_1 x7_1 x31_7 a1_0 a1_1 a1_2 a1_3 l1_4 ((rd_Maker l0 x7_1).f0) ((rd_Maker l0 x7_1).f1) ((rd_Maker l0 x7_1).f2) ((rd_Maker l0 x7_1).f3) ((rd_Maker l0 x7_1).f4) = some r) ∧ Aside0 (kq ≤ k1) ∧ Aside0 (Kd.S k_Maker 38 wc w.heap.size (fun k_ => k_ ≠ gb441 ∧ k_ ≠ gb456) u5 x5_1) ∧ Aside0 (wc.heap[gb441]? = some (.cells #[.int .i64 a1_0, .int .i64 a1_1, .int .i64 a1_2, .int .i64 a1_3, (.slice A1_4 l1_4.length c1_4)] 38 (0, 0))) ∧ Aside0 (wc.heap[gb456]? = some (.cells #[.int .i64 ((rd_Maker l0 x7_1).f0), .int .i64 ((rd_Maker l0 x7_1).f1), .int .i64 ((rd_Maker l0 x7_1).f2), .int .i64 ((rd_Maker l0 x7_1).f3), (.slice A455_4 ((rd_Maker l0 x7_1).f4).length c455_4)] 38 (0, 0))) ∧ Aside0 (Below w.heap.size w wc))
     case first =>
      have H := HC8.out
      clear HC8
      by_cases c12 : ((rd_Maker l0 x7_1).f0) = a1_0
      ·
       rw [if_pos c12] at H
       have c12b0 : (((rd_Maker l0 x7_1).f0) == a1_0) = true := beq_iff_eq.mpr c12
       have c12b1 : (((rd_Maker l0 x7_1).f0) != a1_0) = false := bne_eq_false_iff_eq.mpr c12
       clear c12
       (first | rw [c12b0] | (simp only [i64_w, i32_w]; rw [c12b0]) | rw [c12b4] | rw [c12b3] | skip)
       have H' := Aside0.mk H
       clear H
       have hnb13 := NB456_441.out
       have hnc13 := NB441_456.out
       have hcz14_0 : w9.cell? ⟨gb456, 0, none⟩ = some (.int .i64 0) := bc_ BK456 0
       have hcz14_1 : w9.cell? ⟨gb456, 1, none⟩ = some (.int .i64 0) := bc_ BK456 1
       have hcz14_2 : w9.cell? ⟨gb456, 2, none⟩ = some (.int .i64 0) := bc_ BK456 2
       have hcz14_3 : w9.cell? ⟨gb456, 3, none⟩ = some (.int .i64 0) := bc_ BK456 3
       have hcz14_4 : w9.cell? ⟨gb456, 4, none⟩ = some (.slice none 0 0) := bc_ BK456 4
       have hfz14_0 := blk_frozen BK456.out 0
       have hfz14_1 := blk_frozen BK456.out 1
       have hfz14_2 := blk_frozen BK456.out 2
       have hfz14_3 := blk_frozen BK456.out 3
       have hfz14_4 := blk_frozen BK456.out 4
       have hcz15_0 : w9.cell? ⟨gb441, 0, none⟩ = some (.int .i64 a1_0) := bc_ BK441 0
       have hcz15_1 : w9.cell? ⟨gb441, 1, none⟩ = some (.int .i64 a1_1) := bc_ BK441 1
       have hcz15_2 : w9.cell? ⟨gb441, 2, none⟩ = some (.int .i64 a1_2) := bc_ BK441 2
       have hcz15_3 : w9.cell? ⟨gb441, 3, none⟩ = some (.int .i64 a1_3) := bc_ BK441 3
       have hcz15_4 : w9.cell? ⟨gb441, 4, none⟩ = some (.slice A1_4 l1_4.length c1_4) := bc_ BK441 4
       have hfz15_0 := blk_frozen BK441.out 0
       have hfz15_1 := blk_frozen BK441.out 1
       have hfz15_2 := blk_frozen BK441.out 2
       have hfz15_3 := blk_frozen BK441.out 3
       have hfz15_4 := blk_frozen BK441.out 4
       go_wp2
       go_meet
       case rel => exact ⟨_, ((((rd_Maker l0 x7_1).f1) == a1_1)), (qa3_), H', ⟨by have := HK1.out; first | omega | exact Nat.le_refl _⟩, ⟨qa13_⟩, ⟨bf_ NB441_456.out BK441.out⟩, ⟨bp_ BK456.out⟩, ⟨hb_ HB.out⟩⟩
      ·
       rw [if_neg c12] at H
       have c12b0 : (((rd_Maker l0 x7_1).f0) == a1_0) = false := beq_eq_false_iff_ne.mpr c12
       have c12b1 : (((rd_Maker l0 x7_1).f0) != a1_0) = true := bne_iff_ne.mpr c12
       (first | rw [c12b0] | (simp only [i64_w, i32_w]; rw [c12b0]) | rw [c12b4] | rw [c12b3] | skip)
       have H' := Aside0.mk H
       clear H
       have hnb16 := NB456_441.out
       have hnc16 := NB441_456.out
       have hcz17_0 : w9.cell? ⟨gb456, 0, none⟩ = some (.int .i64 0) := bc_ BK456 0
       have hcz17_1 : w9.cell? ⟨gb456, 1, none⟩ = some (.int .i64 0) := bc_ BK456 1
       have hcz17_2 : w9.cell? ⟨gb456, 2, none⟩ = some (.int .i64 0) := bc_ BK456 2
       have hcz17_3 : w9.cell? ⟨gb456, 3, none⟩ = some (.int .i64 0) := bc_ BK456 3
       have hcz17_4 : w9.cell? ⟨gb456, 4, none⟩ = some (.slice none 0 0) := bc_ BK456 4
       have hfz17_0 := blk_frozen BK456.out 0
       have hfz17_1 := blk_frozen BK456.out 1
       have hfz17_2 := blk_frozen BK456.out 2
       have hfz17_3 := blk_frozen BK456.out 3
       have hfz17_4 := blk_frozen BK456.out 4
       have hcz18_0 : w9.cell? ⟨gb441, 0, none⟩ = some (.int .i64 a1_0) := bc_ BK441 0
       have hcz18_1 : w9.cell? ⟨gb441, 1, none⟩ = some (.int .i64 a1_1) := bc_ BK441 1
       have hcz18_2 : w9.cell? ⟨gb441, 2, none⟩ = some (.int .i64 a1_2) := bc_ BK441 2
       have hcz18_3 : w9.cell? ⟨gb441, 3, none⟩ = some (.int .i64 a1_3) := bc_ BK441 3
       have hcz18_4 : w9.cell? ⟨gb441, 4, none⟩ = some (.slice A1_4 l1_4.length c1_4) := bc_ BK441 4
       have hfz18_0 := blk_frozen BK441.out 0
       have hfz18_1 := blk_frozen BK441.out 1
       have hfz18_2 := blk_frozen BK441.out 2
       have hfz18_3 := blk_frozen BK441.out 3
       have hfz18_4 := blk_frozen BK441.out 4
       go_wp2
       go_meet
       case rel => exact ⟨_, (false), (qa3_), H', ⟨by have := HK1.out; first | omega | exact Nat.le_refl _⟩, ⟨qa13_⟩, ⟨bf_ NB441_456.out BK441.out⟩, ⟨bp_ BK456.out⟩, ⟨hb_ HB.out⟩⟩
     case rest =>
      clear HC8
      (try clear c6b0); (try clear c7b0); (try clear hcz11_0); (try clear hcz11_1); (try clear hcz11_2); (try clear hcz11_3); (try clear hcz11_4); (try clear hfz11_0); (try clear hfz11_1); (try clear hfz11_2); (try clear hfz11_3); (try clear hfz11_4); (try clear hx455_0); (try clear hx455_1); (try clear hx455_2); (try clear hx455_3); (try clear hx455_4); (try clear p455); (try clear q455)
      obtain ⟨kq, x31_7, rfl, HA, HJ7, HO_5, BK441, BK456, HB⟩ := hcut
      cases kq with
      | zero => exact absurd HA.out (by simp [spec_MakerSet.j1])
      | succ kj7 =>
       have H := HA.out
       clear HA
       simp only [spec_MakerSet.j1] at H
       by_cases c19 : x31_7 = true
       ·
        subst c19
        have H1 : (if x6_1 = true then (spec_MakerSet.l0 kj7 l0 x5_1 x6_1 (wrap64 (x7_1 + 1)) a1_0 a1_1 a1_2 a1_3 l1_4) else ((spec_l4Copy.f a1_0 a1_1 a1_2 a1_3 l1_4).bind fun bt457 => (if x5_1.length < 2513169434916 then (spec_MakerSet.l0 kj7 l0 (x5_1 ++ [(⟨bt457.1, bt457.2.1, bt457.2.2.1, bt457.2.2.2.1, bt457.2.2.2.2⟩ : S_Maker)]) true (wrap64 (x7_1 + 1)) a1_0 a1_1 a1_2 a1_3 l1_4) else (none)))) = some r := by rw [if_pos rfl] at H; exact H
        clear H
        have H := H1
        clear H1
        by_cases c20 : x6_1 = true
        ·
         subst c20
         have H1 : (spec_MakerSet.l0 kj7 l0 x5_1 true (wrap64 (x7_1 + 1)) a1_0 a1_1 a1_2 a1_3 l1_4) = some r := by rw [if_pos rfl] at H; exact H
         clear H
         have H := H1
         clear H1
         have H' := Aside0.mk H
         clear H
         go_wp2
         go_roundg kj7
         case measure => have := HK1.out; have := HJ7.out; omega
         case rel => exact ⟨(x5_1), (true), (wrap64 (x7_1 + 1)), (qa3_), (qa3_), H', ⟨by have := HK1.out; have := HJ7.out; omega⟩, ⟨by (with_reducible repeat (first | apply Kd.S_alloc | apply Kd.S_drewN | apply Kd.S_drew)); exact Kd.S_mono HO_5.out (fun _ hk => hk.1)⟩, ⟨bq_ BK441.out⟩, ⟨hb_ HB.out⟩⟩
        ·
         replace c20 := Bool.eq_false_iff.mpr c20
         subst c20
         have H1 : ((spec_l4Copy.f a1_0 a1_1 a1_2 a1_3 l1_4).bind fun bt457 => (if x5_1.length < 2513169434916 then (spec_MakerSet.l0 kj7 l0 (x5_1 ++ [(⟨bt457.1, bt457.2.1, bt457.2.2.1, bt457.2.2.2.1, bt457.2.2.2.2⟩ : S_Maker)]) true (wrap64 (x7_1 + 1)) a1_0 a1_1 a1_2 a1_3 l1_4) else (none))) = some r := by rw [if_neg (show ¬ (false = true) by decide)] at H; exact H
         clear H
         have H := H1
         clear H1
         replace H := Option.bind_eq_some_iff.mp H
         obtain ⟨⟨t457, t458, t459, t460, t461⟩, A210, H⟩ := H
         replace H : (if x5_1.length < 2513169434916 then (spec_MakerSet.l0 kj7 l0 (x5_1 ++ [(⟨t457, t458, t459, t460, t461⟩ : S_Maker)]) true (wrap64 (x7_1 + 1)) a1_0 a1_1 a1_2 a1_3 l1_4) else (none)) = some r := H
         have A21 := Aside0.mk A210
         clear A210
         by_cases c22 : x5_1.length < 2513169434916
         ·
          rw [if_pos c22] at H
          have LMc22 := Aside0.mk c22
          clear c22
          obtain ⟨y464, hy464⟩ : ∃ y_ : List (S_Maker), y_ = (x5_1 ++ [(⟨t457, t458, t459, t460, t461⟩ : S_Maker)]) := ⟨_, rfl⟩
          replace H : (spec_MakerSet.l0 kj7 l0 y464 true (wrap64 (x7_1 + 1)) a1_0 a1_1 a1_2 a1_3 l1_4) = some r := by first | (rw [hy464]; with_reducible exact H) | (have H2_ := (Option.bind_some _ _).symm.trans H; rw [hy464]; with_reducible exact H2_) | (have H2_ := (Option.bind_some _ _).symm.trans H; with_reducible exact H2_) | with_reducible exact H | (rw [hy464]; exact H) | exact H
          have Ny464 := Aside0.mk hy464
          clear hy464
          have H' := Aside0.mk H
          clear H
          have hnb23 := NB441_456.out
          have hnc23 := NB456_441.out
          have hcz24_0 : wc.cell? ⟨gb441, 0, none⟩ = some (.int .i64 a1_0) := bc_ BK441 0
          have hcz24_1 : wc.cell? ⟨gb441, 1, none⟩ = some (.int .i64 a1_1) := bc_ BK441 1
          have hcz24_2 : wc.cell? ⟨gb441, 2, none⟩ = some (.int .i64 a1_2) := bc_ BK441 2
          have hcz24_3 : wc.cell? ⟨gb441, 3, none⟩ = some (.int .i64 a1_3) := bc_ BK441 3
          have hcz24_4 : wc.cell? ⟨gb441, 4, none⟩ = some (.slice A1_4 l1_4.length c1_4) := bc_ BK441 4
          have hfz24_0 := blk_frozen BK441.out 0
          have hfz24_1 := blk_frozen BK441.out 1
          have hfz24_2 := blk_frozen BK441.out 2
          have hfz24_3 := blk_frozen BK441.out 3
          have hfz24_4 := blk_frozen BK441.out 4
          go_wp2_with (first | ((with_reducible refine gate_callee (f := 60) rfl ?_); refine goesL_ (some 36) rfl rfl Try.func60 (by kernel_rfl) rfl #[.agg #[.int .i64 a1_0, .int .i64 a1_1, .int .i64 a1_2, .int .i64 a1_3, .slice A1_4 l1_4.length c1_4]] rfl sm_ ?_; (with_reducible refine (spec_l4Copy.calls a1_0 a1_1 a1_2 a1_3 _ _ l1_4 t457 t458 t459 t460 t461 _ ?side1 ?side2 A21.out).mono ?_); (case side1 => repeat (first | exact (Kd.C_below HR1_4.out HB.out) | (with_reducible refine Kd.C_alloc ?_ _) | (with_reducible refine Kd.C_drewN ?_ _) | (with_reducible refine Kd.C_drew ?_))); (case side2 => exact HC1_4.out); rintro e w25 ⟨v462, rfl, ho0, hb⟩; refine ⟨_, rfl, ?_⟩; have HO463 := Aside0.mk (Kd.R_lower ho0 (below_size (hb_ HB.out))); replace HO_5 := Aside0.mk (Kd.S_elder' (qa11_) (Kd.R_base ho0) hb); replace BK441 := cb_ BK441 hb; replace BK456 := cb_ BK456 hb; replace HB := ch_ HB hb; (try clear hb); (try clear hb2); (try clear hk); (try clear hi); (try clear ho0); obtain ⟨Ao27, co27, eo27⟩ := Kd.R_slice HO463.out; subst eo27) | ((with_reducible refine gate_builtin (b := .append) (xs := #[.tmp 34, .tmp 37]) rfl ?_); at_builtin; refine Kd.S_append k_Maker (w0 := w) w.heap.size rfl (.tmp 34) (.tmp 37) 40 38 (.agg #[(.int .i64 0), (.int .i64 0), (.int .i64 0), (.int .i64 0), (.slice none 0 0)]) 56 rfl Try.underlying40 info38 rfl (by decide) (by omega) u5 x5_1 (⟨t457, t458, t459, t460, t461⟩ : S_Maker) [.int .i64 t457, .int .i64 t458, .int .i64 t459, .int .i64 t460, .slice Ao27 t461.length co27] (fun k_ => k_ ≠ gb441 ∧ k_ ≠ gb456) (fun k_ => some k_ = (.slice Ao27 t461.length co27 : Value).ownBlock) rfl rfl ?aP (fun k_ hk_ => ((Kd.R_mono (ok' := fun k_ => ((fun k_ => k_ ≠ gb441 ∧ k_ ≠ gb456)) k_ ∧ some k_ ≠ (u5 : Value).ownBlock) (Kd.R_types (Kd.R_types (Kd.R_apart' (HO463.out) (Kd.S_typed HO_5.out) (by decide)) BK441.out (by decide)) BK456.out (by decide)) (fun k_ hk => ⟨⟨hk.1.2, hk.2⟩, hk.1.1.2⟩))).1 k_ hk_.symm) ?aF ?aO ?aB ?aS ?aL ?_; (case aP => exact k_Maker_mkM _ _ _ (⟨t457, t458, t459, t460, t461⟩ : S_Maker) (Kd.R_mono (Kd.R_tight rfl (Kd.R_mono (ok' := fun k_ => ((fun k_ => k_ ≠ gb441 ∧ k_ ≠ gb456)) k_ ∧ some k_ ≠ (u5 : Value).ownBlock) (Kd.R_types (Kd.R_types (Kd.R_apart' (HO463.out) (Kd.S_typed HO_5.out) (by decide)) BK441.out (by decide)) BK456.out (by decide)) (fun k_ hk => ⟨⟨hk.1.2, hk.2⟩, hk.1.1.2⟩))) (fun _ h_ => h_))); (case aB => exact (hb_ HB.out)); (case aF => exact (fun k_ hk => ⟨Kd.freshB (g := gb441) (o := .cells #[.int .i64 a1_0, .int .i64 a1_1, .int .i64 a1_2, .int .i64 a1_3, .slice A1_4 l1_4.length c1_4] 38 (0, 0)) (bq_ BK441.out) k_ hk, Kd.freshB (g := gb456) (o := .cells #[.int .i64 ((rd_Maker l0 x7_1).f0), .int .i64 ((rd_Maker l0 x7_1).f1), .int .i64 ((rd_Maker l0 x7_1).f2), .int .i64 ((rd_Maker l0 x7_1).f3), .slice A455_4 ((rd_Maker l0 x7_1).f4).length c455_4] 38 (0, 0)) (bq_ BK456.out) k_ hk⟩)); (case aO => exact (qa16_)); (case aS => exact (below_size (hb_ HB.out))); (case aL => have := LMc22.out; omega); intro v465 w26 ho hb hg hat; rw [← Ny464.out] at ho; have HO466 := Aside0.mk (ho); replace BK441 := Aside0.mk (blk_grown (g := gb441) (o := .cells #[.int .i64 a1_0, .int .i64 a1_1, .int .i64 a1_2, .int .i64 a1_3, .slice A1_4 l1_4.length c1_4] 38 (0, 0)) (bq_ BK441.out) hg (Kd.S_away HO_5.out (fun _ hk => hk.1.1))); replace BK456 := Aside0.mk (blk_grown (g := gb456) (o := .cells #[.int .i64 ((rd_Maker l0 x7_1).f0), .int .i64 ((rd_Maker l0 x7_1).f1), .int .i64 ((rd_Maker l0 x7_1).f2), .int .i64 ((rd_Maker l0 x7_1).f3), .slice A455_4 ((rd_Maker l0 x7_1).f4).length c455_4] 38 (0, 0)) (bq_ BK456.out) hg (Kd.S_away HO_5.out (fun _ hk => hk.1.2))); replace HB := Aside0.mk (hb); clear HO_5 HO463; clear ho hb hg hat))
          go_roundg kj7
          case measure => have := HK1.out; have := HJ7.out; omega
          case rel => exact ⟨(y464), (true), (wrap64 (x7_1 + 1)), (qa3_), (qa3_), H', ⟨by have := HK1.out; have := HJ7.out; omega⟩, ⟨by (with_reducible repeat (first | apply Kd.S_alloc | apply Kd.S_drewN | apply Kd.S_drew)); exact Kd.S_mono HO466.out (fun _ hk => hk.1)⟩, ⟨bq_ BK441.out⟩, ⟨hb_ HB.out⟩⟩
         ·
          rw [if_neg c22] at H
          exact absurd H (by simp)
       ·
        replace c19 := Bool.eq_false_iff.mpr c19
        subst c19
        have H1 : (if x6_1 = true then (spec_MakerSet.j2 kj7 l0 x5_1 x6_1 x7_1 false a1_0 a1_1 a1_2 a1_3 l1_4 ((rd_Maker l0 x7_1).f0) ((rd_Maker l0 x7_1).f1) ((rd_Maker l0 x7_1).f2) ((rd_Maker l0 x7_1).f3) ((rd_Maker l0 x7_1).f4)) else (if ((rd_Maker l0 x7_1).f0) > a1_0 then (spec_MakerSet.j2 kj7 l0 x5_1 x6_1 x7_1 true a1_0 a1_1 a1_2 a1_3 l1_4 ((rd_Maker l0 x7_1).f0) ((rd_Maker l0 x7_1).f1) ((rd_Maker l0 x7_1).f2) ((rd_Maker l0 x7_1).f3) ((rd_Maker l0 x7_1).f4)) else (if ((rd_Maker l0 x7_1).f0) = a1_0 then (spec_MakerSet.j2 kj7 l0 x5_1 x6_1 x7_1 (decide (((rd_Maker l0 x7_1).f1) > a1_1)) a1_0 a1_1 a1_2 a1_3 l1_4 ((rd_Maker l0 x7_1).f0) ((rd_Maker l0 x7_1).f1) ((rd_Maker l0 x7_1).f2) ((rd_Maker l0 x7_1).f3) ((rd_Maker l0 x7_1).f4)) else (spec_MakerSet.j2 kj7 l0 x5_1 x6_1 x7_1 false a1_0 a1_1 a1_2 a1_3 l1_4 ((rd_Maker l0 x7_1).f0) ((rd_Maker l0 x7_1).f1) ((rd_Maker l0 x7_1).f2) ((rd_Maker l0 x7_1).f3) ((rd_Maker l0 x7_1).f4))))) = some r := by rw [if_neg (show ¬ (false = true) by decide)] at H; exact H
        clear H
        have H := H1
        clear H1
        have HC28 := Aside0.mk H
        clear H
        go_upto_region 11 with (fail)
        go_cut [61] (fun v61 wc => ∃ (kq : Nat) (x61_27 : Bool), v61 = .bool x61_27 ∧ Aside0 (spec_MakerSet.j2 kq l0 x5_1 x6_1 x7_1 x61_27 a1_0 a1_1 a1_2 a1_3 l1_4 ((rd_Maker l0 x7_1).f0) ((rd_Maker l0 x7_1).f1) ((rd_Maker l0 x7_1).f2) ((rd_Maker l0 x7_1).f3) ((rd_Maker l0 x7_1).f4) = some r) ∧ Aside0 (kq ≤ kj7) ∧ Aside0 (Kd.S k_Maker 38 wc w.heap.size (fun k_ => k_ ≠ gb441 ∧ k_ ≠ gb456) u5 x5_1) ∧ Aside0 (wc.heap[gb441]? = some (.cells #[.int .i64 a1_0, .int .i64 a1_1, .int .i64 a1_2, .int .i64 a1_3, (.slice A1_4 l1_4.length c1_4)] 38 (0, 0))) ∧ Aside0 (wc.heap[gb456]? = some (.cells #[.int .i64 ((rd_Maker l0 x7_1).f0), .int .i64 ((rd_Maker l0 x7_1).f1), .int .i64 ((rd_Maker l0 x7_1).f2), .int .i64 ((rd_Maker l0 x7_1).f3), (.slice A455_4 ((rd_Maker l0 x7_1).f4).length c455_4)] 38 (0, 0))) ∧ Aside0 (Below w.heap.size w wc))
        case first =>
         have H := HC28.out
         clear HC28
         by_cases c29 : x6_1 = true
         ·
          subst c29
          have H1 : (spec_MakerSet.j2 kj7 l0 x5_1 true x7_1 false a1_0 a1_1 a1_2 a1_3 l1_4 ((rd_Maker l0 x7_1).f0) ((rd_Maker l0 x7_1).f1) ((rd_Maker l0 x7_1).f2) ((rd_Maker l0 x7_1).f3) ((rd_Maker l0 x7_1).f4)) = some r := by rw [if_pos rfl] at H; exact H
          clear H
          have H := H1
          clear H1
          have H' := Aside0.mk H
          clear H
          go_wp2
          go_meet
          case rel => exact ⟨_, (false), (qa3_), H', ⟨qa20_⟩, ⟨qa11_⟩, ⟨bq_ BK441.out⟩, ⟨bq_ BK456.out⟩, ⟨hb_ HB.out⟩⟩
         ·
          replace c29 := Bool.eq_false_iff.mpr c29
          subst c29
          have H1 : (if ((rd_Maker l0 x7_1).f0) > a1_0 then (spec_MakerSet.j2 kj7 l0 x5_1 false x7_1 true a1_0 a1_1 a1_2 a1_3 l1_4 ((rd_Maker l0 x7_1).f0) ((rd_Maker l0 x7_1).f1) ((rd_Maker l0 x7_1).f2) ((rd_Maker l0 x7_1).f3) ((rd_Maker l0 x7_1).f4)) else (if ((rd_Maker l0 x7_1).f0) = a1_0 then (spec_MakerSet.j2 kj7 l0 x5_1 false x7_1 (decide (((rd_Maker l0 x7_1).f1) > a1_1)) a1_0 a1_1 a1_2 a1_3 l1_4 ((rd_Maker l0 x7_1).f0) ((rd_Maker l0 x7_1).f1) ((rd_Maker l0 x7_1).f2) ((rd_Maker l0 x7_1).f3) ((rd_Maker l0 x7_1).f4)) else (spec_MakerSet.j2 kj7 l0 x5_1 false x7_1 false a1_0 a1_1 a1_2 a1_3 l1_4 ((rd_Maker l0 x7_1).f0) ((rd_Maker l0 x7_1).f1) ((rd_Maker l0 x7_1).f2) ((rd_Maker l0 x7_1).f3) ((rd_Maker l0 x7_1).f4)))) = some r := by rw [if_neg (show ¬ (false = true) by decide)] at H; exact H
          clear H
          have H := H1
          clear H1
          by_cases c30 : ((rd_Maker l0 x7_1).f0) > a1_0
          ·
           rw [if_pos c30] at H
           have c30b0 : decide (a1_0 < ((rd_Maker l0 x7_1).f0)) = true := decide_eq_true c30
           clear c30
           (first | rw [c30b0] | (simp only [i64_w, i32_w]; rw [c30b0]) | rw [c30b4] | rw [c30b3] | skip)
           have H' := Aside0.mk H
           clear H
           have hnb31 := NB456_441.out
           have hnc31 := NB441_456.out
           have hcz32_0 : wc.cell? ⟨gb456, 0, none⟩ = some (.int .i64 ((rd_Maker l0 x7_1).f0)) := bc_ BK456 0
           have hcz32_1 : wc.cell? ⟨gb456, 1, none⟩ = some (.int .i64 ((rd_Maker l0 x7_1).f1)) := bc_ BK456 1
           have hcz32_2 : wc.cell? ⟨gb456, 2, none⟩ = some (.int .i64 ((rd_Maker l0 x7_1).f2)) := bc_ BK456 2
           have hcz32_3 : wc.cell? ⟨gb456, 3, none⟩ = some (.int .i64 ((rd_Maker l0 x7_1).f3)) := bc_ BK456 3
           have hcz32_4 : wc.cell? ⟨gb456, 4, none⟩ = some (.slice A455_4 ((rd_Maker l0 x7_1).f4).length c455_4) := bc_ BK456 4
           have hfz32_0 := blk_frozen BK456.out 0
           have hfz32_1 := blk_frozen BK456.out 1
           have hfz32_2 := blk_frozen BK456.out 2
           have hfz32_3 := blk_frozen BK456.out 3
           have hfz32_4 := blk_frozen BK456.out 4
           have hcz33_0 : wc.cell? ⟨gb441, 0, none⟩ = some (.int .i64 a1_0) := bc_ BK441 0
           have hcz33_1 : wc.cell? ⟨gb441, 1, none⟩ = some (.int .i64 a1_1) := bc_ BK441 1
           have hcz33_2 : wc.cell? ⟨gb441, 2, none⟩ = some (.int .i64 a1_2) := bc_ BK441 2
           have hcz33_3 : wc.cell? ⟨gb441, 3, none⟩ = some (.int .i64 a1_3) := bc_ BK441 3
           have hcz33_4 : wc.cell? ⟨gb441, 4, none⟩ = some (.slice A1_4 l1_4.length c1_4) := bc_ BK441 4
           have hfz33_0 := blk_frozen BK441.out 0
           have hfz33_1 := blk_frozen BK441.out 1
           have hfz33_2 := blk_frozen BK441.out 2
           have hfz33_3 := blk_frozen BK441.out 3
           have hfz33_4 := blk_frozen BK441.out 4
           go_wp2
           go_meet
           case rel => exact ⟨_, (true), (qa3_), H', ⟨qa20_⟩, ⟨qa11_⟩, ⟨bq_ BK441.out⟩, ⟨bq_ BK456.out⟩, ⟨hb_ HB.out⟩⟩
          ·
           rw [if_neg c30] at H
           have c30b0 : decide (a1_0 < ((rd_Maker l0 x7_1).f0)) = false := decide_eq_false c30
           clear c30
           (first | rw [c30b0] | (simp only [i64_w, i32_w]; rw [c30b0]) | rw [c30b4] | rw [c30b3] | skip)
           by_cases c34 : ((rd_Maker l0 x7_1).f0) = a1_0
           ·
            rw [if_pos c34] at H
            have c34b0 : (((rd_Maker l0 x7_1).f0) == a1_0) = true := beq_iff_eq.mpr c34
            have c34b1 : (((rd_Maker l0 x7_1).f0) != a1_0) = false := bne_eq_false_iff_eq.mpr c34
            clear c34
            have H' := Aside0.mk H
            clear H
            have hnb35 := NB456_441.out
            have hnc35 := NB441_456.out
            have hcz36_0 : wc.cell? ⟨gb456, 0, none⟩ = some (.int .i64 ((rd_Maker l0 x7_1).f0)) := bc_ BK456 0
            have hcz36_1 : wc.cell? ⟨gb456, 1, none⟩ = some (.int .i64 ((rd_Maker l0 x7_1).f1)) := bc_ BK456 1
            have hcz36_2 : wc.cell? ⟨gb456, 2, none⟩ = some (.int .i64 ((rd_Maker l0 x7_1).f2)) := bc_ BK456 2
            have hcz36_3 : wc.cell? ⟨gb456, 3, none⟩ = some (.int .i64 ((rd_Maker l0 x7_1).f3)) := bc_ BK456 3
            have hcz36_4 : wc.cell? ⟨gb456, 4, none⟩ = some (.slice A455_4 ((rd_Maker l0 x7_1).f4).length c455_4) := bc_ BK456 4
            have hfz36_0 := blk_frozen BK456.out 0
            have hfz36_1 := blk_frozen BK456.out 1
            have hfz36_2 := blk_frozen BK456.out 2
            have hfz36_3 := blk_frozen BK456.out 3
            have hfz36_4 := blk_frozen BK456.out 4
            have hcz37_0 : wc.cell? ⟨gb441, 0, none⟩ = some (.int .i64 a1_0) := bc_ BK441 0
            have hcz37_1 : wc.cell? ⟨gb441, 1, none⟩ = some (.int .i64 a1_1) := bc_ BK441 1
            have hcz37_2 : wc.cell? ⟨gb441, 2, none⟩ = some (.int .i64 a1_2) := bc_ BK441 2
            have hcz37_3 : wc.cell? ⟨gb441, 3, none⟩ = some (.int .i64 a1_3) := bc_ BK441 3
            have hcz37_4 : wc.cell? ⟨gb441, 4, none⟩ = some (.slice A1_4 l1_4.length c1_4) := bc_ BK441 4
            have hfz37_0 := blk_frozen BK441.out 0
            have hfz37_1 := blk_frozen BK441.out 1
            have hfz37_2 := blk_frozen BK441.out 2
            have hfz37_3 := blk_frozen BK441.out 3
            have hfz37_4 := blk_frozen BK441.out 4
            go_wp2
            go_meet
            case rel => exact ⟨_, (decide (((rd_Maker l0 x7_1).f1) > a1_1)), (qa3_), H', ⟨qa20_⟩, ⟨qa11_⟩, ⟨bq_ BK441.out⟩, ⟨bq_ BK456.out⟩, ⟨hb_ HB.out⟩⟩
           ·
            rw [if_neg c34] at H
            have c34b0 : (((rd_Maker l0 x7_1).f0) == a1_0) = false := beq_eq_false_iff_ne.mpr c34
            have c34b1 : (((rd_Maker l0 x7_1).f0) != a1_0) = true := bne_iff_ne.mpr c34
            have H' := Aside0.mk H
            clear H
            have hnb38 := NB456_441.out
            have hnc38 := NB441_456.out
            have hcz39_0 : wc.cell? ⟨gb456, 0, none⟩ = some (.int .i64 ((rd_Maker l0 x7_1).f0)) := bc_ BK456 0
            have hcz39_1 : wc.cell? ⟨gb456, 1, none⟩ = some (.int .i64 ((rd_Maker l0 x7_1).f1)) := bc_ BK456 1
            have hcz39_2 : wc.cell? ⟨gb456, 2, none⟩ = some (.int .i64 ((rd_Maker l0 x7_1).f2)) := bc_ BK456 2
            have hcz39_3 : wc.cell? ⟨gb456, 3, none⟩ = some (.int .i64 ((rd_Maker l0 x7_1).f3)) := bc_ BK456 3
            have hcz39_4 : wc.cell? ⟨gb456, 4, none⟩ = some (.slice A455_4 ((rd_Maker l0 x7_1).f4).length c455_4) := bc_ BK456 4
            have hfz39_0 := blk_frozen BK456.out 0
            have hfz39_1 := blk_frozen BK456.out 1
            have hfz39_2 := blk_frozen BK456.out 2
            have hfz39_3 := blk_frozen BK456.out 3
            have hfz39_4 := blk_frozen BK456.out 4
            have hcz40_0 : wc.cell? ⟨gb441, 0, none⟩ = some (.int .i64 a1_0) := bc_ BK441 0
            have hcz40_1 : wc.cell? ⟨gb441, 1, none⟩ = some (.int .i64 a1_1) := bc_ BK441 1
            have hcz40_2 : wc.cell? ⟨gb441, 2, none⟩ = some (.int .i64 a1_2) := bc_ BK441 2
            have hcz40_3 : wc.cell? ⟨gb441, 3, none⟩ = some (.int .i64 a1_3) := bc_ BK441 3
            have hcz40_4 : wc.cell? ⟨gb441, 4, none⟩ = some (.slice A1_4 l1_4.length c1_4) := bc_ BK441 4
            have hfz40_0 := blk_frozen BK441.out 0
            have hfz40_1 := blk_frozen BK441.out 1
            have hfz40_2 := blk_frozen BK441.out 2
            have hfz40_3 := blk_frozen BK441.out 3
            have hfz40_4 := blk_frozen BK441.out 4
            go_wp2
            go_meet
            case rel => exact ⟨_, (false), (qa3_), H', ⟨qa20_⟩, ⟨qa11_⟩, ⟨bq_ BK441.out⟩, ⟨bq_ BK456.out⟩, ⟨hb_ HB.out⟩⟩
        case rest =>
         clear HC28
         (try clear c19)
         obtain ⟨kq, x61_27, rfl, HA, HJ27, HO_5, BK441, BK456, HB⟩ := hcut
         cases kq with
         | zero => exact absurd HA.out (by simp [spec_MakerSet.j2])
         | succ kj27 =>
          have H := HA.out
          clear HA
          simp only [spec_MakerSet.j2] at H
          by_cases c41 : x61_27 = true
          ·
           subst c41
           have H1 : ((spec_l4Copy.f a1_0 a1_1 a1_2 a1_3 l1_4).bind fun bt467 => (if x5_1.length < 2513169434916 then ((some (x5_1 ++ [(⟨bt467.1, bt467.2.1, bt467.2.2.1, bt467.2.2.2.1, bt467.2.2.2.2⟩ : S_Maker)] : List (S_Maker))).bind fun y474 => ((spec_l4Copy.f ((rd_Maker l0 x7_1).f0) ((rd_Maker l0 x7_1).f1) ((rd_Maker l0 x7_1).f2) ((rd_Maker l0 x7_1).f3) ((rd_Maker l0 x7_1).f4)).bind fun bt477 => (if y474.length < 2513169434916 then (spec_MakerSet.l0 kj27 l0 (y474 ++ [(⟨bt477.1, bt477.2.1, bt477.2.2.1, bt477.2.2.2.1, bt477.2.2.2.2⟩ : S_Maker)]) true (wrap64 (x7_1 + 1)) a1_0 a1_1 a1_2 a1_3 l1_4) else (none)))) else (none))) = some r := by rw [if_pos rfl] at H; exact H
           clear H
           have H := H1
           clear H1
           replace H := Option.bind_eq_some_iff.mp H
           obtain ⟨⟨t467, t468, t469, t470, t471⟩, A420, H⟩ := H
           replace H : (if x5_1.length < 2513169434916 then ((some (x5_1 ++ [(⟨t467, t468, t469, t470, t471⟩ : S_Maker)] : List (S_Maker))).bind fun y474 => ((spec_l4Copy.f ((rd_Maker l0 x7_1).f0) ((rd_Maker l0 x7_1).f1) ((rd_Maker l0 x7_1).f2) ((rd_Maker l0 x7_1).f3) ((rd_Maker l0 x7_1).f4)).bind fun bt477 => (if y474.length < 2513169434916 then (spec_MakerSet.l0 kj27 l0 (y474 ++ [(⟨bt477.1, bt477.2.1, bt477.2.2.1, bt477.2.2.2.1, bt477.2.2.2.2⟩ : S_Maker)]) true (wrap64 (x7_1 + 1)) a1_0 a1_1 a1_2 a1_3 l1_4) else (none)))) else (none)) = some r := H
           have A42 := Aside0.mk A420
           clear A420
           by_cases c43 : x5_1.length < 2513169434916
           ·
            rw [if_pos c43] at H
            have LMc43 := Aside0.mk c43
            clear c43
            obtain ⟨y474, hy474⟩ : ∃ y_ : List (S_Maker), y_ = (x5_1 ++ [(⟨t467, t468, t469, t470, t471⟩ : S_Maker)]) := ⟨_, rfl⟩
            replace H : ((spec_l4Copy.f ((rd_Maker l0 x7_1).f0) ((rd_Maker l0 x7_1).f1) ((rd_Maker l0 x7_1).f2) ((rd_Maker l0 x7_1).f3) ((rd_Maker l0 x7_1).f4)).bind fun bt477 => (if y474.length < 2513169434916 then (spec_MakerSet.l0 kj27 l0 (y474 ++ [(⟨bt477.1, bt477.2.1, bt477.2.2.1, bt477.2.2.2.1, bt477.2.2.2.2⟩ : S_Maker)]) true (wrap64 (x7_1 + 1)) a1_0 a1_1 a1_2 a1_3 l1_4) else (none))) = some r := by first | (rw [hy474]; with_reducible exact H) | (have H2_ := (Option.bind_some _ _).symm.trans H; rw [hy474]; with_reducible exact H2_) | (have H2_ := (Option.bind_some _ _).symm.trans H; with_reducible exact H2_) | with_reducible exact H | (rw [hy474]; exact H) | exact H
            have Ny474 := Aside0.mk hy474
            clear hy474
            replace H := Option.bind_eq_some_iff.mp H
            obtain ⟨⟨t477, t478, t479, t480, t481⟩, A440, H⟩ := H
            replace H : (if y474.length < 2513169434916 then (spec_MakerSet.l0 kj27 l0 (y474 ++ [(⟨t477, t478, t479, t480, t481⟩ : S_Maker)]) true (wrap64 (x7_1 + 1)) a1_0 a1_1 a1_2 a1_3 l1_4) else (none)) = some r := H
            have A44 := Aside0.mk A440
            clear A440
            by_cases c45 : y474.length < 2513169434916
            ·
             rw [if_pos c45] at H
             have LMc45 := Aside0.mk c45
             clear c45
             obtain ⟨y484, hy484⟩ : ∃ y_ : List (S_Maker), y_ = (y474 ++ [(⟨t477, t478, t479, t480, t481⟩ : S_Maker)]) := ⟨_, rfl⟩
             replace H : (spec_MakerSet.l0 kj27 l0 y484 true (wrap64 (x7_1 + 1)) a1_0 a1_1 a1_2 a1_3 l1_4) = some r := by first | (rw [hy484]; with_reducible exact H) | (have H2_ := (Option.bind_some _ _).symm.trans H; rw [hy484]; with_reducible exact H2_) | (have H2_ := (Option.bind_some _ _).symm.trans H; with_reducible exact H2_) | with_reducible exact H | (rw [hy484]; exact H) | exact H
             have Ny484 := Aside0.mk hy484
             clear hy484
             have H' := Aside0.mk H
             clear H
             have hnb46 := NB441_456.out
             have hnc46 := NB456_441.out
             have hcz47_0 : wc.cell? ⟨gb441, 0, none⟩ = some (.int .i64 a1_0) := bc_ BK441 0
             have hcz47_1 : wc.cell? ⟨gb441, 1, none⟩ = some (.int .i64 a1_1) := bc_ BK441 1
             have hcz47_2 : wc.cell? ⟨gb441, 2, none⟩ = some (.int .i64 a1_2) := bc_ BK441 2
             have hcz47_3 : wc.cell? ⟨gb441, 3, none⟩ = some (.int .i64 a1_3) := bc_ BK441 3
             have hcz47_4 : wc.cell? ⟨gb441, 4, none⟩ = some (.slice A1_4 l1_4.length c1_4) := bc_ BK441 4
             have hfz47_0 := blk_frozen BK441.out 0
             have hfz47_1 := blk_frozen BK441.out 1
             have hfz47_2 := blk_frozen BK441.out 2
             have hfz47_3 := blk_frozen BK441.out 3
             have hfz47_4 := blk_frozen BK441.out 4
             go_wp2_with (first | ((with_reducible refine gate_callee (f := 60) rfl ?_); refine goesL_ (some 64) rfl rfl Try.func60 (by kernel_rfl) rfl #[.agg #[.int .i64 a1_0, .int .i64 a1_1, .int .i64 a1_2, .int .i64 a1_3, .slice A1_4 l1_4.length c1_4]] rfl sm_ ?_; (with_reducible refine (spec_l4Copy.calls a1_0 a1_1 a1_2 a1_3 _ _ l1_4 t467 t468 t469 t470 t471 _ ?side1 ?side2 A42.out).mono ?_); (case side1 => repeat (first | exact (Kd.C_below HR1_4.out HB.out) | (with_reducible refine Kd.C_alloc ?_ _) | (with_reducible refine Kd.C_drewN ?_ _) | (with_reducible refine Kd.C_drew ?_))); (case side2 => exact HC1_4.out); rintro e w48 ⟨v472, rfl, ho0, hb⟩; refine ⟨_, rfl, ?_⟩; have HO473 := Aside0.mk (Kd.R_lower ho0 (below_size (hb_ HB.out))); replace HO_5 := Aside0.mk (Kd.S_elder' (qa11_) (Kd.R_base ho0) hb); replace BK441 := cb_ BK441 hb; replace BK456 := cb_ BK456 hb; replace HB := ch_ HB hb; (try clear hb); (try clear hb2); (try clear hk); (try clear hi); (try clear ho0); obtain ⟨Ao50, co50, eo50⟩ := Kd.R_slice HO473.out; subst eo50) | ((with_reducible refine gate_builtin (b := .append) (xs := #[.tmp 62, .tmp 65]) rfl ?_); at_builtin; refine Kd.S_append k_Maker (w0 := w) w.heap.size rfl (.tmp 62) (.tmp 65) 40 38 (.agg #[(.int .i64 0), (.int .i64 0), (.int .i64 0), (.int .i64 0), (.slice none 0 0)]) 56 rfl Try.underlying40 info38 rfl (by decide) (by omega) u5 x5_1 (⟨t467, t468, t469, t470, t471⟩ : S_Maker) [.int .i64 t467, .int .i64 t468, .int .i64 t469, .int .i64 t470, .slice Ao50 t471.length co50] (fun k_ => k_ ≠ gb441 ∧ k_ ≠ gb456) (fun k_ => some k_ = (.slice Ao50 t471.length co50 : Value).ownBlock) rfl rfl ?aP (fun k_ hk_ => ((Kd.R_mono (ok' := fun k_ => ((fun k_ => k_ ≠ gb441 ∧ k_ ≠ gb456)) k_ ∧ some k_ ≠ (u5 : Value).ownBlock) (Kd.R_types (Kd.R_types (Kd.R_apart' (HO473.out) (Kd.S_typed HO_5.out) (by decide)) BK441.out (by decide)) BK456.out (by decide)) (fun k_ hk => ⟨⟨hk.1.2, hk.2⟩, hk.1.1.2⟩))).1 k_ hk_.symm) ?aF ?aO ?aB ?aS ?aL ?_; (case aP => exact k_Maker_mkM _ _ _ (⟨t467, t468, t469, t470, t471⟩ : S_Maker) (Kd.R_mono (Kd.R_tight rfl (Kd.R_mono (ok' := fun k_ => ((fun k_ => k_ ≠ gb441 ∧ k_ ≠ gb456)) k_ ∧ some k_ ≠ (u5 : Value).ownBlock) (Kd.R_types (Kd.R_types (Kd.R_apart' (HO473.out) (Kd.S_typed HO_5.out) (by decide)) BK441.out (by decide)) BK456.out (by decide)) (fun k_ hk => ⟨⟨hk.1.2, hk.2⟩, hk.1.1.2⟩))) (fun _ h_ => h_))); (case aB => exact (hb_ HB.out)); (case aF => exact (fun k_ hk => ⟨Kd.freshB (g := gb441) (o := .cells #[.int .i64 a1_0, .int .i64 a1_1, .int .i64 a1_2, .int .i64 a1_3, .slice A1_4 l1_4.length c1_4] 38 (0, 0)) (bq_ BK441.out) k_ hk, Kd.freshB (g := gb456) (o := .cells #[.int .i64 ((rd_Maker l0 x7_1).f0), .int .i64 ((rd_Maker l0 x7_1).f1), .int .i64 ((rd_Maker l0 x7_1).f2), .int .i64 ((rd_Maker l0 x7_1).f3), .slice A455_4 ((rd_Maker l0 x7_1).f4).length c455_4] 38 (0, 0)) (bq_ BK456.out) k_ hk⟩)); (case aO => exact (qa16_)); (case aS => exact (below_size (hb_ HB.out))); (case aL => have := LMc43.out; omega); intro v475 w49 ho hb hg hat; rw [← Ny474.out] at ho; have HO476 := Aside0.mk (ho); replace BK441 := Aside0.mk (blk_grown (g := gb441) (o := .cells #[.int .i64 a1_0, .int .i64 a1_1, .int .i64 a1_2, .int .i64 a1_3, .slice A1_4 l1_4.length c1_4] 38 (0, 0)) (bq_ BK441.out) hg (Kd.S_away HO_5.out (fun _ hk => hk.1.1))); replace BK456 := Aside0.mk (blk_grown (g := gb456) (o := .cells #[.int .i64 ((rd_Maker l0 x7_1).f0), .int .i64 ((rd_Maker l0 x7_1).f1), .int .i64 ((rd_Maker l0 x7_1).f2), .int .i64 ((rd_Maker l0 x7_1).f3), .slice A455_4 ((rd_Maker l0 x7_1).f4).length c455_4] 38 (0, 0)) (bq_ BK456.out) hg (Kd.S_away HO_5.out (fun _ hk => hk.1.2))); replace HB := Aside0.mk (hb); clear HO_5 HO473; clear ho hb hg hat; have hcz51_0 : w49.cell? ⟨gb456, 0, none⟩ = some (.int .i64 ((rd_Maker l0 x7_1).f0)) := bc_ BK456 0; have hcz51_1 : w49.cell? ⟨gb456, 1, none⟩ = some (.int .i64 ((rd_Maker l0 x7_1).f1)) := bc_ BK456 1; have hcz51_2 : w49.cell? ⟨gb456, 2, none⟩ = some (.int .i64 ((rd_Maker l0 x7_1).f2)) := bc_ BK456 2; have hcz51_3 : w49.cell? ⟨gb456, 3, none⟩ = some (.int .i64 ((rd_Maker l0 x7_1).f3)) := bc_ BK456 3; have hcz51_4 : w49.cell? ⟨gb456, 4, none⟩ = some (.slice A455_4 ((rd_Maker l0 x7_1).f4).length c455_4) := bc_ BK456 4; have hfz51_0 := blk_frozen BK456.out 0; have hfz51_1 := blk_frozen BK456.out 1; have hfz51_2 := blk_frozen BK456.out 2; have hfz51_3 := blk_frozen BK456.out 3; have hfz51_4 := blk_frozen BK456.out 4) | ((with_reducible refine gate_callee (f := 60) rfl ?_); refine goesL_ (some 69) rfl rfl Try.func60 (by kernel_rfl) rfl #[.agg #[.int .i64 ((rd_Maker l0 x7_1).f0), .int .i64 ((rd_Maker l0 x7_1).f1), .int .i64 ((rd_Maker l0 x7_1).f2), .int .i64 ((rd_Maker l0 x7_1).f3), .slice A455_4 ((rd_Maker l0 x7_1).f4).length c455_4]] rfl sm_ ?_; (with_reducible refine (spec_l4Copy.calls ((rd_Maker l0 x7_1).f0) ((rd_Maker l0 x7_1).f1) ((rd_Maker l0 x7_1).f2) ((rd_Maker l0 x7_1).f3) _ _ ((rd_Maker l0 x7_1).f4) t477 t478 t479 t480 t481 _ ?side1 ?side2 A44.out).mono ?_); (case side1 => repeat (first | exact (Kd.C_below HR455_4.out HB.out) | (with_reducible refine Kd.C_alloc ?_ _) | (with_reducible refine Kd.C_drewN ?_ _) | (with_reducible refine Kd.C_drew ?_))); (case side2 => exact HC455_4.out); rintro e w52 ⟨v482, rfl, ho0, hb⟩; refine ⟨_, rfl, ?_⟩; have HO483 := Aside0.mk (Kd.R_lower ho0 (below_size (hb_ HB.out))); replace HO476 := Aside0.mk (Kd.S_elder' (by (with_reducible repeat (first | apply Kd.S_alloc | apply Kd.S_drewN | apply Kd.S_drew)); exact HO476.out) (Kd.R_base ho0) hb); replace BK441 := cb_ BK441 hb; replace BK456 := cb_ BK456 hb; replace HB := ch_ HB hb; (try clear hb); (try clear hb2); (try clear hk); (try clear hi); (try clear ho0); obtain ⟨Ao54, co54, eo54⟩ := Kd.R_slice HO483.out; subst eo54) | ((with_reducible refine gate_builtin (b := .append) (xs := #[.tmp 67, .tmp 70]) rfl ?_); at_builtin; refine Kd.S_append k_Maker (w0 := w) w.heap.size rfl (.tmp 67) (.tmp 70) 40 38 (.agg #[(.int .i64 0), (.int .i64 0), (.int .i64 0), (.int .i64 0), (.slice none 0 0)]) 56 rfl Try.underlying40 info38 rfl (by decide) (by omega) v475 y474 (⟨t477, t478, t479, t480, t481⟩ : S_Maker) [.int .i64 t477, .int .i64 t478, .int .i64 t479, .int .i64 t480, .slice Ao54 t481.length co54] (fun k_ => k_ ≠ gb441 ∧ k_ ≠ gb456) (fun k_ => some k_ = (.slice Ao54 t481.length co54 : Value).ownBlock) rfl rfl ?aP (fun k_ hk_ => ((Kd.R_mono (ok' := fun k_ => ((fun k_ => k_ ≠ gb441 ∧ k_ ≠ gb456)) k_ ∧ some k_ ≠ (v475 : Value).ownBlock) (Kd.R_types (Kd.R_types (Kd.R_apart' (HO483.out) (Kd.S_typed HO476.out) (by decide)) BK441.out (by decide)) BK456.out (by decide)) (fun k_ hk => ⟨⟨hk.1.2, hk.2⟩, hk.1.1.2⟩))).1 k_ hk_.symm) ?aF ?aO ?aB ?aS ?aL ?_; (case aP => exact k_Maker_mkM _ _ _ (⟨t477, t478, t479, t480, t481⟩ : S_Maker) (Kd.R_mono (Kd.R_tight rfl (Kd.R_mono (ok' := fun k_ => ((fun k_ => k_ ≠ gb441 ∧ k_ ≠ gb456)) k_ ∧ some k_ ≠ (v475 : Value).ownBlock) (Kd.R_types (Kd.R_types (Kd.R_apart' (HO483.out) (Kd.S_typed HO476.out) (by decide)) BK441.out (by decide)) BK456.out (by decide)) (fun k_ hk => ⟨⟨hk.1.2, hk.2⟩, hk.1.1.2⟩))) (fun _ h_ => h_))); (case aB => exact (hb_ HB.out)); (case aF => exact (fun k_ hk => ⟨Kd.freshB (g := gb441) (o := .cells #[.int .i64 a1_0, .int .i64 a1_1, .int .i64 a1_2, .int .i64 a1_3, .slice A1_4 l1_4.length c1_4] 38 (0, 0)) (bq_ BK441.out) k_ hk, Kd.freshB (g := gb456) (o := .cells #[.int .i64 ((rd_Maker l0 x7_1).f0), .int .i64 ((rd_Maker l0 x7_1).f1), .int .i64 ((rd_Maker l0 x7_1).f2), .int .i64 ((rd_Maker l0 x7_1).f3), .slice A455_4 ((rd_Maker l0 x7_1).f4).length c455_4] 38 (0, 0)) (bq_ BK456.out) k_ hk⟩)); (case aO => exact (by (with_reducible repeat (first | apply Kd.S_alloc | apply Kd.S_drewN | apply Kd.S_drew)); exact Kd.S_mono HO476.out (fun k_ hk => ⟨⟨hk.1.1, hk.1.2⟩, fun e_ => hk.2 e_⟩))); (case aS => exact (below_size (hb_ HB.out))); (case aL => have := LMc45.out; omega); intro v485 w53 ho hb hg hat; rw [← Ny484.out] at ho; have HO486 := Aside0.mk (ho); replace BK441 := Aside0.mk (blk_grown (g := gb441) (o := .cells #[.int .i64 a1_0, .int .i64 a1_1, .int .i64 a1_2, .int .i64 a1_3, .slice A1_4 l1_4.length c1_4] 38 (0, 0)) (bq_ BK441.out) hg (Kd.S_away HO476.out (fun _ hk => hk.1.1))); replace BK456 := Aside0.mk (blk_grown (g := gb456) (o := .cells #[.int .i64 ((rd_Maker l0 x7_1).f0), .int .i64 ((rd_Maker l0 x7_1).f1), .int .i64 ((rd_Maker l0 x7_1).f2), .int .i64 ((rd_Maker l0 x7_1).f3), .slice A455_4 ((rd_Maker l0 x7_1).f4).length c455_4] 38 (0, 0)) (bq_ BK456.out) hg (Kd.S_away HO476.out (fun _ hk => hk.1.2))); replace HB := Aside0.mk (hb); clear HO476 HO483; clear ho hb hg hat))
             go_roundg kj27
             case measure => have := HK1.out; have := HJ7.out; have := HJ27.out; omega
             case rel => exact ⟨(y484), (true), (wrap64 (x7_1 + 1)), (qa3_), (qa3_), H', ⟨by have := HK1.out; have := HJ7.out; have := HJ27.out; omega⟩, ⟨by (with_reducible repeat (first | apply Kd.S_alloc | apply Kd.S_drewN | apply Kd.S_drew)); exact Kd.S_mono HO486.out (fun _ hk => hk.1)⟩, ⟨bq_ BK441.out⟩, ⟨hb_ HB.out⟩⟩
            ·
             rw [if_neg c45] at H
             exact absurd H (by simp)
           ·
            rw [if_neg c43] at H
            exact absurd H (by simp)
          ·
           replace c41 := Bool.eq_false_iff.mpr c41
           subst c41
           have H1 : ((spec_l4Copy.f ((rd_Maker l0 x7_1).f0) ((rd_Maker l0 x7_1).f1) ((rd_Maker l0 x7_1).f2) ((rd_Maker l0 x7_1).f3) ((rd_Maker l0 x7_1).f4)).bind fun bt487 => (if x5_1.length < 2513169434916 then (spec_MakerSet.l0 kj27 l0 (x5_1 ++ [(⟨bt487.1, bt487.2.1, bt487.2.2.1, bt487.2.2.2.1, bt487.2.2.2.2⟩ : S_Maker)]) x6_1 (wrap64 (x7_1 + 1)) a1_0 a1_1 a1_2 a1_3 l1_4) else (none))) = some r := by rw [if_neg (show ¬ (false = true) by decide)] at H; exact H
           clear H
           have H := H1
           clear H1
           replace H := Option.bind_eq_some_iff.mp H
           obtain ⟨⟨t487, t488, t489, t490, t491⟩, A550, H⟩ := H
           replace H : (if x5_1.length < 2513169434916 then (spec_MakerSet.l0 kj27 l0 (x5_1 ++ [(⟨t487, t488, t489, t490, t491⟩ : S_Maker)]) x6_1 (wrap64 (x7_1 + 1)) a1_0 a1_1 a1_2 a1_3 l1_4) else (none)) = some r := H
           have A55 := Aside0.mk A550
           clear A550
           by_cases c56 : x5_1.length < 2513169434916
           ·
            rw [if_pos c56] at H
            have LMc56 := Aside0.mk c56
            clear c56
            obtain ⟨y494, hy494⟩ : ∃ y_ : List (S_Maker), y_ = (x5_1 ++ [(⟨t487, t488, t489, t490, t491⟩ : S_Maker)]) := ⟨_, rfl⟩
            replace H : (spec_MakerSet.l0 kj27 l0 y494 x6_1 (wrap64 (x7_1 + 1)) a1_0 a1_1 a1_2 a1_3 l1_4) = some r := by first | (rw [hy494]; with_reducible exact H) | (have H2_ := (Option.bind_some _ _).symm.trans H; rw [hy494]; with_reducible exact H2_) | (have H2_ := (Option.bind_some _ _).symm.trans H; with_reducible exact H2_) | with_reducible exact H | (rw [hy494]; exact H) | exact H
            have Ny494 := Aside0.mk hy494
            clear hy494
            have H' := Aside0.mk H
            clear H
            have hnb57 := NB456_441.out
            have hnc57 := NB441_456.out
            have hcz58_0 : wc.cell? ⟨gb456, 0, none⟩ = some (.int .i64 ((rd_Maker l0 x7_1).f0)) := bc_ BK456 0
            have hcz58_1 : wc.cell? ⟨gb456, 1, none⟩ = some (.int .i64 ((rd_Maker l0 x7_1).f1)) := bc_ BK456 1
            have hcz58_2 : wc.cell? ⟨gb456, 2, none⟩ = some (.int .i64 ((rd_Maker l0 x7_1).f2)) := bc_ BK456 2
            have hcz58_3 : wc.cell? ⟨gb456, 3, none⟩ = some (.int .i64 ((rd_Maker l0 x7_1).f3)) := bc_ BK456 3
            have hcz58_4 : wc.cell? ⟨gb456, 4, none⟩ = some (.slice A455_4 ((rd_Maker l0 x7_1).f4).length c455_4) := bc_ BK456 4
            have hfz58_0 := blk_frozen BK456.out 0
            have hfz58_1 := blk_frozen BK456.out 1
            have hfz58_2 := blk_frozen BK456.out 2
            have hfz58_3 := blk_frozen BK456.out 3
            have hfz58_4 := blk_frozen BK456.out 4
            go_wp2_with (first | ((with_reducible refine gate_callee (f := 60) rfl ?_); refine goesL_ (some 69) rfl rfl Try.func60 (by kernel_rfl) rfl #[.agg #[.int .i64 ((rd_Maker l0 x7_1).f0), .int .i64 ((rd_Maker l0 x7_1).f1), .int .i64 ((rd_Maker l0 x7_1).f2), .int .i64 ((rd_Maker l0 x7_1).f3), .slice A455_4 ((rd_Maker l0 x7_1).f4).length c455_4]] rfl sm_ ?_; (with_reducible refine (spec_l4Copy.calls ((rd_Maker l0 x7_1).f0) ((rd_Maker l0 x7_1).f1) ((rd_Maker l0 x7_1).f2) ((rd_Maker l0 x7_1).f3) _ _ ((rd_Maker l0 x7_1).f4) t487 t488 t489 t490 t491 _ ?side1 ?side2 A55.out).mono ?_); (case side1 => repeat (first | exact (Kd.C_below HR455_4.out HB.out) | (with_reducible refine Kd.C_alloc ?_ _) | (with_reducible refine Kd.C_drewN ?_ _) | (with_reducible refine Kd.C_drew ?_))); (case side2 => exact HC455_4.out); rintro e w59 ⟨v492, rfl, ho0, hb⟩; refine ⟨_, rfl, ?_⟩; have HO493 := Aside0.mk (Kd.R_lower ho0 (below_size (hb_ HB.out))); replace HO_5 := Aside0.mk (Kd.S_elder' (qa11_) (Kd.R_base ho0) hb); replace BK441 := cb_ BK441 hb; replace BK456 := cb_ BK456 hb; replace HB := ch_ HB hb; (try clear hb); (try clear hb2); (try clear hk); (try clear hi); (try clear ho0); obtain ⟨Ao61, co61, eo61⟩ := Kd.R_slice HO493.out; subst eo61) | ((with_reducible refine gate_builtin (b := .append) (xs := #[.tmp 67, .tmp 70]) rfl ?_); at_builtin; refine Kd.S_append k_Maker (w0 := w) w.heap.size rfl (.tmp 67) (.tmp 70) 40 38 (.agg #[(.int .i64 0), (.int .i64 0), (.int .i64 0), (.int .i64 0), (.slice none 0 0)]) 56 rfl Try.underlying40 info38 rfl (by decide) (by omega) u5 x5_1 (⟨t487, t488, t489, t490, t491⟩ : S_Maker) [.int .i64 t487, .int .i64 t488, .int .i64 t489, .int .i64 t490, .slice Ao61 t491.length co61] (fun k_ => k_ ≠ gb441 ∧ k_ ≠ gb456) (fun k_ => some k_ = (.slice Ao61 t491.length co61 : Value).ownBlock) rfl rfl ?aP (fun k_ hk_ => ((Kd.R_mono (ok' := fun k_ => ((fun k_ => k_ ≠ gb441 ∧ k_ ≠ gb456)) k_ ∧ some k_ ≠ (u5 : Value).ownBlock) (Kd.R_types (Kd.R_types (Kd.R_apart' (HO493.out) (Kd.S_typed HO_5.out) (by decide)) BK441.out (by decide)) BK456.out (by decide)) (fun k_ hk => ⟨⟨hk.1.2, hk.2⟩, hk.1.1.2⟩))).1 k_ hk_.symm) ?aF ?aO ?aB ?aS ?aL ?_; (case aP => exact k_Maker_mkM _ _ _ (⟨t487, t488, t489, t490, t491⟩ : S_Maker) (Kd.R_mono (Kd.R_tight rfl (Kd.R_mono (ok' := fun k_ => ((fun k_ => k_ ≠ gb441 ∧ k_ ≠ gb456)) k_ ∧ some k_ ≠ (u5 : Value).ownBlock) (Kd.R_types (Kd.R_types (Kd.R_apart' (HO493.out) (Kd.S_typed HO_5.out) (by decide)) BK441.out (by decide)) BK456.out (by decide)) (fun k_ hk => ⟨⟨hk.1.2, hk.2⟩, hk.1.1.2⟩))) (fun _ h_ => h_))); (case aB => exact (hb_ HB.out)); (case aF => exact (fun k_ hk => ⟨Kd.freshB (g := gb441) (o := .cells #[.int .i64 a1_0, .int .i64 a1_1, .int .i64 a1_2, .int .i64 a1_3, .slice A1_4 l1_4.length c1_4] 38 (0, 0)) (bq_ BK441.out) k_ hk, Kd.freshB (g := gb456) (o := .cells #[.int .i64 ((rd_Maker l0 x7_1).f0), .int .i64 ((rd_Maker l0 x7_1).f1), .int .i64 ((rd_Maker l0 x7_1).f2), .int .i64 ((rd_Maker l0 x7_1).f3), .slice A455_4 ((rd_Maker l0 x7_1).f4).length c455_4] 38 (0, 0)) (bq_ BK456.out) k_ hk⟩)); (case aO => exact (qa16_)); (case aS => exact (below_size (hb_ HB.out))); (case aL => have := LMc56.out; omega); intro v495 w60 ho hb hg hat; rw [← Ny494.out] at ho; have HO496 := Aside0.mk (ho); replace BK441 := Aside0.mk (blk_grown (g := gb441) (o := .cells #[.int .i64 a1_0, .int .i64 a1_1, .int .i64 a1_2, .int .i64 a1_3, .slice A1_4 l1_4.length c1_4] 38 (0, 0)) (bq_ BK441.out) hg (Kd.S_away HO_5.out (fun _ hk => hk.1.1))); replace BK456 := Aside0.mk (blk_grown (g := gb456) (o := .cells #[.int .i64 ((rd_Maker l0 x7_1).f0), .int .i64 ((rd_Maker l0 x7_1).f1), .int .i64 ((rd_Maker l0 x7_1).f2), .int .i64 ((rd_Maker l0 x7_1).f3), .slice A455_4 ((rd_Maker l0 x7_1).f4).length c455_4] 38 (0, 0)) (bq_ BK456.out) hg (Kd.S_away HO_5.out (fun _ hk => hk.1.2))); replace HB := Aside0.mk (hb); clear HO_5 HO493; clear ho hb hg hat))
            go_roundg kj27
            case measure => have := HK1.out; have := HJ7.out; have := HJ27.out; omega
            case rel => exact ⟨(y494), (x6_1), (wrap64 (x7_1 + 1)), (qa3_), (qa3_), H', ⟨by have := HK1.out; have := HJ7.out; have := HJ27.out; omega⟩, ⟨by (with_reducible repeat (first | apply Kd.S_alloc | apply Kd.S_drewN | apply Kd.S_drew)); exact Kd.S_mono HO496.out (fun _ hk => hk.1)⟩, ⟨bq_ BK441.out⟩, ⟨hb_ HB.out⟩⟩
           ·
            rw [if_neg c56] at H
            exact absurd H (by simp)
    ·
     rw [if_neg c7] at H
     exact absurd H (by simp)
   ·
    rw [if_neg c6] at H
    have c6b0 : decide (x7_1 < (l0.length : Int)) = false := decide_eq_false c6
    clear c6
    by_cases c62 : x6_1 = true
    ·
     subst c62
     have H1 : (some x5_1) = some r := by rw [if_pos rfl] at H; exact H
     clear H
     have H := H1
     clear H1
     obtain rfl := Option.some.inj H
     go_wp2
     go_ret
     exact ⟨_, er_, by (with_reducible repeat (first | apply Kd.S_alloc | apply Kd.S_drewN | apply Kd.S_drew)); exact Kd.S_mono HO_5.out (fun _ hk => trivial), hb_ HB.out⟩
    ·
     replace c62 := Bool.eq_false_iff.mpr c62
     subst c62
     have H1 : ((spec_l4Copy.f a1_0 a1_1 a1_2 a1_3 l1_4).bind fun bt445 => (if x5_1.length < 2513169434916 then (some (x5_1 ++ [(⟨bt445.1, bt445.2.1, bt445.2.2.1, bt445.2.2.2.1, bt445.2.2.2.2⟩ : S_Maker)])) else (none))) = some r := by rw [if_neg (show ¬ (false = true) by decide)] at H; exact H
     clear H
     have H := H1
     clear H1
     replace H := Option.bind_eq_some_iff.mp H
     obtain ⟨⟨t445, t446, t447, t448, t449⟩, A630, H⟩ := H
     replace H : (if x5_1.length < 2513169434916 then (some (x5_1 ++ [(⟨t445, t446, t447, t448, t449⟩ : S_Maker)])) else (none)) = some r := H
     have A63 := Aside0.mk A630
     clear A630
     by_cases c64 : x5_1.length < 2513169434916
     ·
      rw [if_pos c64] at H
      have LMc64 := Aside0.mk c64
      clear c64
      obtain ⟨y452, hy452⟩ : ∃ y_ : List (S_Maker), y_ = (x5_1 ++ [(⟨t445, t446, t447, t448, t449⟩ : S_Maker)]) := ⟨_, rfl⟩
      replace H : (some y452) = some r := by first | (rw [hy452]; with_reducible exact H) | (have H2_ := (Option.bind_some _ _).symm.trans H; rw [hy452]; with_reducible exact H2_) | (have H2_ := (Option.bind_some _ _).symm.trans H; with_reducible exact H2_) | with_reducible exact H | (rw [hy452]; exact H) | exact H
      have Ny452 := Aside0.mk hy452
      clear hy452
      obtain rfl := Option.some.inj H
      have hcz65_0 : wr.cell? ⟨gb441, 0, none⟩ = some (.int .i64 a1_0) := bc_ BK441 0
      have hcz65_1 : wr.cell? ⟨gb441, 1, none⟩ = some (.int .i64 a1_1) := bc_ BK441 1
      have hcz65_2 : wr.cell? ⟨gb441, 2, none⟩ = some (.int .i64 a1_2) := bc_ BK441 2
      have hcz65_3 : wr.cell? ⟨gb441, 3, none⟩ = some (.int .i64 a1_3) := bc_ BK441 3
      have hcz65_4 : wr.cell? ⟨gb441, 4, none⟩ = some (.slice A1_4 l1_4.length c1_4) := bc_ BK441 4
      have hfz65_0 := blk_frozen BK441.out 0
      have hfz65_1 := blk_frozen BK441.out 1
      have hfz65_2 := blk_frozen BK441.out 2
      have hfz65_3 := blk_frozen BK441.out 3
      have hfz65_4 := blk_frozen BK441.out 4
      go_wp2_with (first | ((with_reducible refine gate_callee (f := 60) rfl ?_); refine goesL_ (some 76) rfl rfl Try.func60 (by kernel_rfl) rfl #[.agg #[.int .i64 a1_0, .int .i64 a1_1, .int .i64 a1_2, .int .i64 a1_3, .slice A1_4 l1_4.length c1_4]] rfl sm_ ?_; (with_reducible refine (spec_l4Copy.calls a1_0 a1_1 a1_2 a1_3 _ _ l1_4 t445 t446 t447 t448 t449 _ ?side1 ?side2 A63.out).mono ?_); (case side1 => repeat (first | exact (Kd.C_below HR1_4.out HB.out) | (with_reducible refine Kd.C_alloc ?_ _) | (with_reducible refine Kd.C_drewN ?_ _) | (with_reducible refine Kd.C_drew ?_))); (case side2 => exact HC1_4.out); rintro e w66 ⟨v450, rfl, ho0, hb⟩; refine ⟨_, rfl, ?_⟩; have HO451 := Aside0.mk (Kd.R_lower ho0 (below_size (hb_ HB.out))); replace HO_5 := Aside0.mk (Kd.S_elder' (qa11_) (Kd.R_base ho0) hb); replace BK441 := cb_ BK441 hb; replace HB := ch_ HB hb; (try clear hb); (try clear hb2); (try clear hk); (try clear hi); (try clear ho0); obtain ⟨Ao68, co68, eo68⟩ := Kd.R_slice HO451.out; subst eo68) | ((with_reducible refine gate_builtin (b := .append) (xs := #[.tmp 74, .tmp 77]) rfl ?_); at_builtin; refine Kd.S_append k_Maker (w0 := w) w.heap.size rfl (.tmp 74) (.tmp 77) 40 38 (.agg #[(.int .i64 0), (.int .i64 0), (.int .i64 0), (.int .i64 0), (.slice none 0 0)]) 56 rfl Try.underlying40 info38 rfl (by decide) (by omega) u5 x5_1 (⟨t445, t446, t447, t448, t449⟩ : S_Maker) [.int .i64 t445, .int .i64 t446, .int .i64 t447, .int .i64 t448, .slice Ao68 t449.length co68] (fun k_ => k_ ≠ gb441) (fun k_ => some k_ = (.slice Ao68 t449.length co68 : Value).ownBlock) rfl rfl ?aP (fun k_ hk_ => ((Kd.R_mono (ok' := fun k_ => ((fun k_ => k_ ≠ gb441)) k_ ∧ some k_ ≠ (u5 : Value).ownBlock) (Kd.R_types (Kd.R_apart' (HO451.out) (Kd.S_typed HO_5.out) (by decide)) BK441.out (by decide)) (fun k_ hk => ⟨hk.2, hk.1.2⟩))).1 k_ hk_.symm) ?aF ?aO ?aB ?aS ?aL ?_; (case aP => exact k_Maker_mkM _ _ _ (⟨t445, t446, t447, t448, t449⟩ : S_Maker) (Kd.R_mono (Kd.R_tight rfl (Kd.R_mono (ok' := fun k_ => ((fun k_ => k_ ≠ gb441)) k_ ∧ some k_ ≠ (u5 : Value).ownBlock) (Kd.R_types (Kd.R_apart' (HO451.out) (Kd.S_typed HO_5.out) (by decide)) BK441.out (by decide)) (fun k_ hk => ⟨hk.2, hk.1.2⟩))) (fun _ h_ => h_))); (case aB => exact (hb_ HB.out)); (case aF => exact (fun k_ hk => Kd.freshB (g := gb441) (o := .cells #[.int .i64 a1_0, .int .i64 a1_1, .int .i64 a1_2, .int .i64 a1_3, .slice A1_4 l1_4.length c1_4] 38 (0, 0)) (bq_ BK441.out) k_ hk)); (case aO => exact (by (with_reducible repeat (first | apply Kd.S_alloc | apply Kd.S_drewN | apply Kd.S_drew)); exact Kd.S_mono HO_5.out (fun k_ hk => ⟨hk.1, fun e_ => hk.2 e_⟩))); (case aS => exact (below_size (hb_ HB.out))); (case aL => have := LMc64.out; omega); intro v453 w67 ho hb hg hat; rw [← Ny452.out] at ho; have HO454 := Aside0.mk (ho); replace BK441 := Aside0.mk (blk_grown (g := gb441) (o := .cells #[.int .i64 a1_0, .int .i64 a1_1, .int .i64 a1_2, .int .i64 a1_3, .slice A1_4 l1_4.length c1_4] 38 (0, 0)) (bq_ BK441.out) hg (Kd.S_away HO_5.out (fun _ hk => hk.1))); replace HB := Aside0.mk (hb); clear HO_5 HO451; clear ho hb hg hat))
      go_ret
      exact ⟨_, er_, by (with_reducible repeat (first | apply Kd.S_alloc | apply Kd.S_drewN | apply Kd.S_drew)); exact Kd.S_mono HO454.out (fun _ hk => trivial), hb_ HB.out⟩
     ·
      rw [if_neg c64] at H
      exact absurd H (by simp)
/-! ### impl_copyMakers: function 67 -/
def impl_copyMakers.l0 : Nat → List (S_Maker) → List (S_Maker) → Int → Int → Option ((List (S_Maker)))
  | 0, _, _, _, _ => none
  | k + 1, x3, x6, x7, x8 => if x8 < x7 then (if 0 ≤ x8 then (if x8 < (x6.length : Int) then ((impl_copyMaker.f ((rd_Maker x6 x8).f0) ((rd_Maker x6 x8).f1) ((rd_Maker x6 x8).f2) ((rd_Maker x6 x8).f3) ((rd_Maker x6 x8).f4)).bind fun bt499 => (if x3.length < 2513169434916 then (impl_copyMakers.l0 k (x3 ++ [(⟨bt499.1, bt499.2.1, bt499.2.2.1, bt499.2.2.2.1, bt499.2.2.2.2⟩ : S_Maker)]) x6 x7 (wrap64 (x8 + 1))) else (none))) else (none)) else (none)) else (some x3)
def impl_copyMakers.f (k : Nat) (l0 : List (S_Maker)) : Option ((List (S_Maker))) := impl_copyMakers.l0 k ([] : List (S_Maker)) l0 (l0.length : Int) 0
theorem impl_copyMakers.mono_l : ∀ k, (∀ y0 y1 y2 y3, LeO (impl_copyMakers.l0 k y0 y1 y2 y3) (impl_copyMakers.l0 (k + 1) y0 y1 y2 y3))
  | 0 => fun _ _ _ _ r h => by simp [impl_copyMakers.l0] at h
  | k + 1 => by
    have ih0 := impl_copyMakers.mono_l k
    · intro y0 y1 y2 y3
      unfold impl_copyMakers.l0
      exact qah0_
theorem impl_copyMakers.mono : ∀ a0 k, LeO (impl_copyMakers.f k a0) (impl_copyMakers.f (k + 1) a0) := by
  intro a0 k
  have ih0 := impl_copyMakers.mono_l k
  unfold impl_copyMakers.f
  exact qah0_
set_option maxHeartbeats 8000000 in
set_option maxRecDepth 100000 in
theorem impl_copyMakers.calls (k : Nat) (A0 : Option Addr) (c0 : Nat) (l0 : List (S_Maker)) (r : List (S_Maker)) (w : World) (hr0 : Kd.C k_Maker w A0 l0.length l0) (hc0 : l0.length ≤ c0) (h : impl_copyMakers.f k l0 = some r) :
    Calls Try.prog 67 #[.slice A0 l0.length c0] w fun e w' => ∃ v0_ : Value, e = .returned (v0_) ∧ Kd.S k_Maker 38 w' w.heap.size (fun _ => True) v0_ r ∧ Below w.heap.size w w' := by
  have hu38 := Try.underlying38
  have HR0 := Aside0.mk hr0
  have HC0 := Aside0.mk hc0
  clear hr0 hc0
  have HB := Aside0.mk (Below.refl w.heap.size w)
  have H : (impl_copyMakers.l0 k ([] : List (S_Maker)) l0 (l0.length : Int) 0) = some r := h
  clear h
  have H' := Aside0.mk H
  clear H
  go_enter Try.func67, Try.ntmps67
  go_wp2
  go_loopg [3, 8] k (fun kq v3 v8 w' => ∃ (x3_1 : List (S_Maker)) (x8_1 : Int), v8 = .int .i64 x8_1 ∧ Aside0 (impl_copyMakers.l0 kq x3_1 l0 (l0.length : Int) x8_1 = some r) ∧ Aside0 (kq ≤ k) ∧ Aside0 (Kd.S k_Maker 38 w' w.heap.size (fun _ => True) v3 x3_1) ∧ Aside0 (Below w.heap.size w w'))
  case atStart => exact ⟨(([] : List (S_Maker))), (0), (qa3_), H', ⟨Nat.le_refl _⟩, ⟨by first | exact Kd.S_nil _ _ _ _ _ | exact Kd.N_nil _ _ _ _ _ | exact Kd.V_nil _ _ _ _ _ | exact Kd.Q_nil _ _ _ _ _ | exact Kd.R_nil _ _ _ _ _⟩, ⟨qa0_⟩⟩
  case round =>
    clear H'
    obtain ⟨x3_1, x8_1, rfl, HA, HK1, HO_3, HB⟩ := hrel
    cases gk with
    | zero => exact absurd HA.out (by simp [impl_copyMakers.l0])
    | succ k1 =>
      have H := HA.out
      clear HA
      simp only [impl_copyMakers.l0] at H
      by_cases c2 : x8_1 < (l0.length : Int)
      · rw [if_pos c2] at H
        have c2b0 : decide (x8_1 < (l0.length : Int)) = true := decide_eq_true c2
        clear c2
        by_cases c3 : 0 ≤ x8_1
        · rw [if_pos c3] at H
          have c3b0 : decide (0 ≤ x8_1) = true := decide_eq_true c3
          clear c3
          by_cases c4 : x8_1 < (l0.length : Int)
          · rw [if_pos c4] at H
            have c4b0 : decide (x8_1 < (l0.length : Int)) = true := decide_eq_true c4
            clear c4
            replace H := Option.bind_eq_some_iff.mp H
            obtain ⟨⟨t499, t500, t501, t502, t503⟩, A50, H⟩ := H
            replace H : (if x3_1.length < 2513169434916 then (impl_copyMakers.l0 k1 (x3_1 ++ [(⟨t499, t500, t501, t502, t503⟩ : S_Maker)]) l0 (l0.length : Int) (wrap64 (x8_1 + 1))) else (none)) = some r := H
            have A5 := Aside0.mk A50
            clear A50
            by_cases c6 : x3_1.length < 2513169434916
            · rw [if_pos c6] at H
              have LMc6 := Aside0.mk c6
              clear c6
              obtain ⟨y506, hy506⟩ : ∃ y_ : List (S_Maker), y_ = (x3_1 ++ [(⟨t499, t500, t501, t502, t503⟩ : S_Maker)]) := ⟨_, rfl⟩
              replace H : (impl_copyMakers.l0 k1 y506 l0 (l0.length : Int) (wrap64 (x8_1 + 1))) = some r := by first | (rw [hy506]; with_reducible exact H) | (have H2_ := (Option.bind_some _ _).symm.trans H; rw [hy506]; with_reducible exact H2_) | (have H2_ := (Option.bind_some _ _).symm.trans H; with_reducible exact H2_) | with_reducible exact H | (rw [hy506]; exact H) | exact H
              have Ny506 := Aside0.mk hy506
              clear hy506
              have H' := Aside0.mk H
              clear H
              have p497 : 0 ≤ (x8_1 : Int) := of_decide_eq_true dt_
              have q497 : x8_1 < (l0.length : Int) := of_decide_eq_true dt_
              obtain ⟨ad497, A497_4, c497_4, e497, hx497_0, hx497_1, hx497_2, hx497_3, hx497_4, hl497_4, hi497_4⟩ := at_Maker HR0.out x8_1 p497 q497
              cases e497
              replace hx497_0 := hc_ HB hx497_0
              replace hx497_1 := hc_ HB hx497_1
              replace hx497_2 := hc_ HB hx497_2
              replace hx497_3 := hc_ HB hx497_3
              replace hx497_4 := hc_ HB hx497_4
              have HR497_4 := Aside0.mk hi497_4
              have HC497_4 := Aside0.mk hl497_4
              clear hi497_4 hl497_4
              replace p497 := eq_true p497
              replace q497 := eq_true q497
              go_wp2_with (first | ((with_reducible refine gate_dst (N := 5) rfl ?_); refine box_event ?hg (N := 5) ?hd (cs := #[.int .i64 0, .int .i64 0, .int .i64 0, .int .i64 0, .slice none 0 0]) (t := 38) ?hr ?_; (case hd => rfl); (case hg => rfl); (case hr => first | (go_simp; done) | (go_simp; rfl)); intro gb498 hg w7 hbox hb; have BK498 := Aside0.mk (hbox); have GW498 := Aside0.mk ((by rw [hg]; exact (below_size (qa0_)) : w.heap.size ≤ gb498)); have GE498 := Aside0.mk ((by rw [hg]; exact (below_size (qa0_)) : w.heap.size ≤ gb498)); replace HO_3 := Aside0.mk (Kd.S_below (Kd.S_elderB (by (with_reducible repeat (first | apply Kd.S_alloc | apply Kd.S_drewN | apply Kd.S_drew)); exact HO_3.out) gb498 (Nat.le_of_eq hg.symm)) hb); replace HB := Aside0.mk (below_step (qa0_) hb); clear hb hbox hg; have hcz8_0 : w7.cell? ⟨gb498, 0, none⟩ = some (.int .i64 0) := bc_ BK498 0; have hcz8_1 : w7.cell? ⟨gb498, 1, none⟩ = some (.int .i64 0) := bc_ BK498 1; have hcz8_2 : w7.cell? ⟨gb498, 2, none⟩ = some (.int .i64 0) := bc_ BK498 2; have hcz8_3 : w7.cell? ⟨gb498, 3, none⟩ = some (.int .i64 0) := bc_ BK498 3; have hcz8_4 : w7.cell? ⟨gb498, 4, none⟩ = some (.slice none 0 0) := bc_ BK498 4; have hfz8_0 := blk_frozen BK498.out 0; have hfz8_1 := blk_frozen BK498.out 1; have hfz8_2 := blk_frozen BK498.out 2; have hfz8_3 := blk_frozen BK498.out 3; have hfz8_4 := blk_frozen BK498.out 4) | ((with_reducible refine gate_callee (f := 61) rfl ?_); refine goesL_ (some 14) rfl rfl Try.func61 (by kernel_rfl) rfl #[.agg #[.int .i64 ((rd_Maker l0 x8_1).f0), .int .i64 ((rd_Maker l0 x8_1).f1), .int .i64 ((rd_Maker l0 x8_1).f2), .int .i64 ((rd_Maker l0 x8_1).f3), .slice A497_4 ((rd_Maker l0 x8_1).f4).length c497_4]] rfl (qa5_) ?_; (with_reducible refine (impl_copyMaker.calls ((rd_Maker l0 x8_1).f0) ((rd_Maker l0 x8_1).f1) ((rd_Maker l0 x8_1).f2) ((rd_Maker l0 x8_1).f3) _ _ ((rd_Maker l0 x8_1).f4) t499 t500 t501 t502 t503 _ ?side1 ?side2 A5.out).mono ?_); (case side1 => exact Kd.C_below HR497_4.out (qa10_)); (case side2 => exact HC497_4.out); rintro e w9 ⟨v504, rfl, ho0, hb⟩; refine ⟨_, rfl, ?_⟩; have HO505 := Aside0.mk (Kd.R_lower ho0 (below_size (qa10_))); replace HO_3 := Aside0.mk (Kd.S_elder' (by (with_reducible repeat (first | apply Kd.S_alloc | apply Kd.S_drewN | apply Kd.S_drew)); exact (Kd.S_mono (Kd.S_far (p := ⟨gb498, 4, none⟩) (Kd.S_far (p := ⟨gb498, 3, none⟩) (Kd.S_far (p := ⟨gb498, 2, none⟩) (Kd.S_far (p := ⟨gb498, 1, none⟩) (Kd.S_far (p := ⟨gb498, 0, none⟩) (Kd.S_mono HO_3.out (fun k_ hk => (⟨hk, hk.2⟩ : _ ∧ k_ ≠ gb498))) (fun _ hk => hk.2) (.int .i64 ((rd_Maker l0 x8_1).f0))) (fun _ hk => hk.2) (.int .i64 ((rd_Maker l0 x8_1).f1))) (fun _ hk => hk.2) (.int .i64 ((rd_Maker l0 x8_1).f2))) (fun _ hk => hk.2) (.int .i64 ((rd_Maker l0 x8_1).f3))) (fun _ hk => hk.2) (.slice A497_4 ((rd_Maker l0 x8_1).f4).length c497_4)) (fun _ h_ => h_.1))) (Kd.R_base ho0) hb); replace BK498 := Aside0.mk (blk_below (g := gb498) (o := .cells #[.int .i64 ((rd_Maker l0 x8_1).f0), .int .i64 ((rd_Maker l0 x8_1).f1), .int .i64 ((rd_Maker l0 x8_1).f2), .int .i64 ((rd_Maker l0 x8_1).f3), .slice A497_4 ((rd_Maker l0 x8_1).f4).length c497_4] 38 (0, 0)) (bp_ BK498.out) hb); replace HB := Aside0.mk (below_step (qa10_) hb); (try clear hb); (try clear hb2); (try clear hk); (try clear hi); (try clear ho0); obtain ⟨Ao11, co11, eo11⟩ := Kd.R_slice HO505.out; subst eo11) | ((with_reducible refine gate_builtin (b := .append) (xs := #[.tmp 12, .tmp 15]) rfl ?_); at_builtin; refine Kd.S_append k_Maker (w0 := w) w.heap.size rfl (.tmp 12) (.tmp 15) 40 38 (.agg #[(.int .i64 0), (.int .i64 0), (.int .i64 0), (.int .i64 0), (.slice none 0 0)]) 56 rfl Try.underlying40 info38 rfl (by decide) (by omega) u3 x3_1 (⟨t499, t500, t501, t502, t503⟩ : S_Maker) [.int .i64 t499, .int .i64 t500, .int .i64 t501, .int .i64 t502, .slice Ao11 t503.length co11] (fun k_ => k_ ≠ gb498) (fun k_ => some k_ = (.slice Ao11 t503.length co11 : Value).ownBlock) rfl rfl ?aP (fun k_ hk_ => ((Kd.R_mono (ok' := fun k_ => ((fun k_ => k_ ≠ gb498)) k_ ∧ some k_ ≠ (u3 : Value).ownBlock) (Kd.R_types (Kd.R_apart' (HO505.out) (Kd.S_typed HO_3.out) (by decide)) BK498.out (by decide)) (fun k_ hk => ⟨hk.2, hk.1.2⟩))).1 k_ hk_.symm) ?aF ?aO ?aB ?aS ?aL ?_; (case aP => exact k_Maker_mkM _ _ _ (⟨t499, t500, t501, t502, t503⟩ : S_Maker) (Kd.R_mono (Kd.R_tight rfl (Kd.R_mono (ok' := fun k_ => ((fun k_ => k_ ≠ gb498)) k_ ∧ some k_ ≠ (u3 : Value).ownBlock) (Kd.R_types (Kd.R_apart' (HO505.out) (Kd.S_typed HO_3.out) (by decide)) BK498.out (by decide)) (fun k_ hk => ⟨hk.2, hk.1.2⟩))) (fun _ h_ => h_))); (case aB => exact (qa10_)); (case aF => exact (fun k_ hk => Kd.freshB (g := gb498) (o := .cells #[.int .i64 ((rd_Maker l0 x8_1).f0), .int .i64 ((rd_Maker l0 x8_1).f1), .int .i64 ((rd_Maker l0 x8_1).f2), .int .i64 ((rd_Maker l0 x8_1).f3), .slice A497_4 ((rd_Maker l0 x8_1).f4).length c497_4] 38 (0, 0)) (bq_ BK498.out) k_ hk)); (case aO => exact (by (with_reducible repeat (first | apply Kd.S_alloc | apply Kd.S_drewN | apply Kd.S_drew)); exact Kd.S_mono HO_3.out (fun k_ hk => ⟨hk.1.2, fun e_ => hk.2 e_⟩))); (case aS => exact (below_size (qa10_))); (case aL => have := LMc6.out; omega); intro v507 w10 ho hb hg hat; rw [← Ny506.out] at ho; have HO508 := Aside0.mk (ho); replace BK498 := Aside0.mk (blk_grown (g := gb498) (o := .cells #[.int .i64 ((rd_Maker l0 x8_1).f0), .int .i64 ((rd_Maker l0 x8_1).f1), .int .i64 ((rd_Maker l0 x8_1).f2), .int .i64 ((rd_Maker l0 x8_1).f3), .slice A497_4 ((rd_Maker l0 x8_1).f4).length c497_4] 38 (0, 0)) (bq_ BK498.out) hg (Kd.S_away HO_3.out (fun _ hk => hk.1.2))); replace HB := Aside0.mk (hb); clear HO_3 HO505; clear ho hb hg hat))
              go_roundg k1
              case measure => have := HK1.out; omega
              case rel => exact ⟨(y506), (wrap64 (x8_1 + 1)), (qa3_), H', ⟨by have := HK1.out; omega⟩, ⟨by (with_reducible repeat (first | apply Kd.S_alloc | apply Kd.S_drewN | apply Kd.S_drew)); exact Kd.S_mono HO508.out (fun _ hk => trivial)⟩, ⟨qa10_⟩⟩
            · rw [if_neg c6] at H
              exact absurd H (by simp)
          · rw [if_neg c4] at H
            exact absurd H (by simp)
        · rw [if_neg c3] at H
          exact absurd H (by simp)
      · rw [if_neg c2] at H
        have c2b0 : decide (x8_1 < (l0.length : Int)) = false := decide_eq_false c2
        clear c2
        obtain rfl := Option.some.inj H
        go_wp2
        go_ret
        exact ⟨_, qa4_, by (with_reducible repeat (first | apply Kd.S_alloc | apply Kd.S_drewN | apply Kd.S_drew)); exact HO_3.out, qa0_⟩

/-! ### laws_big: function 9 -/
def laws_big.f (l0 : List Int) : Option (Bool) := some (decide ((l0.length : Int) > 1048576))
set_option maxHeartbeats 8000000 in
set_option maxRecDepth 100000 in
theorem laws_big.calls (A0 : Option Addr) (c0 : Nat) (l0 : List Int) (r : Bool) (w : World) (hr0 : Kd.C (Kd.int .u8) w A0 l0.length l0) (hc0 : l0.length ≤ c0) (h : laws_big.f l0 = some r) :
    Calls Try.prog 9 #[.slice A0 l0.length c0] w fun e w' => e = .returned (.bool r) ∧ Drawn0 w w' := by
  have HR0 := Aside0.mk hr0
  have HC0 := Aside0.mk hc0
  clear hr0 hc0
  have H : (some (decide ((l0.length : Int) > 1048576))) = some r := h
  clear h
  obtain rfl := Option.some.inj H
  go_enter Try.func9, Try.ntmps9
  go_wp2
  go_ret
  exact ⟨qa3_, qa19_⟩

/-- A state of type 126 at block g of W; what its slices lead to came in by w0. -/
def IsS_l1Cur (w0 W : World) (g : Nat) (f0 : List Int) (f1 : Int) (f2 : Int) : Prop := ∃ A0 c0, W.heap[g]? = some (.cells #[.slice A0 f0.length c0, .int .i64 f1, .int .i64 f2] 126 (0, 0)) ∧ w0.heap.size ≤ g ∧ (Kd.C (Kd.int .u8) w0 A0 f0.length f0 ∧ f0.length ≤ c0)
theorem IsS_l1Cur.grown {w0 W : World} {g : Nat} {f0 : List Int} {f1 : Int} {f2 : Int} {W1 : World} {row : Option Nat} (h : IsS_l1Cur w0 W g f0 f1 f2) (hw : W.grownBy W1 row) (hne : some g ≠ row) : IsS_l1Cur w0 W1 g f0 f1 f2 := by
  obtain ⟨A0, c0, hb, hg, ⟨hr0, hz0⟩⟩ := h
  exact ⟨A0, c0, blk_grown hb hw hne, hg, ⟨hr0, hz0⟩⟩
theorem IsS_l1Cur.own_neN {w0 W : World} {g : Nat} {f0 : List Int} {f1 : Int} {f2 : Int} {α : Type} {d : Kd α} {e : Nat} {base : Nat} {ok : Nat → Prop} {v : Value} {xs : List α} (h : IsS_l1Cur w0 W g f0 f1 f2) (ho : Kd.N d e W base ok v xs) (ht : e ≠ 126) : some g ≠ v.ownBlock := by
  obtain ⟨A0, c0, hb, hg, ⟨hr0, hz0⟩⟩ := h
  exact Kd.N_ne ho hb ht
theorem IsS_l1Cur.fresh {w0 W : World} {g : Nat} {f0 : List Int} {f1 : Int} {f2 : Int} (h : IsS_l1Cur w0 W g f0 f1 f2) : ∀ k, W.heap.size ≤ k → k ≠ g := by
  obtain ⟨A0, c0, hb, hg, ⟨hr0, hz0⟩⟩ := h
  exact Kd.freshB hb
theorem IsS_l1Cur.kept {w0 W : World} {g : Nat} {f0 : List Int} {f1 : Int} {f2 : Int} {W1 : World} {S : Nat → Prop} (h : IsS_l1Cur w0 W g f0 f1 f2) (hk : Kept W W1 S) (hne : ¬ S g) : IsS_l1Cur w0 W1 g f0 f1 f2 := by
  obtain ⟨A0, c0, hb, hg, ⟨hr0, hz0⟩⟩ := h
  exact ⟨A0, c0, blk_kept hb hk hne, hg, ⟨hr0, hz0⟩⟩
theorem IsS_l1Cur.below {w0 W : World} {g : Nat} {f0 : List Int} {f1 : Int} {f2 : Int} {W1 : World} (h : IsS_l1Cur w0 W g f0 f1 f2) (hw : Below W.heap.size W W1) : IsS_l1Cur w0 W1 g f0 f1 f2 := h.grown (grown_of_below hw none) (by simp)
theorem IsS_l1Cur.alloc {w0 W : World} {g : Nat} {f0 : List Int} {f1 : Int} {f2 : Int} (h : IsS_l1Cur w0 W g f0 f1 f2) (o : Obj) : IsS_l1Cur w0 (W.alloc o) g f0 f1 f2 := h.below (below_alloc (Below.refl _ _) o)
theorem IsS_l1Cur.drewN {w0 W : World} {g : Nat} {f0 : List Int} {f1 : Int} {f2 : Int} (h : IsS_l1Cur w0 W g f0 f1 f2) (m : Nat) : IsS_l1Cur w0 (W.drewN m) g f0 f1 f2 := h
theorem IsS_l1Cur.drew {w0 W : World} {g : Nat} {f0 : List Int} {f1 : Int} {f2 : Int} (h : IsS_l1Cur w0 W g f0 f1 f2) : IsS_l1Cur w0 W.drew g f0 f1 f2 := h
theorem IsS_l1Cur.at_ {w0 W : World} {g : Nat} {f0 : List Int} {f1 : Int} {f2 : Int} {w' : World} {m : Nat} (hq : W.drewN m = w') (h : IsS_l1Cur w0 W g f0 f1 f2) : IsS_l1Cur w0 w' g f0 f1 f2 := by subst hq; exact IsS_l1Cur.drewN h m
theorem IsS_l1Cur.apart {w0 W : World} {g : Nat} {f0 : List Int} {f1 : Int} {f2 : Int} {α : Type} {d : Kd α} {e : Nat} {base : Nat} {ok : Nat → Prop} {v : Value} {xs : List α} (h : IsS_l1Cur w0 W g f0 f1 f2) (ho : d.R e W base ok v xs) (ht : ∀ q, q ∈ e :: d.E → q ≠ 126) : d.R e W base (fun k => ok k ∧ k ≠ g) v xs := by
  obtain ⟨A0, c0, hb, hg, ⟨hr0, hz0⟩⟩ := h
  exact Kd.R_types ho hb ht
theorem IsS_l1Cur.own_ne {w0 W : World} {g : Nat} {f0 : List Int} {f1 : Int} {f2 : Int} {α : Type} {d : Kd α} {e : Nat} {base : Nat} {ok : Nat → Prop} {v : Value} {xs : List α} (h : IsS_l1Cur w0 W g f0 f1 f2) (ho : d.R e W base ok v xs) (ht : e ≠ 126) : some g ≠ v.ownBlock := by
  obtain ⟨A0, c0, hb, hg, ⟨hr0, hz0⟩⟩ := h
  exact Kd.R_ne ho hb ht
theorem IsS_l1Cur.apartQ {w0 W : World} {g : Nat} {f0 : List Int} {f1 : Int} {f2 : Int} {α : Type} {d : Kd α} {e : Nat} {base : Nat} {ok : Nat → Prop} {v : Value} {xs : List α} (h : IsS_l1Cur w0 W g f0 f1 f2) (ho : d.Q e W base ok v xs) (ht : ∀ q, q ∈ e :: d.E → q ≠ 126) : d.Q e W base (fun k => ok k ∧ k ≠ g) v xs := by
  obtain ⟨A0, c0, hb, hg, ⟨hr0, hz0⟩⟩ := h
  exact Kd.Q_types ho hb ht
theorem IsS_l1Cur.own_neQ {w0 W : World} {g : Nat} {f0 : List Int} {f1 : Int} {f2 : Int} {α : Type} {d : Kd α} {e : Nat} {base : Nat} {ok : Nat → Prop} {v : Value} {xs : List α} (h : IsS_l1Cur w0 W g f0 f1 f2) (ho : d.Q e W base ok v xs) (ht : e ≠ 126) : some g ≠ v.ownBlock := by
  obtain ⟨A0, c0, hb, hg, ⟨hr0, hz0⟩⟩ := h
  exact Kd.Q_ne ho hb ht
theorem IsS_l1Cur.apartS {w0 W : World} {g : Nat} {f0 : List Int} {f1 : Int} {f2 : Int} {α : Type} {d : Kd α} {e : Nat} {base : Nat} {ok : Nat → Prop} {v : Value} {xs : List α} (h : IsS_l1Cur w0 W g f0 f1 f2) (ho : d.S e W base ok v xs) (ht : ∀ q, q ∈ e :: d.E → q ≠ 126) : d.S e W base (fun k => ok k ∧ k ≠ g) v xs := by
  obtain ⟨A0, c0, hb, hg, ⟨hr0, hz0⟩⟩ := h
  exact Kd.S_types ho hb ht
theorem IsS_l1Cur.own_neS {w0 W : World} {g : Nat} {f0 : List Int} {f1 : Int} {f2 : Int} {α : Type} {d : Kd α} {e : Nat} {base : Nat} {ok : Nat → Prop} {v : Value} {xs : List α} (h : IsS_l1Cur w0 W g f0 f1 f2) (ho : d.S e W base ok v xs) (ht : e ≠ 126) : some g ≠ v.ownBlock := by
  obtain ⟨A0, c0, hb, hg, ⟨hr0, hz0⟩⟩ := h
  exact Kd.S_ne ho hb ht
theorem IsS_l1Cur.lt {w0 W : World} {g : Nat} {f0 : List Int} {f1 : Int} {f2 : Int} (h : IsS_l1Cur w0 W g f0 f1 f2) : g < W.heap.size := by
  obtain ⟨A0, c0, hb, hg, ⟨hr0, hz0⟩⟩ := h
  exact blk_lt hb
theorem IsS_l1Cur.ge {w0 W : World} {g : Nat} {f0 : List Int} {f1 : Int} {f2 : Int} (h : IsS_l1Cur w0 W g f0 f1 f2) : w0.heap.size ≤ g := by
  obtain ⟨A0, c0, hb, hg, ⟨hr0, hz0⟩⟩ := h
  exact hg
theorem IsS_l1Cur.ne_blk {w0 W : World} {g : Nat} {f0 : List Int} {f1 : Int} {f2 : Int} {a : Nat} {cs : Array Value} {t : TypeId} {fr : Nat × Nat} (h : IsS_l1Cur w0 W g f0 f1 f2) (hb2 : W.heap[a]? = some (.cells cs t fr)) (ht : t ≠ 126) : g ≠ a := by
  obtain ⟨A0, c0, hb, hg, ⟨hr0, hz0⟩⟩ := h
  rintro rfl
  rw [hb] at hb2
  injection hb2 with hb2
  injection hb2 with _ ht2
  exact ht ht2.symm
theorem IsS_l1Cur.far {w0 W : World} {g : Nat} {f0 : List Int} {f1 : Int} {f2 : Int} {p : Addr} (h : IsS_l1Cur w0 W g f0 f1 f2) (hne : g ≠ p.block) (u : Value) : IsS_l1Cur w0 (W.setCell p u) g f0 f1 f2 := by
  obtain ⟨A0, c0, hb, hg, ⟨hr0, hz0⟩⟩ := h
  exact ⟨A0, c0, blk_far hb hne u, hg, ⟨hr0, hz0⟩⟩
theorem cellS126_0 {W : World} {g : Nat} {A0 : Option Addr} {c0 : Nat} {f0 : List Int} {f1 : Int} {f2 : Int} (h : W.heap[g]? = some (.cells #[.slice A0 f0.length c0, .int .i64 f1, .int .i64 f2] 126 (0, 0))) : W.cell? ⟨g, 0, none⟩ = some (.slice A0 f0.length c0) := (blk_cell h 0).trans rfl
theorem cellS126_1 {W : World} {g : Nat} {A0 : Option Addr} {c0 : Nat} {f0 : List Int} {f1 : Int} {f2 : Int} (h : W.heap[g]? = some (.cells #[.slice A0 f0.length c0, .int .i64 f1, .int .i64 f2] 126 (0, 0))) : W.cell? ⟨g, 1, none⟩ = some (.int .i64 f1) := (blk_cell h 1).trans rfl
theorem IsS_l1Cur.set_1 {w0 W : World} {g : Nat} {f0 : List Int} {f1 : Int} {f2 : Int} (h : IsS_l1Cur w0 W g f0 f1 f2) (x : Int) : IsS_l1Cur w0 (W.setCell ⟨g, 1, none⟩ (.int .i64 x)) g f0 x f2 := by
  obtain ⟨A0, c0, hb, hg, ⟨hr0, hz0⟩⟩ := h
  exact ⟨A0, c0, by simpa using blk_set hb 1 (.int .i64 x), hg, ⟨hr0, hz0⟩⟩
theorem cellS126_2 {W : World} {g : Nat} {A0 : Option Addr} {c0 : Nat} {f0 : List Int} {f1 : Int} {f2 : Int} (h : W.heap[g]? = some (.cells #[.slice A0 f0.length c0, .int .i64 f1, .int .i64 f2] 126 (0, 0))) : W.cell? ⟨g, 2, none⟩ = some (.int .i64 f2) := (blk_cell h 2).trans rfl
theorem IsS_l1Cur.set_2 {w0 W : World} {g : Nat} {f0 : List Int} {f1 : Int} {f2 : Int} (h : IsS_l1Cur w0 W g f0 f1 f2) (x : Int) : IsS_l1Cur w0 (W.setCell ⟨g, 2, none⟩ (.int .i64 x)) g f0 f1 x := by
  obtain ⟨A0, c0, hb, hg, ⟨hr0, hz0⟩⟩ := h
  exact ⟨A0, c0, by simpa using blk_set hb 2 (.int .i64 x), hg, ⟨hr0, hz0⟩⟩
theorem IsS_l1Cur.new (w0 W : World) (A0 : Option Addr) (c0 : Nat) (f0 : List Int) (f1 : Int) (f2 : Int) (hB : Below w0.heap.size w0 W) (hr0 : Kd.C (Kd.int .u8) w0 A0 f0.length f0) (hz0 : f0.length ≤ c0) : IsS_l1Cur w0 (W.alloc (.cells #[.slice A0 f0.length c0, .int .i64 f1, .int .i64 f2] 126)) W.heap.size f0 f1 f2 := ⟨A0, c0, by simpa using heap_alloc_new W _, hB.size, ⟨hr0, hz0⟩⟩

theorem is_l1Cur_ {w0 W W' : World} {g : Nat} {f0 f0' : List Int} {f1 f2 f1' f2' : Int} (x : IsS_l1Cur w0 W g f0 f1 f2) (h : IsS_l1Cur w0 W g f0 f1 f2 → IsS_l1Cur w0 W' g f0' f1' f2' := by intro h_; repeat (first | (with_reducible first | exact h_ | apply IsS_l1Cur.alloc | apply IsS_l1Cur.drewN | apply IsS_l1Cur.drew | apply IsS_l1Cur.set_1 | apply IsS_l1Cur.set_2 | refine IsS_l1Cur.far ?_ (Aside0.out (by assumption)) _) | exact h_)) : IsS_l1Cur w0 W' g f0' f1' f2' := h x
theorem hi_ {B : Nat} {w W W' : World} (x : Below B w W) (h : Below B w W → Below B w W' := by intro h_; repeat (first | (with_reducible first | exact h_ | apply below_alloc | apply pw_below_drewN | apply below_drew1 | refine below_set ?_ (Aside0.out (by assumption)) | refine below_set ?_ (IsS_l1Cur.ge (Aside0.out (by assumption)))) | exact h_)) : Below B w W' := h x
/-! ### spec_l1New: function 50 -/
def spec_l1New.l0 : Nat → List Int → Int → Int → Option (List Int × Int × Int)
  | 0, _, _, _ => none
  | k + 1, x0, x3, x4 => if x4 < (x0.length : Int) then (if x4 < 4000 then (if 0 ≤ x4 then (spec_l1New.l0 k x0 (Go.bits .and .i64 (wrap64 ((wrap64 ((wrap64 (x3 * 131)) + (wrap64 (rd x0 x4)))) + 7)) 1073741823) (wrap64 (x4 + 1))) else (none)) else (some (x0, 0, x3))) else (some (x0, 0, x3))
def spec_l1New.f (k : Nat) (l0 : List Int) : Option (List Int × Int × Int) := spec_l1New.l0 k l0 (wrap64 (24548 + (l0.length : Int))) 0
theorem spec_l1New.mono_l : ∀ k, (∀ y0 y1 y2, LeO (spec_l1New.l0 k y0 y1 y2) (spec_l1New.l0 (k + 1) y0 y1 y2))
  | 0 => fun _ _ _ r h => by simp [spec_l1New.l0] at h
  | k + 1 => by
    have ih0 := spec_l1New.mono_l k
    · intro y0 y1 y2
      unfold spec_l1New.l0
      exact qah3_
theorem spec_l1New.mono : ∀ a0 k, LeO (spec_l1New.f k a0) (spec_l1New.f (k + 1) a0) := by
  intro a0 k
  have ih0 := spec_l1New.mono_l k
  unfold spec_l1New.f
  exact qah3_
set_option maxHeartbeats 8000000 in
set_option maxRecDepth 100000 in
theorem spec_l1New.calls (k : Nat) (A0 : Option Addr) (c0 : Nat) (l0 : List Int) (r1 : List Int) (r2 : Int) (r3 : Int) (w0 w : World) (hB : Below w0.heap.size w0 w) (hr0 : Kd.C (Kd.int .u8) w0 A0 l0.length l0) (hc0 : l0.length ≤ c0) (h : spec_l1New.f k l0 = some (r1, r2, r3)) :
    Calls Try.prog 50 #[.slice A0 l0.length c0] w fun e w' => ∃ g_ : Nat, e = .returned (.pointer (some ⟨g_, 0, none⟩)) ∧ IsS_l1Cur w0 w' g_ r1 r2 r3 ∧ Below w0.heap.size w0 w' ∧ Below w.heap.size w w' := by
  have hu126 := Try.underlying126
  have HR0 := Aside0.mk hr0
  have HC0 := Aside0.mk hc0
  clear hr0 hc0
  have HBW := Aside0.mk (Below.refl w.heap.size w)
  have HW0 := Aside0.mk hB.size
  have HB := Aside0.mk hB
  clear hB
  have H : (spec_l1New.l0 k l0 (wrap64 (24548 + (l0.length : Int))) 0) = some (r1, r2, r3) := h
  clear h
  have H' := Aside0.mk H
  clear H
  go_enter Try.func50, Try.ntmps50
  go_wp2
  go_loopg [3, 4] k (fun kq v3 v4 w' => ∃ (x3_1 : Int) (x4_1 : Int), v3 = .int .i64 x3_1 ∧ v4 = .int .i64 x4_1 ∧ Aside0 (spec_l1New.l0 kq l0 x3_1 x4_1 = some (r1, r2, r3)) ∧ Aside0 (kq ≤ k) ∧ Aside0 (Below w.heap.size w w') ∧ Aside0 (Below w0.heap.size w0 w'))
  case atStart => exact ⟨(wrap64 (24548 + (l0.length : Int))), (0), (qa3_), (qa3_), H', ⟨Nat.le_refl _⟩, ⟨qa14_⟩, ⟨qa0_⟩⟩
  case round =>
    clear H'
    obtain ⟨x3_1, x4_1, rfl, rfl, HA, HK1, HBW, HB⟩ := hrel
    cases gk with
    | zero => exact absurd HA.out (by simp [spec_l1New.l0])
    | succ k1 =>
      have H := HA.out
      clear HA
      simp only [spec_l1New.l0] at H
      by_cases c2 : x4_1 < (l0.length : Int)
      · rw [if_pos c2] at H
        have c2b0 : decide (x4_1 < (l0.length : Int)) = true := decide_eq_true c2
        clear c2
        by_cases c3 : x4_1 < 4000
        · rw [if_pos c3] at H
          have c3b0 : decide (x4_1 < 4000) = true := decide_eq_true c3
          clear c3
          by_cases c4 : 0 ≤ x4_1
          · rw [if_pos c4] at H
            have c4b0 : decide (0 ≤ x4_1) = true := decide_eq_true c4
            clear c4
            have H' := Aside0.mk H
            clear H
            have p726 : 0 ≤ (x4_1 : Int) := of_decide_eq_true dt_
            have q726 : x4_1 < (l0.length : Int) := of_decide_eq_true dt_
            obtain ⟨ad726, e726, hx726_0⟩ := Kd.at_int HR0.out x4_1 p726 q726
            cases e726
            replace hx726_0 := pw_cell_below HB.out hx726_0
            replace p726 := eq_true p726
            replace q726 := eq_true q726
            go_wp2
            go_roundg k1
            case measure => have := HK1.out; omega
            case rel => exact ⟨(Go.bits .and .i64 (wrap64 ((wrap64 ((wrap64 (x3_1 * 131)) + (wrap64 (rd l0 x4_1)))) + 7)) 1073741823), (wrap64 (x4_1 + 1)), (qa3_), (qa3_), H', ⟨by have := HK1.out; omega⟩, ⟨qa14_⟩, ⟨qa0_⟩⟩
          · rw [if_neg c4] at H
            exact absurd H (by simp)
        · rw [if_neg c3] at H
          have c3b0 : decide (x4_1 < 4000) = false := decide_eq_false c3
          clear c3
          simp only [Option.some.injEq, Prod.mk.injEq] at H
          obtain ⟨rfl, rfl, rfl⟩ := H
          go_wp2_with (first | ((with_reducible refine gate_dst (N := 31) rfl ?_); refine box_event ?hg (N := 31) ?hd (cs := #[.slice A0 l0.length c0, .int .i64 0, .int .i64 x3_1]) (t := 126) ?hr ?_; (case hd => rfl); (case hg => rfl); (case hr => first | (go_simp; done) | (go_simp; rfl)); intro gb727 hg w5 hbox hb; have BK727 := Aside0.mk (hbox); have GW727 := Aside0.mk ((by rw [hg]; exact (below_size (qa14_)) : w.heap.size ≤ gb727)); have GE727 := Aside0.mk ((Nat.le_trans HW0.out (by rw [hg]; exact (below_size (qa14_)) : w.heap.size ≤ gb727) : w0.heap.size ≤ gb727)); replace HBW := Aside0.mk (below_step HBW.out hb); replace HB := Aside0.mk (below_step (qa0_) hb); clear hb hbox hg))
          go_ret
          exact ⟨_, rfl, (show IsS_l1Cur w0 _ gb727 l0 0 x3_1 from ⟨_, _, by (with_reducible repeat (first | refine blk_drewN ?_ _ | refine blk_drew ?_ | refine blk_alloc ?_ _)); exact BK727.out, GE727.out, ⟨HR0.out, HC0.out⟩⟩), by repeat (first | (with_reducible first | exact HB.out | apply below_alloc | apply pw_below_drewN | apply below_drew1 | refine below_set ?_ GE727.out) | exact HB.out), by repeat (first | (with_reducible first | exact HBW.out | apply below_alloc | apply pw_below_drewN | apply below_drew1 | refine below_set ?_ GW727.out) | exact HBW.out)⟩
      · rw [if_neg c2] at H
        have c2b0 : decide (x4_1 < (l0.length : Int)) = false := decide_eq_false c2
        clear c2
        simp only [Option.some.injEq, Prod.mk.injEq] at H
        obtain ⟨rfl, rfl, rfl⟩ := H
        go_wp2_with (first | ((with_reducible refine gate_dst (N := 31) rfl ?_); refine box_event ?hg (N := 31) ?hd (cs := #[.slice A0 l0.length c0, .int .i64 0, .int .i64 x3_1]) (t := 126) ?hr ?_; (case hd => rfl); (case hg => rfl); (case hr => first | (go_simp; done) | (go_simp; rfl)); intro gb728 hg w6 hbox hb; have BK728 := Aside0.mk (hbox); have GW728 := Aside0.mk ((by rw [hg]; exact (below_size (qa14_)) : w.heap.size ≤ gb728)); have GE728 := Aside0.mk ((Nat.le_trans HW0.out (by rw [hg]; exact (below_size (qa14_)) : w.heap.size ≤ gb728) : w0.heap.size ≤ gb728)); replace HBW := Aside0.mk (below_step HBW.out hb); replace HB := Aside0.mk (below_step (qa0_) hb); clear hb hbox hg))
        go_ret
        exact ⟨_, rfl, (show IsS_l1Cur w0 _ gb728 l0 0 x3_1 from ⟨_, _, by (with_reducible repeat (first | refine blk_drewN ?_ _ | refine blk_drew ?_ | refine blk_alloc ?_ _)); exact BK728.out, GE728.out, ⟨HR0.out, HC0.out⟩⟩), by repeat (first | (with_reducible first | exact HB.out | apply below_alloc | apply pw_below_drewN | apply below_drew1 | refine below_set ?_ GE728.out) | exact HB.out), by repeat (first | (with_reducible first | exact HBW.out | apply below_alloc | apply pw_below_drewN | apply below_drew1 | refine below_set ?_ GW728.out) | exact HBW.out)⟩

/-! ### spec_l1Byte: function 108 -/
def spec_l1Byte.f (s0_0 : List Int) (s0_1 : Int) (s0_2 : Int) : Option (Int × Int × Int) := if s0_1 < (s0_0.length : Int) then (if 0 ≤ s0_1 then (some (Go.bits .and .i64 (wrap64 ((Go.bits .and .i64 (Go.bits .xor .i64 ((wrap64 ((wrap64 (s0_2 * 6364136223846793005)) + 1442695040888963407)) / 8589934592) ((wrap64 ((wrap64 (s0_2 * 6364136223846793005)) + 1442695040888963407)) / 35184372088832)) 255) + (wrap64 (rd s0_0 s0_1)))) 255, wrap64 (s0_1 + 1), wrap64 ((wrap64 (s0_2 * 6364136223846793005)) + 1442695040888963407))) else (none)) else (some (Go.bits .and .i64 (Go.bits .xor .i64 ((wrap64 ((wrap64 (s0_2 * 6364136223846793005)) + 1442695040888963407)) / 8589934592) ((wrap64 ((wrap64 (s0_2 * 6364136223846793005)) + 1442695040888963407)) / 35184372088832)) 255, s0_1, wrap64 ((wrap64 (s0_2 * 6364136223846793005)) + 1442695040888963407)))
set_option maxHeartbeats 8000000 in
set_option maxRecDepth 100000 in
theorem spec_l1Byte.calls (g : Nat) (s0_0 : List Int) (s0_1 : Int) (s0_2 : Int) (r1 : Int) (r2 : Int) (r3 : Int) (w0 w : World) (hI : IsS_l1Cur w0 w g s0_0 s0_1 s0_2) (hB : Below w0.heap.size w0 w) (h : spec_l1Byte.f s0_0 s0_1 s0_2 = some (r1, r2, r3)) :
    Calls Try.prog 108 #[.pointer (some ⟨g, 0, none⟩)] w fun e w' => e = .returned (.int .i64 r1) ∧ IsS_l1Cur w0 w' g s0_0 r2 r3 ∧ Below w0.heap.size w0 w' ∧ KeepBut w w' g none := by
  have HI0 := Aside0.mk hI
  have HK := Aside0.mk (KeepBut.refl w g none)
  have HL := Aside0.mk hB.size
  clear hI
  have HW0 := Aside0.mk hB.size
  have HB := Aside0.mk hB
  clear hB
  have H : (if s0_1 < (s0_0.length : Int) then (if 0 ≤ s0_1 then (some (Go.bits .and .i64 (wrap64 ((Go.bits .and .i64 (Go.bits .xor .i64 ((wrap64 ((wrap64 (s0_2 * 6364136223846793005)) + 1442695040888963407)) / 8589934592) ((wrap64 ((wrap64 (s0_2 * 6364136223846793005)) + 1442695040888963407)) / 35184372088832)) 255) + (wrap64 (rd s0_0 s0_1)))) 255, wrap64 (s0_1 + 1), wrap64 ((wrap64 (s0_2 * 6364136223846793005)) + 1442695040888963407))) else (none)) else (some (Go.bits .and .i64 (Go.bits .xor .i64 ((wrap64 ((wrap64 (s0_2 * 6364136223846793005)) + 1442695040888963407)) / 8589934592) ((wrap64 ((wrap64 (s0_2 * 6364136223846793005)) + 1442695040888963407)) / 35184372088832)) 255, s0_1, wrap64 ((wrap64 (s0_2 * 6364136223846793005)) + 1442695040888963407)))) = some (r1, r2, r3) := h
  clear h
  by_cases c2 : s0_1 < (s0_0.length : Int)
  · rw [if_pos c2] at H
    have c2b0 : decide (s0_1 < (s0_0.length : Int)) = true := decide_eq_true c2
    clear c2
    by_cases c3 : 0 ≤ s0_1
    · rw [if_pos c3] at H
      have c3b0 : decide (0 ≤ s0_1) = true := decide_eq_true c3
      clear c3
      simp only [Option.some.injEq, Prod.mk.injEq] at H
      obtain ⟨rfl, rfl, rfl⟩ := H
      obtain ⟨ASz4_0, cSz4_0, HGz4, hgz4, ⟨HSz4_0, HZz4_0⟩⟩ := HI0.out
      have hcz4_0 := cellS126_0 HGz4
      have hcz4_1 := cellS126_1 HGz4
      have hcz4_2 := cellS126_2 HGz4
      have hfz4_1 := blk_frozen HGz4 1
      have hfz4_2 := blk_frozen HGz4 2
      clear HGz4 hgz4
      have p729 : 0 ≤ (s0_1 : Int) := of_decide_eq_true dt_
      have q729 : s0_1 < (s0_0.length : Int) := of_decide_eq_true dt_
      obtain ⟨ad729, e729, hx729_0⟩ := Kd.at_int HSz4_0 s0_1 p729 q729
      cases e729
      have hn729_0 : ad729.block ≠ g := Nat.ne_of_lt (Nat.lt_of_lt_of_le (by have := World.block_lt_of_cell? _ _ hx729_0; first | rwa [add_block] at this | exact this) (IsS_l1Cur.ge HI0.out))
      replace hx729_0 := pw_cell_below HB.out hx729_0
      replace hx729_0 := (cell_far (p := ⟨g, 2, none⟩) (by first | (rw [add_block]; exact hn729_0) | (show (Addr.add _ _).block ≠ _; rw [add_block]; exact hn729_0) | exact hn729_0) (.int .i64 (wrap64 ((wrap64 (s0_2 * 6364136223846793005)) + 1442695040888963407)))).trans hx729_0
      (try have hy729_0 := fun (n_ : Nat) => (show (((w.drewN n_).setCell ⟨g, 2, none⟩ (.int .i64 (wrap64 ((wrap64 (s0_2 * 6364136223846793005)) + 1442695040888963407))))).cell? _ = some _ from hx729_0))
      clear hn729_0
      replace p729 := eq_true p729
      replace q729 := eq_true q729
      go_enter Try.func108, Try.ntmps108
      go_wp2
      repeat (go_quiet (fail); try go_wp2)
      go_ret
      exact ⟨qa4_, qa8_, qa9_, qa2_⟩
    · rw [if_neg c3] at H
      exact absurd H (by simp)
  · rw [if_neg c2] at H
    have c2b0 : decide (s0_1 < (s0_0.length : Int)) = false := decide_eq_false c2
    clear c2
    simp only [Option.some.injEq, Prod.mk.injEq] at H
    obtain ⟨rfl, rfl, rfl⟩ := H
    obtain ⟨ASz5_0, cSz5_0, HGz5, hgz5, ⟨HSz5_0, HZz5_0⟩⟩ := HI0.out
    have hcz5_0 := cellS126_0 HGz5
    have hcz5_1 := cellS126_1 HGz5
    have hcz5_2 := cellS126_2 HGz5
    have hfz5_1 := blk_frozen HGz5 1
    have hfz5_2 := blk_frozen HGz5 2
    clear HGz5 hgz5
    go_enter Try.func108, Try.ntmps108
    go_wp2
    repeat (go_quiet (fail); try go_wp2)
    go_ret
    exact ⟨qa4_, qa8_, qa9_, qa2_⟩
/-! ### spec_l1Below: function 76 -/
def spec_l1Below.f (s0_0 : List Int) (s0_1 : Int) (s0_2 : Int) (a1 : Int) : Option (Int × Int × Int) := if a1 ≤ 0 then (some (0, s0_1, s0_2)) else (if a1 ≤ 256 then ((spec_l1Byte.f s0_0 s0_1 s0_2).bind fun bt730 => (if a1 = 0 then (none) else (some (Int.tmod bt730.1 a1, bt730.2.1, bt730.2.2)))) else ((spec_l1Byte.f s0_0 s0_1 s0_2).bind fun bt733 => ((spec_l1Byte.f s0_0 bt733.2.1 bt733.2.2).bind fun bt736 => ((spec_l1Byte.f s0_0 bt736.2.1 bt736.2.2).bind fun bt739 => ((spec_l1Byte.f s0_0 bt739.2.1 bt739.2.2).bind fun bt742 => (if a1 = 0 then (none) else (some (Int.tmod (wrap64 ((wrap64 ((wrap64 ((wrap64 (bt733.1 * 16777216)) + (wrap64 (bt736.1 * 65536)))) + (wrap64 (bt739.1 * 256)))) + bt742.1)) a1, bt742.2.1, bt742.2.2))))))))
set_option maxHeartbeats 8000000 in
set_option maxRecDepth 100000 in
theorem spec_l1Below.calls (g : Nat) (s0_0 : List Int) (s0_1 : Int) (s0_2 : Int) (a1 : Int) (r1 : Int) (r2 : Int) (r3 : Int) (w0 w : World) (hI : IsS_l1Cur w0 w g s0_0 s0_1 s0_2) (hB : Below w0.heap.size w0 w) (h : spec_l1Below.f s0_0 s0_1 s0_2 a1 = some (r1, r2, r3)) :
    Calls Try.prog 76 #[.pointer (some ⟨g, 0, none⟩), .int .i64 a1] w fun e w' => e = .returned (.int .i64 r1) ∧ IsS_l1Cur w0 w' g s0_0 r2 r3 ∧ Below w0.heap.size w0 w' ∧ KeepBut w w' g none := by
  have HI0 := Aside0.mk hI
  have HK := Aside0.mk (KeepBut.refl w g none)
  have HL := Aside0.mk hB.size
  clear hI
  have HW0 := Aside0.mk hB.size
  have HB := Aside0.mk hB
  clear hB
  have H : (if a1 ≤ 0 then (some (0, s0_1, s0_2)) else (if a1 ≤ 256 then ((spec_l1Byte.f s0_0 s0_1 s0_2).bind fun bt730 => (if a1 = 0 then (none) else (some (Int.tmod bt730.1 a1, bt730.2.1, bt730.2.2)))) else ((spec_l1Byte.f s0_0 s0_1 s0_2).bind fun bt733 => ((spec_l1Byte.f s0_0 bt733.2.1 bt733.2.2).bind fun bt736 => ((spec_l1Byte.f s0_0 bt736.2.1 bt736.2.2).bind fun bt739 => ((spec_l1Byte.f s0_0 bt739.2.1 bt739.2.2).bind fun bt742 => (if a1 = 0 then (none) else (some (Int.tmod (wrap64 ((wrap64 ((wrap64 ((wrap64 (bt733.1 * 16777216)) + (wrap64 (bt736.1 * 65536)))) + (wrap64 (bt739.1 * 256)))) + bt742.1)) a1, bt742.2.1, bt742.2.2))))))))) = some (r1, r2, r3) := h
  clear h
  by_cases c3 : a1 ≤ 0
  · rw [if_pos c3] at H
    have c3b0 : decide (a1 ≤ 0) = true := decide_eq_true c3
    clear c3
    simp only [Option.some.injEq, Prod.mk.injEq] at H
    obtain ⟨rfl, rfl, rfl⟩ := H
    go_enter Try.func76, Try.ntmps76
    go_wp2
    go_ret
    exact ⟨qa4_, qa8_, qa9_, qa2_⟩
  · rw [if_neg c3] at H
    have c3b0 : decide (a1 ≤ 0) = false := decide_eq_false c3
    clear c3
    by_cases c4 : a1 ≤ 256
    · rw [if_pos c4] at H
      have c4b0 : decide (a1 ≤ 256) = true := decide_eq_true c4
      clear c4
      replace H := Option.bind_eq_some_iff.mp H
      obtain ⟨⟨t730, t731, t732⟩, A50, H⟩ := H
      replace H : (if a1 = 0 then (none) else (some (Int.tmod t730 a1, t731, t732))) = some (r1, r2, r3) := H
      have A5 := Aside0.mk A50
      clear A50
      by_cases c6 : a1 = 0
      · rw [if_pos c6] at H
        exact absurd H (by simp)
      · rw [if_neg c6] at H
        have c6b0 : (a1 == 0) = false := beq_eq_false_iff_ne.mpr c6
        have c6b1 : (a1 != 0) = true := bne_iff_ne.mpr c6
        simp only [Option.some.injEq, Prod.mk.injEq] at H
        obtain ⟨rfl, rfl, rfl⟩ := H
        go_enter Try.func76, Try.ntmps76
        go_wp2_with (first | ((with_reducible refine gate_callee (f := 108) rfl ?_); refine goesL_ (some 14) rfl rfl Try.func108 (by kernel_rfl) rfl #[.pointer (some ⟨g, 0, none⟩)] rfl (qa5_) ?_; (with_reducible refine (spec_l1Byte.calls g s0_0 s0_1 s0_2 t730 t731 t732 w0 _ ?side1 ?side2 A5.out).mono ?_); (case side1 => repeat (first | (with_reducible first | exact HI0.out | apply IsS_l1Cur.alloc | apply IsS_l1Cur.drewN | apply IsS_l1Cur.drew | apply IsS_l1Cur.set_1 | apply IsS_l1Cur.set_2) | exact HI0.out)); (case side2 => repeat (first | (with_reducible first | exact HB.out | apply below_alloc | apply pw_below_drewN | apply below_drew1 | refine below_set ?_ (IsS_l1Cur.ge HI0.out)) | exact HB.out)); rintro e w7 ⟨rfl, hi, hb, hk⟩; refine ⟨_, rfl, ?_⟩; replace HK := Aside0.mk (KeepBut.trans (qa2_) hk (.inl rfl)); replace HB := Aside0.mk (hb); replace HI0 := Aside0.mk (hi); (try clear hb); (try clear hb2); (try clear hk); (try clear hi)))
        go_ret
        exact ⟨qa4_, qa8_, qa9_, qa2_⟩
    · rw [if_neg c4] at H
      have c4b0 : decide (a1 ≤ 256) = false := decide_eq_false c4
      clear c4
      replace H := Option.bind_eq_some_iff.mp H
      obtain ⟨⟨t733, t734, t735⟩, A80, H⟩ := H
      replace H : ((spec_l1Byte.f s0_0 t734 t735).bind fun bt736 => ((spec_l1Byte.f s0_0 bt736.2.1 bt736.2.2).bind fun bt739 => ((spec_l1Byte.f s0_0 bt739.2.1 bt739.2.2).bind fun bt742 => (if a1 = 0 then (none) else (some (Int.tmod (wrap64 ((wrap64 ((wrap64 ((wrap64 (t733 * 16777216)) + (wrap64 (bt736.1 * 65536)))) + (wrap64 (bt739.1 * 256)))) + bt742.1)) a1, bt742.2.1, bt742.2.2)))))) = some (r1, r2, r3) := H
      have A8 := Aside0.mk A80
      clear A80
      replace H := Option.bind_eq_some_iff.mp H
      obtain ⟨⟨t736, t737, t738⟩, A90, H⟩ := H
      replace H : ((spec_l1Byte.f s0_0 t737 t738).bind fun bt739 => ((spec_l1Byte.f s0_0 bt739.2.1 bt739.2.2).bind fun bt742 => (if a1 = 0 then (none) else (some (Int.tmod (wrap64 ((wrap64 ((wrap64 ((wrap64 (t733 * 16777216)) + (wrap64 (t736 * 65536)))) + (wrap64 (bt739.1 * 256)))) + bt742.1)) a1, bt742.2.1, bt742.2.2))))) = some (r1, r2, r3) := H
      have A9 := Aside0.mk A90
      clear A90
      replace H := Option.bind_eq_some_iff.mp H
      obtain ⟨⟨t739, t740, t741⟩, A100, H⟩ := H
      replace H : ((spec_l1Byte.f s0_0 t740 t741).bind fun bt742 => (if a1 = 0 then (none) else (some (Int.tmod (wrap64 ((wrap64 ((wrap64 ((wrap64 (t733 * 16777216)) + (wrap64 (t736 * 65536)))) + (wrap64 (t739 * 256)))) + bt742.1)) a1, bt742.2.1, bt742.2.2)))) = some (r1, r2, r3) := H
      have A10 := Aside0.mk A100
      clear A100
      replace H := Option.bind_eq_some_iff.mp H
      obtain ⟨⟨t742, t743, t744⟩, A110, H⟩ := H
      replace H : (if a1 = 0 then (none) else (some (Int.tmod (wrap64 ((wrap64 ((wrap64 ((wrap64 (t733 * 16777216)) + (wrap64 (t736 * 65536)))) + (wrap64 (t739 * 256)))) + t742)) a1, t743, t744))) = some (r1, r2, r3) := H
      have A11 := Aside0.mk A110
      clear A110
      by_cases c12 : a1 = 0
      · rw [if_pos c12] at H
        exact absurd H (by simp)
      · rw [if_neg c12] at H
        have c12b0 : (a1 == 0) = false := beq_eq_false_iff_ne.mpr c12
        have c12b1 : (a1 != 0) = true := bne_iff_ne.mpr c12
        simp only [Option.some.injEq, Prod.mk.injEq] at H
        obtain ⟨rfl, rfl, rfl⟩ := H
        go_enter Try.func76, Try.ntmps76
        go_wp2_with (first | ((with_reducible refine gate_callee (f := 108) rfl ?_); refine goesL_ (some 18) rfl rfl Try.func108 (by kernel_rfl) rfl #[.pointer (some ⟨g, 0, none⟩)] rfl (qa5_) ?_; (with_reducible refine (spec_l1Byte.calls g s0_0 s0_1 s0_2 t733 t734 t735 w0 _ ?side1 ?side2 A8.out).mono ?_); (case side1 => repeat (first | (with_reducible first | exact HI0.out | apply IsS_l1Cur.alloc | apply IsS_l1Cur.drewN | apply IsS_l1Cur.drew | apply IsS_l1Cur.set_1 | apply IsS_l1Cur.set_2) | exact HI0.out)); (case side2 => repeat (first | (with_reducible first | exact HB.out | apply below_alloc | apply pw_below_drewN | apply below_drew1 | refine below_set ?_ (IsS_l1Cur.ge HI0.out)) | exact HB.out)); rintro e w13 ⟨rfl, hi, hb, hk⟩; refine ⟨_, rfl, ?_⟩; replace HK := Aside0.mk (KeepBut.trans (qa2_) hk (.inl rfl)); replace HB := Aside0.mk (hb); replace HI0 := Aside0.mk (hi); (try clear hb); (try clear hb2); (try clear hk); (try clear hi)) | ((with_reducible refine gate_callee (f := 108) rfl ?_); refine goesL_ (some 20) rfl rfl Try.func108 (by kernel_rfl) rfl #[.pointer (some ⟨g, 0, none⟩)] rfl (qa5_) ?_; (with_reducible refine (spec_l1Byte.calls g s0_0 t734 t735 t736 t737 t738 w0 _ ?side1 ?side2 A9.out).mono ?_); (case side1 => repeat (first | (with_reducible first | exact HI0.out | apply IsS_l1Cur.alloc | apply IsS_l1Cur.drewN | apply IsS_l1Cur.drew | apply IsS_l1Cur.set_1 | apply IsS_l1Cur.set_2) | exact HI0.out)); (case side2 => repeat (first | (with_reducible first | exact HB.out | apply below_alloc | apply pw_below_drewN | apply below_drew1 | refine below_set ?_ (IsS_l1Cur.ge HI0.out)) | exact HB.out)); rintro e w14 ⟨rfl, hi, hb, hk⟩; refine ⟨_, rfl, ?_⟩; replace HK := Aside0.mk (KeepBut.trans (qa2_) hk (.inl rfl)); replace HB := Aside0.mk (hb); replace HI0 := Aside0.mk (hi); (try clear hb); (try clear hb2); (try clear hk); (try clear hi)) | ((with_reducible refine gate_callee (f := 108) rfl ?_); refine goesL_ (some 22) rfl rfl Try.func108 (by kernel_rfl) rfl #[.pointer (some ⟨g, 0, none⟩)] rfl (qa5_) ?_; (with_reducible refine (spec_l1Byte.calls g s0_0 t737 t738 t739 t740 t741 w0 _ ?side1 ?side2 A10.out).mono ?_); (case side1 => repeat (first | (with_reducible first | exact HI0.out | apply IsS_l1Cur.alloc | apply IsS_l1Cur.drewN | apply IsS_l1Cur.drew | apply IsS_l1Cur.set_1 | apply IsS_l1Cur.set_2) | exact HI0.out)); (case side2 => repeat (first | (with_reducible first | exact HB.out | apply below_alloc | apply pw_below_drewN | apply below_drew1 | refine below_set ?_ (IsS_l1Cur.ge HI0.out)) | exact HB.out)); rintro e w15 ⟨rfl, hi, hb, hk⟩; refine ⟨_, rfl, ?_⟩; replace HK := Aside0.mk (KeepBut.trans (qa2_) hk (.inl rfl)); replace HB := Aside0.mk (hb); replace HI0 := Aside0.mk (hi); (try clear hb); (try clear hb2); (try clear hk); (try clear hi)) | ((with_reducible refine gate_callee (f := 108) rfl ?_); refine goesL_ (some 24) rfl rfl Try.func108 (by kernel_rfl) rfl #[.pointer (some ⟨g, 0, none⟩)] rfl (qa5_) ?_; (with_reducible refine (spec_l1Byte.calls g s0_0 t740 t741 t742 t743 t744 w0 _ ?side1 ?side2 A11.out).mono ?_); (case side1 => repeat (first | (with_reducible first | exact HI0.out | apply IsS_l1Cur.alloc | apply IsS_l1Cur.drewN | apply IsS_l1Cur.drew | apply IsS_l1Cur.set_1 | apply IsS_l1Cur.set_2) | exact HI0.out)); (case side2 => repeat (first | (with_reducible first | exact HB.out | apply below_alloc | apply pw_below_drewN | apply below_drew1 | refine below_set ?_ (IsS_l1Cur.ge HI0.out)) | exact HB.out)); rintro e w16 ⟨rfl, hi, hb, hk⟩; refine ⟨_, rfl, ?_⟩; replace HK := Aside0.mk (KeepBut.trans (qa2_) hk (.inl rfl)); replace HB := Aside0.mk (hb); replace HI0 := Aside0.mk (hi); (try clear hb); (try clear hb2); (try clear hk); (try clear hi)))
        go_ret
        exact ⟨qa4_, qa8_, qa9_, qa2_⟩

/-! ### spec_l1PickInt: function 52 -/
def spec_l1PickInt.f (s0_0 : List Int) (s0_1 : Int) (s0_2 : Int) (l1 : List Int) : Option (Int × Int × Int) := (spec_l1Below.f s0_0 s0_1 s0_2 (l1.length : Int)).bind fun bt745 => (if 0 ≤ bt745.1 then (if bt745.1 < (l1.length : Int) then (some (rd l1 bt745.1, bt745.2.1, bt745.2.2)) else (none)) else (none))
set_option maxHeartbeats 8000000 in
set_option maxRecDepth 100000 in
theorem spec_l1PickInt.calls (g : Nat) (s0_0 : List Int) (s0_1 : Int) (s0_2 : Int) (A1 : Option Addr) (c1 : Nat) (l1 : List Int) (r1 : Int) (r2 : Int) (r3 : Int) (w0 w : World) (hI : IsS_l1Cur w0 w g s0_0 s0_1 s0_2) (hB : Below w0.heap.size w0 w) (hr1 : Kd.C (Kd.int .i64) w A1 l1.length l1) (hc1 : l1.length ≤ c1) (hf1 : ∀ ad, A1 = some ad → 0 < l1.length → ad.block ≠ g) (h : spec_l1PickInt.f s0_0 s0_1 s0_2 l1 = some (r1, r2, r3)) :
    Calls Try.prog 52 #[.pointer (some ⟨g, 0, none⟩), .slice A1 l1.length c1] w fun e w' => e = .returned (.int .i64 r1) ∧ IsS_l1Cur w0 w' g s0_0 r2 r3 ∧ Below w0.heap.size w0 w' ∧ KeepBut w w' g none := by
  have HR1 := Aside0.mk hr1
  have HC1 := Aside0.mk hc1
  clear hr1 hc1
  have HI0 := Aside0.mk hI
  have HK := Aside0.mk (KeepBut.refl w g none)
  have HL := Aside0.mk hB.size
  clear hI
  have HW0 := Aside0.mk hB.size
  have HB := Aside0.mk hB
  clear hB
  have H : ((spec_l1Below.f s0_0 s0_1 s0_2 (l1.length : Int)).bind fun bt745 => (if 0 ≤ bt745.1 then (if bt745.1 < (l1.length : Int) then (some (rd l1 bt745.1, bt745.2.1, bt745.2.2)) else (none)) else (none))) = some (r1, r2, r3) := h
  clear h
  replace H := Option.bind_eq_some_iff.mp H
  obtain ⟨⟨t745, t746, t747⟩, A30, H⟩ := H
  replace H : (if 0 ≤ t745 then (if t745 < (l1.length : Int) then (some (rd l1 t745, t746, t747)) else (none)) else (none)) = some (r1, r2, r3) := H
  have A3 := Aside0.mk A30
  clear A30
  by_cases c4 : 0 ≤ t745
  · rw [if_pos c4] at H
    have c4b0 : decide (0 ≤ t745) = true := decide_eq_true c4
    clear c4
    by_cases c5 : t745 < (l1.length : Int)
    · rw [if_pos c5] at H
      have c5b0 : decide (t745 < (l1.length : Int)) = true := decide_eq_true c5
      clear c5
      simp only [Option.some.injEq, Prod.mk.injEq] at H
      obtain ⟨rfl, rfl, rfl⟩ := H
      go_enter Try.func52, Try.ntmps52
      go_wp2_with (first | ((with_reducible refine gate_callee (f := 76) rfl ?_); refine goesL_ (some 9) rfl rfl Try.func76 (by kernel_rfl) rfl #[.pointer (some ⟨g, 0, none⟩), .int .i64 (l1.length : Int)] rfl (qa5_) ?_; (with_reducible refine (spec_l1Below.calls g s0_0 s0_1 s0_2 (l1.length : Int) t745 t746 t747 w0 _ ?side1 ?side2 A3.out).mono ?_); (case side1 => repeat (first | (with_reducible first | exact HI0.out | apply IsS_l1Cur.alloc | apply IsS_l1Cur.drewN | apply IsS_l1Cur.drew | apply IsS_l1Cur.set_1 | apply IsS_l1Cur.set_2) | exact HI0.out)); (case side2 => repeat (first | (with_reducible first | exact HB.out | apply below_alloc | apply pw_below_drewN | apply below_drew1 | refine below_set ?_ (IsS_l1Cur.ge HI0.out)) | exact HB.out)); rintro e w6 ⟨rfl, hi, hb, hk⟩; refine ⟨_, rfl, ?_⟩; replace HK := Aside0.mk (KeepBut.trans (qa2_) hk (.inl rfl)); replace HB := Aside0.mk (hb); replace HI0 := Aside0.mk (hi); (try clear hb); (try clear hb2); (try clear hk); (try clear hi); have p748 : 0 ≤ (t745 : Int) := of_decide_eq_true dt_; have q748 : t745 < (l1.length : Int) := of_decide_eq_true dt_; obtain ⟨ad748, e748, hx748_0⟩ := Kd.at_int HR1.out t745 p748 q748; cases e748; replace hx748_0 := keep_cell HK.out hx748_0 (by first | (rw [add_block]; exact hf1 _ rfl (by omega)) | exact hf1 _ rfl (by omega) | exact hf1 ad748 rfl (by omega)); replace p748 := eq_true p748; replace q748 := eq_true q748))
      go_ret
      exact ⟨qa4_, qa8_, qa9_, qa2_⟩
    · rw [if_neg c5] at H
      exact absurd H (by simp)
  · rw [if_neg c4] at H
    exact absurd H (by simp)
end Go.Proofs.Ythmjhhkheohgfaa.Q
