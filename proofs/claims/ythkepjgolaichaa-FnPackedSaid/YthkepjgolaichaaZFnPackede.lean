/- Made by a program of ours out of the print of the loaded functions: for each of some functions a plain function, and the walk that shows that a call comes to what it says. No condition but those of each theorem. -/
import Derived.Test.YthkepjgolaichaaZFnPacked0
import Derived.Test.YthkepjgolaichaaZFnPackeda
import Derived.Test.YthkepjgolaichaaZFnPackedc
import Derived.Test.YthkepjgolaichaaZFnPackedd
namespace Go.Proofs.Ythkepjgolaichaa.Q
open Go.RowKit Go.Proofs.YthkepjgolaichaaW.PrintWords Go.Proofs.YthkepjgolaichaaW.PrintLast Go.Proofs.YthkepjgolaichaaW.PrintMore
attribute [local go_sem] max2_int min2_int max_two min_two max_three min_three max_four min_four   -- for this text's walks alone
set_option linter.unusedVariables false
set_option linter.unusedSimpArgs false
theorem qe0_ {P : Prop} (h : P := by repeat (first | (with_reducible first | exact HB.out | apply below_alloc | apply pw_below_drewN | apply below_drew1 | refine below_set ?_ (IsS_l1Cur.ge HI0.out) | refine below_set ?_ GE613.out | refine below_set ?_ GE621.out) | exact HB.out)) : P := h
theorem qe1_ {P : Prop} (h : P := by repeat (first | (with_reducible first | exact HK.out | apply KeepBut.set_ | apply keep_drewN | apply keep_drew | apply keep_alloc | refine keep_far ?_ GW613.out _ | refine keep_far ?_ GW621.out _) | exact HK.out)) : P := h
theorem qe2_ {P : Prop} (h : P := by repeat (first | (with_reducible first | exact HB.out | apply below_alloc | apply pw_below_drewN | apply below_drew1 | refine below_set ?_ (IsS_l1Cur.ge HI0.out) | refine below_set ?_ GE570.out | refine below_set ?_ GE571.out) | exact HB.out)) : P := h
theorem qe3_ {P : Prop} (h : P := by repeat (first | (with_reducible first | exact HK.out | apply KeepBut.set_ | apply keep_drewN | apply keep_drew | apply keep_alloc | refine keep_far ?_ GW570.out _ | refine keep_far ?_ GW571.out _) | exact HK.out)) : P := h
theorem qe4_ {P : Prop} (h : P := by repeat (first | (with_reducible first | exact HB.out | apply below_alloc | apply pw_below_drewN | apply below_drew1 | refine below_set ?_ (IsS_l1Cur.ge HI660.out) | refine below_set ?_ GE656.out | refine below_set ?_ GE668.out) | exact HB.out)) : P := h
theorem qe5_ {P : Prop} (h : P := by repeat (first | (with_reducible first | exact HK.out | apply KeepBut.set_ | apply keep_drewN | apply keep_drew | apply keep_alloc) | exact HK.out)) : P := h
theorem qe6_ {P : Prop} (h : P := by repeat (first | (with_reducible first | exact HB.out | apply below_alloc | apply pw_below_drewN | apply below_drew1 | refine below_set ?_ (IsS_l1Cur.ge HI660.out) | refine below_set ?_ GE656.out) | exact HB.out)) : P := h
theorem qe7_ {P : Prop} (h : P := by (try simp only [List.map_toArray, List.map_cons, List.map_nil]); first | done | rfl | (simp only [List.length_drop, List.length_take]; rfl)) : P := h
theorem qe8_ {P : Prop} (h : P := by repeat (first | (with_reducible first | exact HI0.out | apply IsS_l1Cur.alloc | apply IsS_l1Cur.drewN | apply IsS_l1Cur.drew | apply IsS_l1Cur.set_1 | apply IsS_l1Cur.set_2) | exact HI0.out)) : P := h
theorem qe9_ {P : Prop} (h : P := by repeat (first | (with_reducible first | exact HB.out | apply below_alloc | apply pw_below_drewN | apply below_drew1 | refine below_set ?_ (IsS_l1Cur.ge HI0.out)) | exact HB.out)) : P := h
theorem qe10_ {P : Prop} (h : P := by repeat (first | (with_reducible first | exact HI660.out | apply IsS_l1Cur.alloc | apply IsS_l1Cur.drewN | apply IsS_l1Cur.drew | apply IsS_l1Cur.set_1 | apply IsS_l1Cur.set_2 | refine IsS_l1Cur.far ?_ NB660_656.out _ | refine IsS_l1Cur.far ?_ NB660_668.out _) | exact HI660.out)) : P := h
theorem qe11_ {P : Prop} (h : P := by repeat (first | (with_reducible first | exact HB.out | apply below_alloc | apply pw_below_drewN | apply below_drew1) | exact HB.out)) : P := h
theorem qe12_ {P : Prop} (h : P := by (with_reducible repeat (first | apply Kd.R_alloc | apply Kd.R_drewN | apply Kd.R_drew)); exact HO665.out) : P := h
theorem qe13_ {P : Prop} (h : P := by first | rfl | (simp [errW_none, errW_some] <;> rfl) | (simp [*, errW_none, errW_some] <;> rfl)) : P := h
theorem qe14_ {P : Prop} (h : P := by first | rfl | (simp; done) | (simp [*]; done)) : P := h

/-! ### spec_l1Pick: function 80 -/
def spec_l1Pick.f (s0_0 : List Int) (s0_1 : Int) (s0_2 : Int) (l1 : List ByteArray) : Option (ByteArray × Int × Int) := (spec_l1Below.f s0_0 s0_1 s0_2 (l1.length : Int)).bind fun bt560 => (if 0 ≤ bt560.1 then (if bt560.1 < (l1.length : Int) then (some (rdOf ByteArray.empty l1 bt560.1, bt560.2.1, bt560.2.2)) else (none)) else (none))
set_option maxHeartbeats 8000000 in
set_option maxRecDepth 100000 in
theorem spec_l1Pick.calls (g : Nat) (s0_0 : List Int) (s0_1 : Int) (s0_2 : Int) (A1 : Option Addr) (c1 : Nat) (l1 : List ByteArray) (r1 : ByteArray) (r2 : Int) (r3 : Int) (w0 w : World) (hI : IsS_l1Cur w0 w g s0_0 s0_1 s0_2) (hB : Below w0.heap.size w0 w) (hr1 : Kd.C Kd.string w A1 l1.length l1) (hc1 : l1.length ≤ c1) (hf1 : ∀ ad, A1 = some ad → 0 < l1.length → ad.block ≠ g) (h : spec_l1Pick.f s0_0 s0_1 s0_2 l1 = some (r1, r2, r3)) :
    Calls Try.prog 80 #[.pointer (some ⟨g, 0, none⟩), .slice A1 l1.length c1] w fun e w' => e = .returned (.string r1) ∧ IsS_l1Cur w0 w' g s0_0 r2 r3 ∧ Below w0.heap.size w0 w' ∧ KeepBut w w' g none := by
  have HR1 := Aside0.mk hr1
  have HC1 := Aside0.mk hc1
  clear hr1 hc1
  have HI0 := Aside0.mk hI
  have HK := Aside0.mk (KeepBut.refl w g none)
  have HL := Aside0.mk hB.size
  clear hI
  have HW0 := Aside0.mk hB.size
  have HB := Aside0.mk hB
  clear hB
  have H : ((spec_l1Below.f s0_0 s0_1 s0_2 (l1.length : Int)).bind fun bt560 => (if 0 ≤ bt560.1 then (if bt560.1 < (l1.length : Int) then (some (rdOf ByteArray.empty l1 bt560.1, bt560.2.1, bt560.2.2)) else (none)) else (none))) = some (r1, r2, r3) := h
  clear h
  replace H := Option.bind_eq_some_iff.mp H
  obtain ⟨⟨t560, t561, t562⟩, A30, H⟩ := H
  replace H : (if 0 ≤ t560 then (if t560 < (l1.length : Int) then (some (rdOf ByteArray.empty l1 t560, t561, t562)) else (none)) else (none)) = some (r1, r2, r3) := H
  have A3 := Aside0.mk A30
  clear A30
  by_cases c4 : 0 ≤ t560
  · rw [if_pos c4] at H
    have c4b0 : decide (0 ≤ t560) = true := decide_eq_true c4
    clear c4
    by_cases c5 : t560 < (l1.length : Int)
    · rw [if_pos c5] at H
      have c5b0 : decide (t560 < (l1.length : Int)) = true := decide_eq_true c5
      clear c5
      simp only [Option.some.injEq, Prod.mk.injEq] at H
      obtain ⟨rfl, rfl, rfl⟩ := H
      go_enter Try.func80, Try.ntmps80
      go_wp2_with (first | ((with_reducible refine gate_callee (f := 79) rfl ?_); refine goesL_ (some 9) rfl rfl Try.func79 (by kernel_rfl) rfl #[.pointer (some ⟨g, 0, none⟩), .int .i64 (l1.length : Int)] rfl (qe7_) ?_; (with_reducible refine (spec_l1Below.calls g s0_0 s0_1 s0_2 (l1.length : Int) t560 t561 t562 w0 _ ?side1 ?side2 A3.out).mono ?_); (case side1 => repeat (first | (with_reducible first | exact HI0.out | apply IsS_l1Cur.alloc | apply IsS_l1Cur.drewN | apply IsS_l1Cur.drew | apply IsS_l1Cur.set_1 | apply IsS_l1Cur.set_2) | exact HI0.out)); (case side2 => repeat (first | (with_reducible first | exact HB.out | apply below_alloc | apply pw_below_drewN | apply below_drew1 | refine below_set ?_ (IsS_l1Cur.ge HI0.out)) | exact HB.out)); rintro e w6 ⟨rfl, hi, hb, hk⟩; refine ⟨_, rfl, ?_⟩; have n0_ := Aside0.mk (KeepBut.trans (qe5_) hk (.inl rfl)); have n1_ := Aside0.mk (hb); have n2_ := Aside0.mk (hi); clear HK; clear HB; clear HI0; have HK := n0_; have HB := n1_; have HI0 := n2_; clear n0_ n1_ n2_; (try clear hb); (try clear hb2); (try clear hk); (try clear hi); have p563 : 0 ≤ (t560 : Int) := of_decide_eq_true dt_; have q563 : t560 < (l1.length : Int) := of_decide_eq_true dt_; obtain ⟨ad563, e563, hx563_0⟩ := Kd.at_string HR1.out t560 p563 q563; cases e563; replace hx563_0 := keep_cell HK.out hx563_0 (by first | (rw [add_block]; exact hf1 _ rfl (by omega)) | exact hf1 _ rfl (by omega) | exact hf1 ad563 rfl (by omega)); replace p563 := eq_true p563; replace q563 := eq_true q563))
      go_ret
      exact ⟨qe13_, qe8_, qe9_, qe5_⟩
    · rw [if_neg c5] at H
      exact absurd H (by simp)
  · rw [if_neg c4] at H
    exact absurd H (by simp)

/-! ### spec_l2DrawText: function 84 -/
def spec_l2DrawText.f (s0_0 : List Int) (s0_1 : Int) (s0_2 : Int) : Option (ByteArray × Int × Int) := (spec_l1Pick.f s0_0 s0_1 s0_2 (([(⟨#[]⟩ : ByteArray), (⟨#[97]⟩ : ByteArray), (⟨#[98]⟩ : ByteArray), (⟨#[107, 32, 49]⟩ : ByteArray), (⟨#[116, 101, 120, 116]⟩ : ByteArray)] : List ByteArray))).bind fun bt567 => (some (bt567.1, bt567.2.1, bt567.2.2))
set_option maxHeartbeats 8000000 in
set_option maxRecDepth 100000 in
theorem spec_l2DrawText.calls (g : Nat) (s0_0 : List Int) (s0_1 : Int) (s0_2 : Int) (r1 : ByteArray) (r2 : Int) (r3 : Int) (w0 w : World) (hI : IsS_l1Cur w0 w g s0_0 s0_1 s0_2) (hB : Below w0.heap.size w0 w) (h : spec_l2DrawText.f s0_0 s0_1 s0_2 = some (r1, r2, r3)) :
    Calls Try.prog 84 #[.pointer (some ⟨g, 0, none⟩)] w fun e w' => e = .returned (.string r1) ∧ IsS_l1Cur w0 w' g s0_0 r2 r3 ∧ Below w0.heap.size w0 w' ∧ KeepBut w w' g none := by
  have HI0 := Aside0.mk hI
  have HK := Aside0.mk (KeepBut.refl w g none)
  have HL := Aside0.mk hB.size
  clear hI
  have HW0 := Aside0.mk hB.size
  have HB := Aside0.mk hB
  clear hB
  have H : ((spec_l1Pick.f s0_0 s0_1 s0_2 (([(⟨#[]⟩ : ByteArray), (⟨#[97]⟩ : ByteArray), (⟨#[98]⟩ : ByteArray), (⟨#[107, 32, 49]⟩ : ByteArray), (⟨#[116, 101, 120, 116]⟩ : ByteArray)] : List ByteArray))).bind fun bt567 => (some (bt567.1, bt567.2.1, bt567.2.2))) = some (r1, r2, r3) := h
  clear h
  obtain ⟨y564, hy564⟩ : ∃ y_ : List ByteArray, y_ = (([(⟨#[]⟩ : ByteArray), (⟨#[97]⟩ : ByteArray), (⟨#[98]⟩ : ByteArray), (⟨#[107, 32, 49]⟩ : ByteArray), (⟨#[116, 101, 120, 116]⟩ : ByteArray)] : List ByteArray)) := ⟨_, rfl⟩
  replace H : ((spec_l1Pick.f s0_0 s0_1 s0_2 y564).bind fun bt567 => (some (bt567.1, bt567.2.1, bt567.2.2))) = some (r1, r2, r3) := by first | (rw [hy564]; with_reducible exact H) | (have H2_ := (Option.bind_some _ _).symm.trans H; rw [hy564]; with_reducible exact H2_) | (have H2_ := (Option.bind_some _ _).symm.trans H; with_reducible exact H2_) | with_reducible exact H | (rw [hy564]; exact H) | exact H
  have Ny564 := Aside0.mk hy564
  clear hy564
  replace H := Option.bind_eq_some_iff.mp H
  obtain ⟨⟨t567, t568, t569⟩, A20, H⟩ := H
  replace H : (some (t567, t568, t569)) = some (r1, r2, r3) := H
  have A2 := Aside0.mk A20
  clear A20
  simp only [Option.some.injEq, Prod.mk.injEq] at H
  obtain ⟨rfl, rfl, rfl⟩ := H
  go_enter Try.func84, Try.ntmps84
  go_wp2_with (first | ((with_reducible refine gate_dst (N := 4) rfl ?_); refine Kd.R_lit Kd.string _ 9 ?hg (N := 4) ?hd (xs := ([(⟨#[]⟩ : ByteArray), (⟨#[97]⟩ : ByteArray), (⟨#[98]⟩ : ByteArray), (⟨#[107, 32, 49]⟩ : ByteArray), (⟨#[116, 101, 120, 116]⟩ : ByteArray)] : List ByteArray)) (inner := [.string (⟨#[]⟩ : ByteArray), .string (⟨#[97]⟩ : ByteArray), .string (⟨#[98]⟩ : ByteArray), .string (⟨#[107, 32, 49]⟩ : ByteArray), .string (⟨#[116, 101, 120, 116]⟩ : ByteArray)]) (ok := fun _ => True) (okp := fun _ => True) ?hr ?hp (fun _ hk => hk) trivial (Below.refl _ _) (Nat.le_refl _) (by simp) ?_; (case hd => rfl); (case hg => rfl); (case hr => first | (go_simp; done) | (go_simp; rfl)); (case hp => exact (Reps.one (show Kd.M Kd.string _ _ _ (⟨#[]⟩ : ByteArray) [.string (⟨#[]⟩ : ByteArray)] from rfl) (Reps.one (show Kd.M Kd.string _ _ _ (⟨#[97]⟩ : ByteArray) [.string (⟨#[97]⟩ : ByteArray)] from rfl) (Reps.one (show Kd.M Kd.string _ _ _ (⟨#[98]⟩ : ByteArray) [.string (⟨#[98]⟩ : ByteArray)] from rfl) (Reps.one (show Kd.M Kd.string _ _ _ (⟨#[107, 32, 49]⟩ : ByteArray) [.string (⟨#[107, 32, 49]⟩ : ByteArray)] from rfl) (Reps.one (show Kd.M Kd.string _ _ _ (⟨#[116, 101, 120, 116]⟩ : ByteArray) [.string (⟨#[116, 101, 120, 116]⟩ : ByteArray)] from rfl) (Reps.none _ _))))))); intro v565 w3 ho4 hb hg_ hnew_; clear hg_ hnew_; (first | rw [← Ny564.out] at ho4 | (simp only [Int.reduceToNat] at ho4; rw [← Ny564.out] at ho4)); have n0_ := Aside0.mk (Kd.R_lower ho4 (keep_size (w := w) (g := g) (row := none) (qe5_))); have n1_ := Aside0.mk (IsS_l1Cur.below (qe8_) hb); have n2_ := Aside0.mk (KeepBut.trans (qe5_) (KeepBut.of_below hb g none) (.inl rfl)); have n3_ := Aside0.mk (below_step (qe9_) hb); clear HI0; clear HK; clear HB; have HO566 := n0_; have HI0 := n1_; have HK := n2_; have HB := n3_; clear n0_ n1_ n2_ n3_; clear hb ho4; obtain ⟨Ao5, co5, eo5⟩ := Kd.R_slice HO566.out; subst eo5) | ((with_reducible refine gate_callee (f := 80) rfl ?_); refine goesL_ (some 5) rfl rfl Try.func80 (by kernel_rfl) rfl #[.pointer (some ⟨g, 0, none⟩), .slice Ao5 y564.length co5] rfl (qe7_) ?_; (with_reducible refine (spec_l1Pick.calls g s0_0 s0_1 s0_2 _ _ y564 t567 t568 t569 w0 _ ?side1 ?side2 ?side3 ?side4 ?side5 A2.out).mono ?_); (case side1 => repeat (first | (with_reducible first | exact HI0.out | apply IsS_l1Cur.alloc | apply IsS_l1Cur.drewN | apply IsS_l1Cur.drew | apply IsS_l1Cur.set_1 | apply IsS_l1Cur.set_2) | exact HI0.out)); (case side2 => repeat (first | (with_reducible first | exact HB.out | apply below_alloc | apply pw_below_drewN | apply below_drew1 | refine below_set ?_ (IsS_l1Cur.ge HI0.out)) | exact HB.out)); (case side3 => repeat (first | exact (Kd.R_reads' HO566.out).2.2 | (with_reducible refine Kd.C_alloc ?_ _) | (with_reducible refine Kd.C_drewN ?_ _) | (with_reducible refine Kd.C_drew ?_))); (case side4 => exact (Kd.R_reads' HO566.out).2.1); (case side5 => exact far_slice (IsS_l1Cur.own_ne HI0.out HO566.out (by decide))); rintro e w6 ⟨rfl, hi, hb, hk⟩; refine ⟨_, rfl, ?_⟩; have n0_ := Aside0.mk (Kd.R_mono (Kd.R_keep (IsS_l1Cur.apart (show IsS_l1Cur w0 _ g s0_0 s0_1 s0_2 from by repeat (first | (with_reducible first | exact HI0.out | apply IsS_l1Cur.alloc | apply IsS_l1Cur.drewN | apply IsS_l1Cur.drew | apply IsS_l1Cur.set_1 | apply IsS_l1Cur.set_2) | exact HI0.out)) (by (with_reducible repeat (first | apply Kd.R_alloc | apply Kd.R_drewN | apply Kd.R_drew)); exact HO566.out) (by decide)) hk (fun _ h => h.2)) (fun _ h => h.1)); have n1_ := Aside0.mk (KeepBut.trans (qe5_) hk (.inl rfl)); have n2_ := Aside0.mk (hb); have n3_ := Aside0.mk (hi); clear HO566; clear HK; clear HB; clear HI0; have HO566 := n0_; have HK := n1_; have HB := n2_; have HI0 := n3_; clear n0_ n1_ n2_ n3_; (try clear hb); (try clear hb2); (try clear hk); (try clear hi)))
  go_ret
  exact ⟨qe13_, qe8_, qe9_, qe5_⟩
/-! ### spec_l3DrawRight: function 78 -/
abbrev spec_l3DrawRight.m0 : Array Bool := #[f_,f_,f_,f_,f_,f_,f_,f_,f_,f_,f_,f_,f_,f_]
abbrev spec_l3DrawRight.m1 : Array Bool := #[f_,t_,f_,f_,f_,f_,f_,f_,f_,f_,f_,f_,f_,f_]
abbrev spec_l3DrawRight.m2 : Array Bool := #[f_,t_,f_,t_,f_,f_,f_,f_,f_,f_,f_,f_,f_,f_]
abbrev spec_l3DrawRight.m3 : Array Bool := #[f_,t_,f_,t_,f_,t_,f_,f_,f_,f_,f_,f_,f_,f_]
abbrev spec_l3DrawRight.m4 : Array Bool := #[f_,t_,f_,t_,f_,t_,f_,t_,f_,f_,f_,f_,f_,f_]
abbrev spec_l3DrawRight.m5 : Array Bool := #[t_,t_,f_,t_,f_,t_,f_,t_,f_,f_,f_,f_,f_,f_]
abbrev spec_l3DrawRight.m6 : Array Bool := #[t_,t_,t_,t_,f_,t_,f_,t_,f_,f_,f_,f_,f_,f_]
abbrev spec_l3DrawRight.m7 : Array Bool := #[t_,t_,t_,t_,t_,t_,f_,t_,f_,f_,f_,f_,f_,f_]
abbrev spec_l3DrawRight.m8 : Array Bool := #[t_,t_,t_,t_,t_,t_,t_,t_,f_,f_,f_,f_,f_,f_]
abbrev spec_l3DrawRight.m9 : Array Bool := #[t_,t_,t_,t_,t_,t_,t_,t_,t_,f_,f_,f_,f_,f_]
abbrev spec_l3DrawRight.m10 : Array Bool := #[t_,t_,t_,t_,t_,t_,t_,t_,t_,t_,f_,f_,f_,f_]
abbrev spec_l3DrawRight.m11 : Array Bool := #[t_,t_,t_,t_,t_,t_,t_,t_,t_,t_,t_,f_,f_,f_]
abbrev spec_l3DrawRight.m12 : Array Bool := #[t_,t_,t_,t_,t_,t_,t_,t_,t_,t_,t_,t_,f_,f_]
abbrev spec_l3DrawRight.m13 : Array Bool := #[t_,t_,t_,t_,t_,t_,t_,t_,t_,t_,t_,t_,t_,f_]
abbrev spec_l3DrawRight.m14 : Array Bool := #[t_,t_,t_,t_,t_,t_,t_,t_,t_,t_,t_,t_,t_,t_]
def spec_l3DrawRight.l0 : Nat → Int → Int → List Int → Int → Int → Int → Int → List (S_Item) → Option (Int × Int × (List (S_Item)) × Int × Int)
 | 0, _, _, _, _, _, _, _, _ => none
 | k + 1, x4, x5, x1000, x1001, x1002, x572000, x572001, x572002 => if x5 < x4 then ((spec_l2DrawText.f x1000 x1001 x1002).bind fun bt575 => ((spec_l2DrawText.f x1000 bt575.2.1 bt575.2.2).bind fun bt578 => ((spec_l1Below.f x1000 bt578.2.1 bt578.2.2 4).bind fun bt581 => ((spec_RowPut.f k x572000 x572001 x572002 bt575.1 bt578.1 bt581.1 x5).bind fun bt584 => ((spec_l1Below.f x1000 bt581.2.1 bt581.2.2 12).bind fun bt591 => (if bt591.1 = 0 then ((spec_l1Below.f x1000 bt591.2.1 bt591.2.2 3).bind fun bt594 => ((spec_l1Below.f x1000 bt594.2.1 bt594.2.2 4).bind fun bt597 => ((spec_RowTrim.f k bt584.1 bt584.2.1 bt584.2.2.1 (wrap64 (1 + bt594.1)) bt597.1).bind fun bt600 => (spec_l3DrawRight.l0 k x4 (wrap64 (x5 + 1)) x1000 bt597.2.1 bt597.2.2 bt600.1 bt600.2.1 bt600.2.2)))) else (if bt591.1 = 1 then ((spec_l1Below.f x1000 bt591.2.1 bt591.2.2 3).bind fun bt605 => ((spec_RowPack.f k bt584.1 bt584.2.1 bt584.2.2.1 (wrap64 (1 + bt605.1))).bind fun bt608 => (spec_l3DrawRight.l0 k x4 (wrap64 (x5 + 1)) x1000 bt605.2.1 bt605.2.2 bt608.1 bt608.2.1 bt608.2.2))) else (spec_l3DrawRight.l0 k x4 (wrap64 (x5 + 1)) x1000 bt591.2.1 bt591.2.2 bt584.1 bt584.2.1 bt584.2.2.1)))))))) else (some (x572000, x572001, x572002, x1001, x1002))
def spec_l3DrawRight.f (k : Nat) (s0_0 : List Int) (s0_1 : Int) (s0_2 : Int) : Option (Int × Int × (List (S_Item)) × Int × Int) := (spec_l1Below.f s0_0 s0_1 s0_2 14).bind fun bt572 => (spec_l3DrawRight.l0 k bt572.1 0 s0_0 bt572.2.1 bt572.2.2 0 0 ([] : List (S_Item)))
theorem spec_l3DrawRight.mono_l : ∀ k, (∀ y0 y1 y2 y3 y4 y5 y6 y7, LeO (spec_l3DrawRight.l0 k y0 y1 y2 y3 y4 y5 y6 y7) (spec_l3DrawRight.l0 (k + 1) y0 y1 y2 y3 y4 y5 y6 y7))
 | 0 => fun _ _ _ _ _ _ _ _ r h => by simp [spec_l3DrawRight.l0] at h
 | k + 1 => by
  have ih0 := spec_l3DrawRight.mono_l k
  ·
   intro y0 y1 y2 y3 y4 y5 y6 y7
   unfold spec_l3DrawRight.l0
   repeat' first
   | (with_reducible exact ih0 _ _ _ _ _ _ _ _)
   | (with_reducible exact spec_RowPack.mono _ _ _ _ _)
   | (with_reducible exact spec_RowPut.mono _ _ _ _ _ _ _ _)
   | (with_reducible exact spec_RowTrim.mono _ _ _ _ _ _)
   | (with_reducible exact LeO.refl _)
   | (with_reducible exact LeO.none _)
   | (with_reducible refine LeO.ite ?_ ?_)
   | (with_reducible refine LeO.bind ?_ (fun _ => ?_))
   | exact ih0 _ _ _ _ _ _ _ _
   | exact spec_RowPack.mono _ _ _ _ _
   | exact spec_RowPut.mono _ _ _ _ _ _ _ _
   | exact spec_RowTrim.mono _ _ _ _ _ _
   | exact LeO.none _
   | refine LeO.ite ?_ ?_
   | refine LeO.bind ?_ (fun _ => ?_)
theorem spec_l3DrawRight.mono : ∀ a0 a1 a2 k, LeO (spec_l3DrawRight.f k a0 a1 a2) (spec_l3DrawRight.f (k + 1) a0 a1 a2) := by
 intro a0 a1 a2 k
 have ih0 := spec_l3DrawRight.mono_l k
 unfold spec_l3DrawRight.f
 repeat' first
  | (with_reducible exact ih0 _ _ _ _ _ _ _ _)
  | (with_reducible exact spec_RowPack.mono _ _ _ _ _)
  | (with_reducible exact spec_RowPut.mono _ _ _ _ _ _ _ _)
  | (with_reducible exact spec_RowTrim.mono _ _ _ _ _ _)
  | (with_reducible exact LeO.refl _)
  | (with_reducible exact LeO.none _)
  | (with_reducible refine LeO.ite ?_ ?_)
  | (with_reducible refine LeO.bind ?_ (fun _ => ?_))
  | exact ih0 _ _ _ _ _ _ _ _
  | exact spec_RowPack.mono _ _ _ _ _
  | exact spec_RowPut.mono _ _ _ _ _ _ _ _
  | exact spec_RowTrim.mono _ _ _ _ _ _
  | exact LeO.none _
  | refine LeO.ite ?_ ?_
  | refine LeO.bind ?_ (fun _ => ?_)
def spec_l3DrawRight.T6 : Bool × List (List Nat × List Nat) := (true, [([], []), ([], []), ([1], [1]), ([], []), ([3, 2], [3]), ([], []), ([5, 4], [5]), ([], []), ([0, 2, 4, 6, 7, 6], [0, 2, 4, 6, 7]), ([8], [8]), ([9], [9]), ([9], [9]), ([9], [9]), ([10, 8, 0, 1, 2, 3, 4, 5, 6, 7, 8, 9, 10], [10])])
def spec_l3DrawRight.B6 : List Nat := [0, 0, 2, 0, 14, 0, 62, 0, 255, 511, 1023, 1023, 1023, 2047]
theorem spec_l3DrawRight.tab6 : rtab .any (opsOf Try.f78 6) = spec_l3DrawRight.T6 := by kernel_rfl
theorem spec_l3DrawRight.bits6 : waitsOk spec_l3DrawRight.T6.2 spec_l3DrawRight.B6 = true := by kernel_rfl
def spec_l3DrawRight.T9 : Bool × List (List Nat × List Nat) := (true, [([], []), ([], []), ([1], [1]), ([2], [2]), ([], []), ([4, 2], [4]), ([0, 3, 5, 5], [0, 3, 5]), ([6, 6, 0, 1, 2, 3, 4, 5, 6], [6])])
def spec_l3DrawRight.B9 : List Nat := [0, 0, 2, 6, 0, 22, 63, 127]
theorem spec_l3DrawRight.tab9 : rtab .any (opsOf Try.f78 9) = spec_l3DrawRight.T9 := by kernel_rfl
theorem spec_l3DrawRight.bits9 : waitsOk spec_l3DrawRight.T9.2 spec_l3DrawRight.B9 = true := by kernel_rfl
set_option maxHeartbeats 8000000 in
set_option maxRecDepth 100000 in
theorem spec_l3DrawRight.calls (k : Nat) (g : Nat) (s0_0 : List Int) (s0_1 : Int) (s0_2 : Int) (r1 : Int) (r2 : Int) (r3 : List (S_Item)) (r4 : Int) (r5 : Int) (w0 w : World) (hI : IsS_l1Cur w0 w g s0_0 s0_1 s0_2) (hB : Below w0.heap.size w0 w) (h : spec_l3DrawRight.f k s0_0 s0_1 s0_2 = some (r1, r2, r3, r4, r5)) :
 Calls Try.prog 78 #[.pointer (some ⟨g, 0, none⟩)] w fun e w' => ∃ v2_ : Value, e = .returned (.agg #[.int .i64 r1, .int .i64 r2, v2_]) ∧ Kd.R k_Item 55 w' w.heap.size (fun _ => True) v2_ r3 ∧ IsS_l1Cur w0 w' g s0_0 r4 r5 ∧ Below w0.heap.size w0 w' ∧ KeepBut w w' g none := by
 have hu48 := Try.underlying48
 have HI0 := Aside0.mk hI
 have HK := Aside0.mk (KeepBut.refl w g none)
 have HL := Aside0.mk hB.size
 clear hI
 have HW0 := Aside0.mk hB.size
 have HB := Aside0.mk hB
 clear hB
 have H : ((spec_l1Below.f s0_0 s0_1 s0_2 14).bind fun bt572 => (spec_l3DrawRight.l0 k bt572.1 0 s0_0 bt572.2.1 bt572.2.2 0 0 ([] : List (S_Item)))) = some (r1, r2, r3, r4, r5) := h
 clear h
 replace H := Option.bind_eq_some_iff.mp H
 obtain ⟨⟨t572, t573, t574⟩, A20, H⟩ := H
 replace H : (spec_l3DrawRight.l0 k t572 0 s0_0 t573 t574 0 0 ([] : List (S_Item))) = some (r1, r2, r3, r4, r5) := H
 have A2 := Aside0.mk A20
 clear A20
 have H' := Aside0.mk H
 clear H
 go_enter Try.func78, Try.ntmps78
 go_wp2_with (first | ((with_reducible refine gate_dst (N := 2) rfl ?_); refine box_event ?hg (N := 2) ?hd (cs := #[.int .i64 0, .int .i64 0, .slice none 0 0]) (t := 48) ?hr ?_; (case hd => rfl); (case hg => rfl); (case hr => first | (go_simp; done) | (go_simp; rfl)); intro gb570 hg w3 hbox hb; have n0_ := Aside0.mk (IsS_l1Cur.below (is_l1Cur_ HI0.out) hb); have n1_ := Aside0.mk (KeepBut.trans (hk_ HK.out) (KeepBut.of_below hb g none) (.inl rfl)); have n2_ := Aside0.mk (below_step (hi_ HB.out) hb); have n3_ := Aside0.mk (hbox); have n4_ := Aside0.mk ((by rw [hg]; exact (keep_size (w := w) (g := g) (row := none) (hk_ HK.out)) : w.heap.size ≤ gb570)); have n5_ := Aside0.mk ((Nat.le_trans HW0.out (by rw [hg]; exact (keep_size (w := w) (g := g) (row := none) (hk_ HK.out)) : w.heap.size ≤ gb570) : w0.heap.size ≤ gb570)); have n6_ := Aside0.mk ((by rw [hg]; exact Nat.ne_of_lt (IsS_l1Cur.lt (show IsS_l1Cur w0 _ g s0_0 s0_1 s0_2 from is_l1Cur_ HI0.out)) : g ≠ gb570)); have n7_ := Aside0.mk ((by rw [hg]; exact Nat.ne_of_gt (IsS_l1Cur.lt (show IsS_l1Cur w0 _ g s0_0 s0_1 s0_2 from is_l1Cur_ HI0.out)) : gb570 ≠ g)); clear HI0; clear HK; clear HB; have HI0 := n0_; have HK := n1_; have HB := n2_; have BK570 := n3_; have GW570 := n4_; have GE570 := n5_; have NB0_570 := n6_; have NB570_0 := n7_; clear n0_ n1_ n2_ n3_ n4_ n5_ n6_ n7_; clear hb hbox hg) | ((with_reducible refine gate_dst (N := 3) rfl ?_); refine box_event ?hg (N := 3) ?hd (cs := #[.int .i64 0, .int .i64 0, .slice none 0 0]) (t := 48) ?hr ?_; (case hd => rfl); (case hg => rfl); (case hr => first | (go_simp; done) | (go_simp; rfl)); intro gb571 hg w4 hbox hb; have n0_ := Aside0.mk (IsS_l1Cur.below (is_l1Cur_ HI0.out) hb); have n1_ := Aside0.mk (bb_ BK570.out hb); have n2_ := Aside0.mk (KeepBut.trans (hk_ HK.out) (KeepBut.of_below hb g none) (.inl rfl)); have n3_ := Aside0.mk (below_step (hi_ HB.out) hb); have n4_ := Aside0.mk (hbox); have n5_ := Aside0.mk ((by rw [hg]; exact (keep_size (w := w) (g := g) (row := none) (hk_ HK.out)) : w.heap.size ≤ gb571)); have n6_ := Aside0.mk ((Nat.le_trans HW0.out (by rw [hg]; exact (keep_size (w := w) (g := g) (row := none) (hk_ HK.out)) : w.heap.size ≤ gb571) : w0.heap.size ≤ gb571)); have n7_ := Aside0.mk ((nl_ BK570.out hg : gb570 ≠ gb571)); have n8_ := Aside0.mk ((ng_ BK570.out hg : gb571 ≠ gb570)); have n9_ := Aside0.mk ((by rw [hg]; exact Nat.ne_of_lt (IsS_l1Cur.lt (show IsS_l1Cur w0 _ g s0_0 s0_1 s0_2 from is_l1Cur_ HI0.out)) : g ≠ gb571)); have n10_ := Aside0.mk ((by rw [hg]; exact Nat.ne_of_gt (IsS_l1Cur.lt (show IsS_l1Cur w0 _ g s0_0 s0_1 s0_2 from is_l1Cur_ HI0.out)) : gb571 ≠ g)); clear HI0; clear BK570; clear HK; clear HB; have HI0 := n0_; have BK570 := n1_; have HK := n2_; have HB := n3_; have BK571 := n4_; have GW571 := n5_; have GE571 := n6_; have NB570_571 := n7_; have NB571_570 := n8_; have NB0_571 := n9_; have NB571_0 := n10_; clear n0_ n1_ n2_ n3_ n4_ n5_ n6_ n7_ n8_ n9_ n10_; clear hb hbox hg; have hnb5 := NB571_570.out; have hnc5 := NB570_571.out; have hnb6 := NB571_0.out; have hnc6 := NB0_571.out; have hcz7_0 : w4.cell? ⟨gb571, 0, none⟩ = some (.int .i64 0) := bc_ BK571 0; have hcz7_1 : w4.cell? ⟨gb571, 1, none⟩ = some (.int .i64 0) := bc_ BK571 1; have hcz7_2 : w4.cell? ⟨gb571, 2, none⟩ = some (.slice none 0 0) := bc_ BK571 2; have hfz7_0 := blk_frozen BK571.out 0; have hfz7_1 := blk_frozen BK571.out 1; have hfz7_2 := blk_frozen BK571.out 2) | ((with_reducible refine gate_callee (f := 79) rfl ?_); refine goesL_ (some 8) rfl rfl Try.func79 (by kernel_rfl) rfl #[.pointer (some ⟨g, 0, none⟩), .int .i64 14] rfl sm_ ?_; (with_reducible refine (spec_l1Below.calls g s0_0 s0_1 s0_2 14 t572 t573 t574 w0 _ ?side1 ?side2 A2.out).mono ?_); (case side1 => repeat (first | (with_reducible first | exact HI0.out | apply IsS_l1Cur.alloc | apply IsS_l1Cur.drewN | apply IsS_l1Cur.drew | apply IsS_l1Cur.set_1 | apply IsS_l1Cur.set_2 | refine IsS_l1Cur.far ?_ NB0_570.out _ | refine IsS_l1Cur.far ?_ NB0_571.out _) | exact HI0.out)); (case side2 => repeat (first | (with_reducible first | exact HB.out | apply below_alloc | apply pw_below_drewN | apply below_drew1 | refine below_set ?_ (IsS_l1Cur.ge HI0.out) | refine below_set ?_ GE570.out | refine below_set ?_ GE571.out) | exact HB.out)); rintro e w8 ⟨rfl, hi, hb, hk⟩; refine ⟨_, rfl, ?_⟩; have n0_ := Aside0.mk (KeepBut.blk hk (g' := gb570) (o := .cells #[.int .i64 0, .int .i64 0, .slice none 0 0] 48 (0, 0)) (bf_ NB570_571.out BK570.out) NB570_0.out (by simp)); have n1_ := Aside0.mk (KeepBut.blk hk (g' := gb571) (o := .cells #[.int .i64 0, .int .i64 0, .slice none 0 0] 48 (0, 0)) (bp_ BK571.out) NB571_0.out (by simp)); have n2_ := Aside0.mk (KeepBut.trans (hk_ HK.out) hk (.inl rfl)); have n3_ := Aside0.mk (hb); have n4_ := Aside0.mk (hi); clear BK570; clear BK571; clear HK; clear HB; clear HI0; have BK570 := n0_; have BK571 := n1_; have HK := n2_; have HB := n3_; have HI0 := n4_; clear n0_ n1_ n2_ n3_ n4_; (try clear hb); (try clear hb2); (try clear hk); (try clear hi)))
 go_loopg [5] k (fun kq v5 w' => ∃ (x5_1 : Int) (x1001_1 : Int) (x1002_1 : Int) (x572000_1 : Int) (x572001_1 : Int) (x572002_1 : List (S_Item)) (u572002 : Value), v5 = .int .i64 x5_1 ∧ Aside0 (spec_l3DrawRight.l0 kq t572 x5_1 s0_0 x1001_1 x1002_1 x572000_1 x572001_1 x572002_1 = some (r1, r2, r3, r4, r5)) ∧ Aside0 (kq ≤ k) ∧ Aside0 (Kd.R k_Item 55 w' w.heap.size (fun _ => True) u572002 x572002_1) ∧ Aside0 (w'.heap[gb570]? = some (.cells #[.int .i64 0, .int .i64 0, (.slice none 0 0)] 48 (0, 0))) ∧ Aside0 (w'.heap[gb571]? = some (.cells #[.int .i64 x572000_1, .int .i64 x572001_1, u572002] 48 (0, 0))) ∧ Aside0 (IsS_l1Cur w0 w' g s0_0 x1001_1 x1002_1) ∧ Aside0 (KeepBut w w' g none) ∧ Aside0 (Below w0.heap.size w0 w'))
 case atStart => exact ⟨(0), (t573), (t574), (0), (0), (([] : List (S_Item))), (.slice none 0 0), (qe14_), H', ⟨Nat.le_refl _⟩, ⟨by first | exact Kd.R_nil _ _ _ _ _ | exact Kd.N_nil _ _ _ _ _ | exact Kd.V_nil _ _ _ _ _ | exact Kd.Q_nil _ _ _ _ _ | exact Kd.S_nil _ _ _ _ _⟩, ⟨bq_ BK570.out⟩, ⟨bq_ BK571.out⟩, ⟨is_l1Cur_ HI0.out⟩, ⟨qe3_⟩, ⟨qe2_⟩⟩
 case round =>
  clear H'
  (try clear p2); (try clear c5); (try clear c6); (try clear c7); (try clear hcz7_0); (try clear hcz7_1); (try clear hcz7_2); (try clear hfz7_0); (try clear hfz7_1); (try clear hfz7_2)
  obtain ⟨x5_1, x1001_1, x1002_1, x572000_1, x572001_1, x572002_1, u572002, rfl, HA, HK1, HO_572002, BK570, BK571, HI0, HK, HB⟩ := hrel
  cases gk with
  | zero => exact absurd HA.out (by simp [spec_l3DrawRight.l0])
  | succ k1 =>
   have H := HA.out
   clear HA
   simp only [spec_l3DrawRight.l0] at H
   by_cases c9 : x5_1 < t572
   ·
    rw [if_pos c9] at H
    have c9b0 : decide (x5_1 < t572) = true := decide_eq_true c9
    clear c9
    replace H := Option.bind_eq_some_iff.mp H
    obtain ⟨⟨t575, t576, t577⟩, A100, H⟩ := H
    replace H : ((spec_l2DrawText.f s0_0 t576 t577).bind fun bt578 => ((spec_l1Below.f s0_0 bt578.2.1 bt578.2.2 4).bind fun bt581 => ((spec_RowPut.f k1 x572000_1 x572001_1 x572002_1 t575 bt578.1 bt581.1 x5_1).bind fun bt584 => ((spec_l1Below.f s0_0 bt581.2.1 bt581.2.2 12).bind fun bt591 => (if bt591.1 = 0 then ((spec_l1Below.f s0_0 bt591.2.1 bt591.2.2 3).bind fun bt594 => ((spec_l1Below.f s0_0 bt594.2.1 bt594.2.2 4).bind fun bt597 => ((spec_RowTrim.f k1 bt584.1 bt584.2.1 bt584.2.2.1 (wrap64 (1 + bt594.1)) bt597.1).bind fun bt600 => (spec_l3DrawRight.l0 k1 t572 (wrap64 (x5_1 + 1)) s0_0 bt597.2.1 bt597.2.2 bt600.1 bt600.2.1 bt600.2.2)))) else (if bt591.1 = 1 then ((spec_l1Below.f s0_0 bt591.2.1 bt591.2.2 3).bind fun bt605 => ((spec_RowPack.f k1 bt584.1 bt584.2.1 bt584.2.2.1 (wrap64 (1 + bt605.1))).bind fun bt608 => (spec_l3DrawRight.l0 k1 t572 (wrap64 (x5_1 + 1)) s0_0 bt605.2.1 bt605.2.2 bt608.1 bt608.2.1 bt608.2.2))) else (spec_l3DrawRight.l0 k1 t572 (wrap64 (x5_1 + 1)) s0_0 bt591.2.1 bt591.2.2 bt584.1 bt584.2.1 bt584.2.2.1))))))) = some (r1, r2, r3, r4, r5) := H
    have A10 := Aside0.mk A100
    clear A100
    replace H := Option.bind_eq_some_iff.mp H
    obtain ⟨⟨t578, t579, t580⟩, A110, H⟩ := H
    replace H : ((spec_l1Below.f s0_0 t579 t580 4).bind fun bt581 => ((spec_RowPut.f k1 x572000_1 x572001_1 x572002_1 t575 t578 bt581.1 x5_1).bind fun bt584 => ((spec_l1Below.f s0_0 bt581.2.1 bt581.2.2 12).bind fun bt591 => (if bt591.1 = 0 then ((spec_l1Below.f s0_0 bt591.2.1 bt591.2.2 3).bind fun bt594 => ((spec_l1Below.f s0_0 bt594.2.1 bt594.2.2 4).bind fun bt597 => ((spec_RowTrim.f k1 bt584.1 bt584.2.1 bt584.2.2.1 (wrap64 (1 + bt594.1)) bt597.1).bind fun bt600 => (spec_l3DrawRight.l0 k1 t572 (wrap64 (x5_1 + 1)) s0_0 bt597.2.1 bt597.2.2 bt600.1 bt600.2.1 bt600.2.2)))) else (if bt591.1 = 1 then ((spec_l1Below.f s0_0 bt591.2.1 bt591.2.2 3).bind fun bt605 => ((spec_RowPack.f k1 bt584.1 bt584.2.1 bt584.2.2.1 (wrap64 (1 + bt605.1))).bind fun bt608 => (spec_l3DrawRight.l0 k1 t572 (wrap64 (x5_1 + 1)) s0_0 bt605.2.1 bt605.2.2 bt608.1 bt608.2.1 bt608.2.2))) else (spec_l3DrawRight.l0 k1 t572 (wrap64 (x5_1 + 1)) s0_0 bt591.2.1 bt591.2.2 bt584.1 bt584.2.1 bt584.2.2.1)))))) = some (r1, r2, r3, r4, r5) := H
    have A11 := Aside0.mk A110
    clear A110
    replace H := Option.bind_eq_some_iff.mp H
    obtain ⟨⟨t581, t582, t583⟩, A120, H⟩ := H
    replace H : ((spec_RowPut.f k1 x572000_1 x572001_1 x572002_1 t575 t578 t581 x5_1).bind fun bt584 => ((spec_l1Below.f s0_0 t582 t583 12).bind fun bt591 => (if bt591.1 = 0 then ((spec_l1Below.f s0_0 bt591.2.1 bt591.2.2 3).bind fun bt594 => ((spec_l1Below.f s0_0 bt594.2.1 bt594.2.2 4).bind fun bt597 => ((spec_RowTrim.f k1 bt584.1 bt584.2.1 bt584.2.2.1 (wrap64 (1 + bt594.1)) bt597.1).bind fun bt600 => (spec_l3DrawRight.l0 k1 t572 (wrap64 (x5_1 + 1)) s0_0 bt597.2.1 bt597.2.2 bt600.1 bt600.2.1 bt600.2.2)))) else (if bt591.1 = 1 then ((spec_l1Below.f s0_0 bt591.2.1 bt591.2.2 3).bind fun bt605 => ((spec_RowPack.f k1 bt584.1 bt584.2.1 bt584.2.2.1 (wrap64 (1 + bt605.1))).bind fun bt608 => (spec_l3DrawRight.l0 k1 t572 (wrap64 (x5_1 + 1)) s0_0 bt605.2.1 bt605.2.2 bt608.1 bt608.2.1 bt608.2.2))) else (spec_l3DrawRight.l0 k1 t572 (wrap64 (x5_1 + 1)) s0_0 bt591.2.1 bt591.2.2 bt584.1 bt584.2.1 bt584.2.2.1))))) = some (r1, r2, r3, r4, r5) := H
    have A12 := Aside0.mk A120
    clear A120
    replace H := Option.bind_eq_some_iff.mp H
    obtain ⟨⟨t584, t585, t586, t589, t590⟩, A130, H⟩ := H
    replace H : ((spec_l1Below.f s0_0 t582 t583 12).bind fun bt591 => (if bt591.1 = 0 then ((spec_l1Below.f s0_0 bt591.2.1 bt591.2.2 3).bind fun bt594 => ((spec_l1Below.f s0_0 bt594.2.1 bt594.2.2 4).bind fun bt597 => ((spec_RowTrim.f k1 t584 t585 t586 (wrap64 (1 + bt594.1)) bt597.1).bind fun bt600 => (spec_l3DrawRight.l0 k1 t572 (wrap64 (x5_1 + 1)) s0_0 bt597.2.1 bt597.2.2 bt600.1 bt600.2.1 bt600.2.2)))) else (if bt591.1 = 1 then ((spec_l1Below.f s0_0 bt591.2.1 bt591.2.2 3).bind fun bt605 => ((spec_RowPack.f k1 t584 t585 t586 (wrap64 (1 + bt605.1))).bind fun bt608 => (spec_l3DrawRight.l0 k1 t572 (wrap64 (x5_1 + 1)) s0_0 bt605.2.1 bt605.2.2 bt608.1 bt608.2.1 bt608.2.2))) else (spec_l3DrawRight.l0 k1 t572 (wrap64 (x5_1 + 1)) s0_0 bt591.2.1 bt591.2.2 t584 t585 t586)))) = some (r1, r2, r3, r4, r5) := H
    have A13 := Aside0.mk A130
    clear A130
    replace H := Option.bind_eq_some_iff.mp H
    obtain ⟨⟨t591, t592, t593⟩, A140, H⟩ := H
    replace H : (if t591 = 0 then ((spec_l1Below.f s0_0 t592 t593 3).bind fun bt594 => ((spec_l1Below.f s0_0 bt594.2.1 bt594.2.2 4).bind fun bt597 => ((spec_RowTrim.f k1 t584 t585 t586 (wrap64 (1 + bt594.1)) bt597.1).bind fun bt600 => (spec_l3DrawRight.l0 k1 t572 (wrap64 (x5_1 + 1)) s0_0 bt597.2.1 bt597.2.2 bt600.1 bt600.2.1 bt600.2.2)))) else (if t591 = 1 then ((spec_l1Below.f s0_0 t592 t593 3).bind fun bt605 => ((spec_RowPack.f k1 t584 t585 t586 (wrap64 (1 + bt605.1))).bind fun bt608 => (spec_l3DrawRight.l0 k1 t572 (wrap64 (x5_1 + 1)) s0_0 bt605.2.1 bt605.2.2 bt608.1 bt608.2.1 bt608.2.2))) else (spec_l3DrawRight.l0 k1 t572 (wrap64 (x5_1 + 1)) s0_0 t592 t593 t584 t585 t586))) = some (r1, r2, r3, r4, r5) := H
    have A14 := Aside0.mk A140
    clear A140
    by_cases c15 : t591 = 0
    ·
     rw [if_pos c15] at H
     have c15b0 : (t591 == 0) = true := beq_iff_eq.mpr c15
     have c15b1 : (t591 != 0) = false := bne_eq_false_iff_eq.mpr c15
     clear c15
     replace H := Option.bind_eq_some_iff.mp H
     obtain ⟨⟨t594, t595, t596⟩, A160, H⟩ := H
     replace H : ((spec_l1Below.f s0_0 t595 t596 4).bind fun bt597 => ((spec_RowTrim.f k1 t584 t585 t586 (wrap64 (1 + t594)) bt597.1).bind fun bt600 => (spec_l3DrawRight.l0 k1 t572 (wrap64 (x5_1 + 1)) s0_0 bt597.2.1 bt597.2.2 bt600.1 bt600.2.1 bt600.2.2))) = some (r1, r2, r3, r4, r5) := H
     have A16 := Aside0.mk A160
     clear A160
     replace H := Option.bind_eq_some_iff.mp H
     obtain ⟨⟨t597, t598, t599⟩, A170, H⟩ := H
     replace H : ((spec_RowTrim.f k1 t584 t585 t586 (wrap64 (1 + t594)) t597).bind fun bt600 => (spec_l3DrawRight.l0 k1 t572 (wrap64 (x5_1 + 1)) s0_0 t598 t599 bt600.1 bt600.2.1 bt600.2.2)) = some (r1, r2, r3, r4, r5) := H
     have A17 := Aside0.mk A170
     clear A170
     replace H := Option.bind_eq_some_iff.mp H
     obtain ⟨⟨t600, t601, t602⟩, A180, H⟩ := H
     replace H : (spec_l3DrawRight.l0 k1 t572 (wrap64 (x5_1 + 1)) s0_0 t598 t599 t600 t601 t602) = some (r1, r2, r3, r4, r5) := H
     have A18 := Aside0.mk A180
     clear A180
     have H' := Aside0.mk H
     clear H
     try go_wp2
     have n0_ := Aside0.mk (Kd.R_drew HO_572002.out)
     have n1_ := Aside0.mk (blk_drew BK570.out)
     have n2_ := Aside0.mk (blk_drew BK571.out)
     have n3_ := Aside0.mk (IsS_l1Cur.drew HI0.out)
     have n4_ := Aside0.mk (keep_drew HK.out)
     have n5_ := Aside0.mk (below_drew1 HB.out)
     clear HO_572002; clear BK570
     clear BK571; clear HI0
     clear HK; clear HB
     have HO_572002 := n0_
     have BK570 := n1_
     have BK571 := n2_
     have HI0 := n3_
     have HK := n4_
     have HB := n5_
     clear n0_ n1_ n2_ n3_ n4_ n5_
     refine start_ (n := 14) (S := fun w' => w'.cell? ⟨gb571, 0, none⟩ = some (.int .i64 x572000_1) ∧ w'.cell? ⟨gb571, 1, none⟩ = some (.int .i64 x572001_1) ∧ w'.cell? ⟨gb571, 2, none⟩ = some (u572002)) (ds := [13]) spec_l3DrawRight.m0 (by kernel_rfl) rfl rfl ⟨bc_ BK571 0, bc_ BK571 1, bc_ BK571 2⟩ (fun hHeld => ?_); refine with_tabW spec_l3DrawRight.tab6 spec_l3DrawRight.bits6 (fun HT_ HW_ => ?_)
     generalize wr.drew = w19 at HO_572002 BK570 BK571 HI0 HK HB hHeld ⊢
     refine pI_ 1 16 HT_ spec_l3DrawRight.m1 rfl rfl ?_
     refine pI_ 3 18 HT_ spec_l3DrawRight.m2 rfl rfl ?_
     refine pI_ 5 20 HT_ spec_l3DrawRight.m3 rfl rfl ?_
     refine pI_ 7 22 HT_ spec_l3DrawRight.m4 rfl rfl ?_
     refine tk_ 0 15 HT_ HW_ spec_l3DrawRight.m5 rfl rfl hHeld ?_
     refine on_ 2 17 HT_ spec_l3DrawRight.m6 rfl rfl (fun K hK => ?_)
     refine goes_ Try.func84 (by kernel_rfl) rfl #[.pointer (some ⟨g, 0, none⟩)] (by rfl) rfl rfl sm_ ?_
     with_reducible refine (spec_l2DrawText.calls g s0_0 x1001_1 x1002_1 t575 t576 t577 w0 _ ?side1 ?side2 A10.out).mono ?_
     (case side1 => repeat (first | (with_reducible first | exact HI0.out | apply IsS_l1Cur.alloc | apply IsS_l1Cur.drewN | apply IsS_l1Cur.drew | apply IsS_l1Cur.set_1 | apply IsS_l1Cur.set_2 | refine IsS_l1Cur.far ?_ NB0_570.out _ | refine IsS_l1Cur.far ?_ NB0_571.out _) | exact HI0.out))
     (case side2 => repeat (first | (with_reducible first | exact HB.out | apply below_alloc | apply pw_below_drewN | apply below_drew1 | refine below_set ?_ (IsS_l1Cur.ge HI0.out) | refine below_set ?_ GE570.out | refine below_set ?_ GE571.out) | exact HB.out))
     rintro e w20 ⟨rfl, hi, hb, hk⟩
     refine ⟨_, rfl, ?_⟩
     have n0_ := Aside0.mk (Kd.R_mono (Kd.R_keep (IsS_l1Cur.apart (show IsS_l1Cur w0 _ g s0_0 x1001_1 x1002_1 from is_l1Cur_ HI0.out) (rq_ HO_572002.out) (by decide)) hk (fun _ h => h.2)) (fun _ h => h.1))
     have n1_ := Aside0.mk (KeepBut.blk hk (g' := gb570) (o := .cells #[.int .i64 0, .int .i64 0, .slice none 0 0] 48 (0, 0)) (bq_ BK570.out) NB570_0.out (by simp))
     have n2_ := Aside0.mk (KeepBut.blk hk (g' := gb571) (o := .cells #[.int .i64 x572000_1, .int .i64 x572001_1, u572002] 48 (0, 0)) (bq_ BK571.out) NB571_0.out (by simp))
     have n3_ := Aside0.mk (KeepBut.trans (hk_ HK.out) hk (.inl rfl))
     have n4_ := Aside0.mk (hb)
     have n5_ := Aside0.mk (hi)
     clear HO_572002; clear BK570
     clear BK571; clear HK
     clear HB; clear HI0
     have HO_572002 := n0_
     have BK570 := n1_
     have BK571 := n2_
     have HK := n3_
     have HB := n4_
     have HI0 := n5_
     clear n0_ n1_ n2_ n3_ n4_ n5_
     (try clear hb)
     (try clear hb2)
     (try clear hk)
     (try clear hi)
     refine hK.out _ _ ⟨bc_ BK571 0, bc_ BK571 1, bc_ BK571 2⟩ (fun hHeld => ?_)
     clear hK K
     refine nm_ ?_
     refine on_ 4 19 HT_ spec_l3DrawRight.m7 rfl rfl (fun K hK => ?_)
     refine goes_ Try.func84 (by kernel_rfl) rfl #[.pointer (some ⟨g, 0, none⟩)] (by rfl) rfl rfl sm_ ?_
     with_reducible refine (spec_l2DrawText.calls g s0_0 t576 t577 t578 t579 t580 w0 _ ?side1 ?side2 A11.out).mono ?_
     (case side1 => repeat (first | (with_reducible first | exact HI0.out | apply IsS_l1Cur.alloc | apply IsS_l1Cur.drewN | apply IsS_l1Cur.drew | apply IsS_l1Cur.set_1 | apply IsS_l1Cur.set_2 | refine IsS_l1Cur.far ?_ NB0_570.out _ | refine IsS_l1Cur.far ?_ NB0_571.out _) | exact HI0.out))
     (case side2 => repeat (first | (with_reducible first | exact HB.out | apply below_alloc | apply pw_below_drewN | apply below_drew1 | refine below_set ?_ (IsS_l1Cur.ge HI0.out) | refine below_set ?_ GE570.out | refine below_set ?_ GE571.out) | exact HB.out))
     rintro e w21 ⟨rfl, hi, hb, hk⟩
     refine ⟨_, rfl, ?_⟩
     have n0_ := Aside0.mk (Kd.R_mono (Kd.R_keep (IsS_l1Cur.apart (show IsS_l1Cur w0 _ g s0_0 t576 t577 from is_l1Cur_ HI0.out) (rq_ HO_572002.out) (by decide)) hk (fun _ h => h.2)) (fun _ h => h.1))
     have n1_ := Aside0.mk (KeepBut.blk hk (g' := gb570) (o := .cells #[.int .i64 0, .int .i64 0, .slice none 0 0] 48 (0, 0)) (bq_ BK570.out) NB570_0.out (by simp))
     have n2_ := Aside0.mk (KeepBut.blk hk (g' := gb571) (o := .cells #[.int .i64 x572000_1, .int .i64 x572001_1, u572002] 48 (0, 0)) (bq_ BK571.out) NB571_0.out (by simp))
     have n3_ := Aside0.mk (KeepBut.trans (hk_ HK.out) hk (.inl rfl))
     have n4_ := Aside0.mk (hb)
     have n5_ := Aside0.mk (hi)
     clear HO_572002; clear BK570
     clear BK571; clear HK
     clear HB; clear HI0
     have HO_572002 := n0_
     have BK570 := n1_
     have BK571 := n2_
     have HK := n3_
     have HB := n4_
     have HI0 := n5_
     clear n0_ n1_ n2_ n3_ n4_ n5_
     (try clear hb)
     (try clear hb2)
     (try clear hk)
     (try clear hi)
     refine hK.out _ _ ⟨bc_ BK571 0, bc_ BK571 1, bc_ BK571 2⟩ (fun hHeld => ?_)
     clear hK K
     refine nm_ ?_
     refine on_ 6 21 HT_ spec_l3DrawRight.m8 rfl rfl (fun K hK => ?_)
     refine goes_ Try.func79 (by kernel_rfl) rfl #[.pointer (some ⟨g, 0, none⟩), .int .i64 4] (by rfl) rfl rfl sm_ ?_
     with_reducible refine (spec_l1Below.calls g s0_0 t579 t580 4 t581 t582 t583 w0 _ ?side1 ?side2 A12.out).mono ?_
     (case side1 => repeat (first | (with_reducible first | exact HI0.out | apply IsS_l1Cur.alloc | apply IsS_l1Cur.drewN | apply IsS_l1Cur.drew | apply IsS_l1Cur.set_1 | apply IsS_l1Cur.set_2 | refine IsS_l1Cur.far ?_ NB0_570.out _ | refine IsS_l1Cur.far ?_ NB0_571.out _) | exact HI0.out))
     (case side2 => repeat (first | (with_reducible first | exact HB.out | apply below_alloc | apply pw_below_drewN | apply below_drew1 | refine below_set ?_ (IsS_l1Cur.ge HI0.out) | refine below_set ?_ GE570.out | refine below_set ?_ GE571.out) | exact HB.out))
     rintro e w22 ⟨rfl, hi, hb, hk⟩
     refine ⟨_, rfl, ?_⟩
     have n0_ := Aside0.mk (Kd.R_mono (Kd.R_keep (IsS_l1Cur.apart (show IsS_l1Cur w0 _ g s0_0 t579 t580 from is_l1Cur_ HI0.out) (rq_ HO_572002.out) (by decide)) hk (fun _ h => h.2)) (fun _ h => h.1))
     have n1_ := Aside0.mk (KeepBut.blk hk (g' := gb570) (o := .cells #[.int .i64 0, .int .i64 0, .slice none 0 0] 48 (0, 0)) (bq_ BK570.out) NB570_0.out (by simp))
     have n2_ := Aside0.mk (KeepBut.blk hk (g' := gb571) (o := .cells #[.int .i64 x572000_1, .int .i64 x572001_1, u572002] 48 (0, 0)) (bq_ BK571.out) NB571_0.out (by simp))
     have n3_ := Aside0.mk (KeepBut.trans (hk_ HK.out) hk (.inl rfl))
     have n4_ := Aside0.mk (hb)
     have n5_ := Aside0.mk (hi)
     clear HO_572002; clear BK570
     clear BK571; clear HK
     clear HB; clear HI0
     have HO_572002 := n0_
     have BK570 := n1_
     have BK571 := n2_
     have HK := n3_
     have HB := n4_
     have HI0 := n5_
     clear n0_ n1_ n2_ n3_ n4_ n5_
     (try clear hb)
     (try clear hb2)
     (try clear hk)
     (try clear hi)
     obtain ⟨Ao23, co23, eo23⟩ := Kd.R_slice HO_572002.out
     (first | subst eo23 | (injection eo23 with f1_ f2_ f3_; have f4_ := f1_.symm; have f5_ := f3_.symm; clear f1_ f2_ f3_; subst f4_; subst f5_))
     refine hK.out _ _ ⟨bc_ BK571 0, bc_ BK571 1, bc_ BK571 2⟩ (fun hHeld => ?_)
     clear hK K
     refine nm_ ?_
     refine on_ 8 23 HT_ spec_l3DrawRight.m9 rfl rfl (fun K hK => ?_)
     refine goes_ Try.func81 (by kernel_rfl) rfl #[.agg #[.int .i64 x572000_1, .int .i64 x572001_1, .slice Ao23 x572002_1.length co23], .string t575, .string t578, .int .i64 t581, .int .i64 x5_1] (by rfl) rfl rfl sm_ ?_
     with_reducible refine (spec_RowPut.calls k1 x572000_1 x572001_1 _ _ x572002_1 t575 t578 t581 x5_1 t584 t585 t586 t589 t590 _ ?side1 ?side2 A13.out).mono ?_
     (case side1 => repeat (first | exact (Kd.R_reads' HO_572002.out).2.2 | (with_reducible refine Kd.C_alloc ?_ _) | (with_reducible refine Kd.C_drewN ?_ _) | (with_reducible refine Kd.C_drew ?_)))
     (case side2 => exact (Kd.R_reads' HO_572002.out).2.1)
     rintro e w24 ⟨v587, rfl, ho0, hb⟩
     refine ⟨_, rfl, ?_⟩
     have n0_ := Aside0.mk (Kd.R_elder' (rq_ HO_572002.out) (Kd.R_base ho0) hb)
     have n1_ := Aside0.mk (Kd.R_lower (Kd.R_new' ho0 (Kd.R_lt (rq_ HO_572002.out))) (keep_size (w := w) (g := g) (row := none) (hk_ HK.out)))
     have n2_ := Aside0.mk (bb_ BK570.out hb)
     have n3_ := Aside0.mk (bb_ BK571.out hb)
     have n4_ := Aside0.mk (IsS_l1Cur.below (is_l1Cur_ HI0.out) hb)
     have n5_ := Aside0.mk (KeepBut.trans (hk_ HK.out) (KeepBut.of_below hb g none) (.inl rfl))
     have n6_ := Aside0.mk (below_step (hi_ HB.out) hb)
     clear HO_572002; clear BK570
     clear BK571; clear HI0
     clear HK; clear HB
     have HO_572002 := n0_
     have HO588 := n1_
     have BK570 := n2_
     have BK571 := n3_
     have HI0 := n4_
     have HK := n5_
     have HB := n6_
     clear n0_ n1_ n2_ n3_ n4_ n5_ n6_
     (try clear hb)
     (try clear hb2)
     (try clear hk)
     (try clear hi)
     (try clear ho0)
     obtain ⟨Ao27, co27, eo27⟩ := Kd.R_slice HO588.out
     (first | subst eo27 | (injection eo27 with f1_ f2_ f3_; have f4_ := f1_.symm; have f5_ := f3_.symm; clear f1_ f2_ f3_; subst f4_; subst f5_))
     refine hK.out _ _ ⟨bc_ BK571 0, bc_ BK571 1, bc_ BK571 2⟩ (fun hHeld => ?_)
     clear hK K
     refine nm_ ?_
     refine pI_ 9 14 HT_ spec_l3DrawRight.m10 rfl rfl ?_
     refine pI_ 10 24 HT_ spec_l3DrawRight.m11 rfl rfl ?_
     refine pI_ 11 25 HT_ spec_l3DrawRight.m12 rfl rfl ?_
     refine pI_ 12 26 HT_ spec_l3DrawRight.m13 rfl rfl ?_
     refine last_ (i := 13) (N := none) spec_l3DrawRight.m14 rfl rfl (one_of HT_.out (by kernel_rfl)) (by decide) (fun K hK => ?_)
     have hs25 : w24.cell? ⟨gb571, 0, none⟩ = some (.int .i64 x572000_1) := bc_ BK571 0
     have hfs25 := blk_frozen BK571.out 0
     have hns25_0 := NB570_571.out
     have hms25_0 := NB571_570.out
     have hs26 : w24.cell? ⟨gb571, 1, none⟩ = some (.int .i64 x572001_1) := bc_ BK571 1
     have hfs26 := blk_frozen BK571.out 1
     have hns26_0 := NB570_571.out
     have hms26_0 := NB571_570.out
     have hs28 : w24.cell? ⟨gb571, 2, none⟩ = some (.slice Ao23 x572002_1.length co23) := bc_ BK571 2
     have hfs28 := blk_frozen BK571.out 2
     have hns28_0 := NB570_571.out
     have hms28_0 := NB571_570.out
     refine skip_ (w1 := ?_) (by rfl) rfl ?_ ?_
     rotate_left; (focus go_simp; rfl)
     refine hK.out _ _ ?_
     clear hK K
     refine done_ (done_of HT_.out (by kernel_rfl)) ?_
     try go_wp2_with (first | ((with_reducible refine gate_callee (f := 79) rfl ?_); refine goesL_ (some 28) rfl rfl Try.func79 (by kernel_rfl) rfl #[.pointer (some ⟨g, 0, none⟩), .int .i64 12] rfl sm_ ?_; (with_reducible refine (spec_l1Below.calls g s0_0 t582 t583 12 t591 t592 t593 w0 _ ?side1 ?side2 A14.out).mono ?_); (case side1 => repeat (first | (with_reducible first | exact HI0.out | apply IsS_l1Cur.alloc | apply IsS_l1Cur.drewN | apply IsS_l1Cur.drew | apply IsS_l1Cur.set_1 | apply IsS_l1Cur.set_2 | refine IsS_l1Cur.far ?_ NB0_570.out _ | refine IsS_l1Cur.far ?_ NB0_571.out _) | exact HI0.out)); (case side2 => repeat (first | (with_reducible first | exact HB.out | apply below_alloc | apply pw_below_drewN | apply below_drew1 | refine below_set ?_ (IsS_l1Cur.ge HI0.out) | refine below_set ?_ GE570.out | refine below_set ?_ GE571.out) | exact HB.out)); rintro e w29 ⟨rfl, hi, hb, hk⟩; refine ⟨_, rfl, ?_⟩; have n0_ := Aside0.mk (Kd.R_mono (Kd.R_keep (IsS_l1Cur.apart (show IsS_l1Cur w0 _ g s0_0 t582 t583 from is_l1Cur_ HI0.out) (rk_ HO_572002.out BK571.out) (by decide)) hk (fun _ h => h.2)) (fun _ h => h.1)); have n1_ := Aside0.mk (KeepBut.blk hk (g' := gb570) (o := .cells #[.int .i64 0, .int .i64 0, .slice none 0 0] 48 (0, 0)) (bf_ NB570_571.out BK570.out) NB570_0.out (by simp)); have n2_ := Aside0.mk (KeepBut.blk hk (g' := gb571) (o := .cells #[.int .i64 t584, .int .i64 t585, .slice Ao27 t586.length co27] 48 (0, 0)) (bp_ BK571.out) NB571_0.out (by simp)); have n3_ := Aside0.mk (Kd.R_mono (Kd.R_keep (IsS_l1Cur.apart (show IsS_l1Cur w0 _ g s0_0 t582 t583 from is_l1Cur_ HI0.out) (rk_ HO588.out BK571.out) (by decide)) hk (fun _ h => h.2)) (fun _ h => h.1)); have n4_ := Aside0.mk (KeepBut.trans (hk_ HK.out) hk (.inl rfl)); have n5_ := Aside0.mk (hb); have n6_ := Aside0.mk (hi); clear HO_572002; clear BK570; clear BK571; clear HO588; clear HK; clear HB; clear HI0; have HO_572002 := n0_; have BK570 := n1_; have BK571 := n2_; have HO588 := n3_; have HK := n4_; have HB := n5_; have HI0 := n6_; clear n0_ n1_ n2_ n3_ n4_ n5_ n6_; (try clear hb); (try clear hb2); (try clear hk); (try clear hi)))
     have n0_ := Aside0.mk (Kd.R_drew HO_572002.out)
     have n1_ := Aside0.mk (Kd.R_drew HO588.out)
     have n2_ := Aside0.mk (blk_drew BK570.out)
     have n3_ := Aside0.mk (blk_drew BK571.out)
     have n4_ := Aside0.mk (IsS_l1Cur.drew HI0.out)
     have n5_ := Aside0.mk (keep_drew HK.out)
     have n6_ := Aside0.mk (below_drew1 HB.out)
     clear HO_572002; clear HO588
     clear BK570; clear BK571
     clear HI0; clear HK
     clear HB
     have HO_572002 := n0_
     have HO588 := n1_
     have BK570 := n2_
     have BK571 := n3_
     have HI0 := n4_
     have HK := n5_
     have HB := n6_
     clear n0_ n1_ n2_ n3_ n4_ n5_ n6_
     refine start_ (n := 8) (S := fun w' => w'.cell? ⟨gb571, 0, none⟩ = some (.int .i64 t584) ∧ w'.cell? ⟨gb571, 1, none⟩ = some (.int .i64 t585) ∧ w'.cell? ⟨gb571, 2, none⟩ = some (.slice Ao27 t586.length co27)) (ds := [7]) #[false, false, false, false, false, false, false, false] (by kernel_rfl) rfl rfl ⟨bc_ BK571 0, bc_ BK571 1, bc_ BK571 2⟩ (fun hHeld => ?_); refine with_tabW spec_l3DrawRight.tab9 spec_l3DrawRight.bits9 (fun HT_ HW_ => ?_)
     generalize w29.drew = w30 at HO_572002 HO588 BK570 BK571 HI0 HK HB hHeld ⊢
     refine pI_ 1 32 HT_ #[false, true, false, false, false, false, false, false] rfl rfl ?_
     refine pI_ 4 35 HT_ #[false, true, false, false, true, false, false, false] rfl rfl ?_
     refine tk_ 0 31 HT_ HW_ #[true, true, false, false, true, false, false, false] rfl rfl hHeld ?_
     refine on_ 2 33 HT_ #[true, true, true, false, true, false, false, false] rfl rfl (fun K hK => ?_)
     refine goes_ Try.func79 (by kernel_rfl) rfl #[.pointer (some ⟨g, 0, none⟩), .int .i64 3] (by rfl) rfl rfl sm_ ?_
     with_reducible refine (spec_l1Below.calls g s0_0 t592 t593 3 t594 t595 t596 w0 _ ?side1 ?side2 A16.out).mono ?_
     (case side1 => repeat (first | (with_reducible first | exact HI0.out | apply IsS_l1Cur.alloc | apply IsS_l1Cur.drewN | apply IsS_l1Cur.drew | apply IsS_l1Cur.set_1 | apply IsS_l1Cur.set_2 | refine IsS_l1Cur.far ?_ NB0_570.out _ | refine IsS_l1Cur.far ?_ NB0_571.out _) | exact HI0.out))
     (case side2 => repeat (first | (with_reducible first | exact HB.out | apply below_alloc | apply pw_below_drewN | apply below_drew1 | refine below_set ?_ (IsS_l1Cur.ge HI0.out) | refine below_set ?_ GE570.out | refine below_set ?_ GE571.out) | exact HB.out))
     rintro e w31 ⟨rfl, hi, hb, hk⟩
     refine ⟨_, rfl, ?_⟩
     have n0_ := Aside0.mk (Kd.R_mono (Kd.R_keep (IsS_l1Cur.apart (show IsS_l1Cur w0 _ g s0_0 t592 t593 from is_l1Cur_ HI0.out) (rq_ HO_572002.out) (by decide)) hk (fun _ h => h.2)) (fun _ h => h.1))
     have n1_ := Aside0.mk (KeepBut.blk hk (g' := gb570) (o := .cells #[.int .i64 0, .int .i64 0, .slice none 0 0] 48 (0, 0)) (bq_ BK570.out) NB570_0.out (by simp))
     have n2_ := Aside0.mk (KeepBut.blk hk (g' := gb571) (o := .cells #[.int .i64 t584, .int .i64 t585, .slice Ao27 t586.length co27] 48 (0, 0)) (bq_ BK571.out) NB571_0.out (by simp))
     have n3_ := Aside0.mk (Kd.R_mono (Kd.R_keep (IsS_l1Cur.apart (show IsS_l1Cur w0 _ g s0_0 t592 t593 from is_l1Cur_ HI0.out) (rq_ HO588.out) (by decide)) hk (fun _ h => h.2)) (fun _ h => h.1))
     have n4_ := Aside0.mk (KeepBut.trans (hk_ HK.out) hk (.inl rfl))
     have n5_ := Aside0.mk (hb)
     have n6_ := Aside0.mk (hi)
     clear HO_572002; clear BK570
     clear BK571; clear HO588
     clear HK; clear HB
     clear HI0
     have HO_572002 := n0_
     have BK570 := n1_
     have BK571 := n2_
     have HO588 := n3_
     have HK := n4_
     have HB := n5_
     have HI0 := n6_
     clear n0_ n1_ n2_ n3_ n4_ n5_ n6_
     (try clear hb)
     (try clear hb2)
     (try clear hk)
     (try clear hi)
     refine hK.out _ _ ⟨bc_ BK571 0, bc_ BK571 1, bc_ BK571 2⟩ (fun hHeld => ?_)
     clear hK K
     refine nm_ ?_
     refine pI_ 3 34 HT_ #[true, true, true, true, true, false, false, false] rfl rfl ?_
     refine on_ 5 36 HT_ #[true, true, true, true, true, true, false, false] rfl rfl (fun K hK => ?_)
     refine goes_ Try.func79 (by kernel_rfl) rfl #[.pointer (some ⟨g, 0, none⟩), .int .i64 4] (by rfl) rfl rfl sm_ ?_
     with_reducible refine (spec_l1Below.calls g s0_0 t595 t596 4 t597 t598 t599 w0 _ ?side1 ?side2 A17.out).mono ?_
     (case side1 => repeat (first | (with_reducible first | exact HI0.out | apply IsS_l1Cur.alloc | apply IsS_l1Cur.drewN | apply IsS_l1Cur.drew | apply IsS_l1Cur.set_1 | apply IsS_l1Cur.set_2 | refine IsS_l1Cur.far ?_ NB0_570.out _ | refine IsS_l1Cur.far ?_ NB0_571.out _) | exact HI0.out))
     (case side2 => repeat (first | (with_reducible first | exact HB.out | apply below_alloc | apply pw_below_drewN | apply below_drew1 | refine below_set ?_ (IsS_l1Cur.ge HI0.out) | refine below_set ?_ GE570.out | refine below_set ?_ GE571.out) | exact HB.out))
     rintro e w32 ⟨rfl, hi, hb, hk⟩
     refine ⟨_, rfl, ?_⟩
     have n0_ := Aside0.mk (Kd.R_mono (Kd.R_keep (IsS_l1Cur.apart (show IsS_l1Cur w0 _ g s0_0 t595 t596 from is_l1Cur_ HI0.out) (rq_ HO_572002.out) (by decide)) hk (fun _ h => h.2)) (fun _ h => h.1))
     have n1_ := Aside0.mk (KeepBut.blk hk (g' := gb570) (o := .cells #[.int .i64 0, .int .i64 0, .slice none 0 0] 48 (0, 0)) (bq_ BK570.out) NB570_0.out (by simp))
     have n2_ := Aside0.mk (KeepBut.blk hk (g' := gb571) (o := .cells #[.int .i64 t584, .int .i64 t585, .slice Ao27 t586.length co27] 48 (0, 0)) (bq_ BK571.out) NB571_0.out (by simp))
     have n3_ := Aside0.mk (Kd.R_mono (Kd.R_keep (IsS_l1Cur.apart (show IsS_l1Cur w0 _ g s0_0 t595 t596 from is_l1Cur_ HI0.out) (rq_ HO588.out) (by decide)) hk (fun _ h => h.2)) (fun _ h => h.1))
     have n4_ := Aside0.mk (KeepBut.trans (hk_ HK.out) hk (.inl rfl))
     have n5_ := Aside0.mk (hb)
     have n6_ := Aside0.mk (hi)
     clear HO_572002; clear BK570
     clear BK571; clear HO588
     clear HK; clear HB
     clear HI0
     have HO_572002 := n0_
     have BK570 := n1_
     have BK571 := n2_
     have HO588 := n3_
     have HK := n4_
     have HB := n5_
     have HI0 := n6_
     clear n0_ n1_ n2_ n3_ n4_ n5_ n6_
     (try clear hb)
     (try clear hb2)
     (try clear hk)
     (try clear hi)
     refine hK.out _ _ ⟨bc_ BK571 0, bc_ BK571 1, bc_ BK571 2⟩ (fun hHeld => ?_)
     clear hK K
     refine nm_ ?_
     refine on_ 6 37 HT_ #[true, true, true, true, true, true, true, false] rfl rfl (fun K hK => ?_)
     refine goes_ Try.func34 (by kernel_rfl) rfl #[.agg #[.int .i64 t584, .int .i64 t585, .slice Ao27 t586.length co27], .int .i64 (wrap64 (1 + t594)), .int .i64 t597] (by rfl) rfl rfl sm_ ?_
     with_reducible refine (spec_RowTrim.calls k1 t584 t585 _ _ t586 (wrap64 (1 + t594)) t597 t600 t601 t602 _ ?side1 ?side2 A18.out).mono ?_
     (case side1 => repeat (first | exact (Kd.R_reads' HO588.out).2.2 | (with_reducible refine Kd.C_alloc ?_ _) | (with_reducible refine Kd.C_drewN ?_ _) | (with_reducible refine Kd.C_drew ?_)))
     (case side2 => exact (Kd.R_reads' HO588.out).2.1)
     rintro e w33 ⟨v603, rfl, ho0, hb⟩
     refine ⟨_, rfl, ?_⟩
     have n0_ := Aside0.mk (Kd.R_elder' (rq_ HO_572002.out) (Kd.R_base ho0) hb)
     have n1_ := Aside0.mk (Kd.R_elder' (rq_ HO588.out) (Kd.R_base ho0) hb)
     have n2_ := Aside0.mk (Kd.R_lower (Kd.R_new' (Kd.R_new' ho0 (Kd.R_lt (rq_ HO_572002.out))) (Kd.R_lt (rq_ HO588.out))) (keep_size (w := w) (g := g) (row := none) (hk_ HK.out)))
     have n3_ := Aside0.mk (bb_ BK570.out hb)
     have n4_ := Aside0.mk (bb_ BK571.out hb)
     have n5_ := Aside0.mk (IsS_l1Cur.below (is_l1Cur_ HI0.out) hb)
     have n6_ := Aside0.mk (KeepBut.trans (hk_ HK.out) (KeepBut.of_below hb g none) (.inl rfl))
     have n7_ := Aside0.mk (below_step (hi_ HB.out) hb)
     clear HO_572002; clear HO588
     clear BK570; clear BK571
     clear HI0; clear HK
     clear HB
     have HO_572002 := n0_
     have HO588 := n1_
     have HO604 := n2_
     have BK570 := n3_
     have BK571 := n4_
     have HI0 := n5_
     have HK := n6_
     have HB := n7_
     clear n0_ n1_ n2_ n3_ n4_ n5_ n6_ n7_
     (try clear hb)
     (try clear hb2)
     (try clear hk)
     (try clear hi)
     (try clear ho0)
     obtain ⟨Ao36, co36, eo36⟩ := Kd.R_slice HO604.out
     (first | subst eo36 | (injection eo36 with f1_ f2_ f3_; have f4_ := f1_.symm; have f5_ := f3_.symm; clear f1_ f2_ f3_; subst f4_; subst f5_))
     refine hK.out _ _ ⟨bc_ BK571 0, bc_ BK571 1, bc_ BK571 2⟩ (fun hHeld => ?_)
     clear hK K
     refine nm_ ?_
     refine last_ (i := 7) (N := none) #[true, true, true, true, true, true, true, true] rfl rfl (one_of HT_.out (by kernel_rfl)) (by decide) (fun K hK => ?_)
     have hs34 : w33.cell? ⟨gb571, 0, none⟩ = some (.int .i64 t584) := bc_ BK571 0
     have hfs34 := blk_frozen BK571.out 0
     have hns34_0 := NB570_571.out
     have hms34_0 := NB571_570.out
     have hs35 : w33.cell? ⟨gb571, 1, none⟩ = some (.int .i64 t585) := bc_ BK571 1
     have hfs35 := blk_frozen BK571.out 1
     have hns35_0 := NB570_571.out
     have hms35_0 := NB571_570.out
     have hs37 : w33.cell? ⟨gb571, 2, none⟩ = some (.slice Ao27 t586.length co27) := bc_ BK571 2
     have hfs37 := blk_frozen BK571.out 2
     have hns37_0 := NB570_571.out
     have hms37_0 := NB571_570.out
     refine skip_ (w1 := ?_) (by rfl) rfl ?_ ?_
     rotate_left; (focus go_simp; rfl)
     refine hK.out _ _ ?_
     clear hK K
     refine done_ (done_of HT_.out (by kernel_rfl)) ?_
     try go_wp2
     go_roundg k1
     case measure => have := HK1.out; omega
     case rel => exact ⟨(wrap64 (x5_1 + 1)), (t598), (t599), (t600), (t601), (t602), (.slice Ao36 t602.length co36), (qe14_), H', ⟨by have := HK1.out; omega⟩, ⟨by (with_reducible repeat (first | apply Kd.R_alloc | apply Kd.R_drewN | apply Kd.R_drew)); exact Kd.R_mono (Kd.R_far (p := ⟨gb571, 2, none⟩) (Kd.R_far (p := ⟨gb571, 1, none⟩) (Kd.R_far (p := ⟨gb571, 0, none⟩) (Kd.R_types HO604.out BK571.out (by decide)) (fun _ hk => hk.2) (.int .i64 t600)) (fun _ hk => hk.2) (.int .i64 t601)) (fun _ hk => hk.2) (.slice Ao36 t602.length co36)) (fun _ hk => trivial)⟩, ⟨bf_ NB570_571.out BK570.out⟩, ⟨bp_ BK571.out⟩, ⟨is_l1Cur_ HI0.out⟩, ⟨qe3_⟩, ⟨qe2_⟩⟩
    ·
     rw [if_neg c15] at H
     have c15b0 : (t591 == 0) = false := beq_eq_false_iff_ne.mpr c15
     have c15b1 : (t591 != 0) = true := bne_iff_ne.mpr c15
     by_cases c38 : t591 = 1
     ·
      rw [if_pos c38] at H
      have c38b0 : (t591 == 1) = true := beq_iff_eq.mpr c38
      have c38b1 : (t591 != 1) = false := bne_eq_false_iff_eq.mpr c38
      clear c38
      replace H := Option.bind_eq_some_iff.mp H
      obtain ⟨⟨t605, t606, t607⟩, A390, H⟩ := H
      replace H : ((spec_RowPack.f k1 t584 t585 t586 (wrap64 (1 + t605))).bind fun bt608 => (spec_l3DrawRight.l0 k1 t572 (wrap64 (x5_1 + 1)) s0_0 t606 t607 bt608.1 bt608.2.1 bt608.2.2)) = some (r1, r2, r3, r4, r5) := H
      have A39 := Aside0.mk A390
      clear A390
      replace H := Option.bind_eq_some_iff.mp H
      obtain ⟨⟨t608, t609, t610⟩, A400, H⟩ := H
      replace H : (spec_l3DrawRight.l0 k1 t572 (wrap64 (x5_1 + 1)) s0_0 t606 t607 t608 t609 t610) = some (r1, r2, r3, r4, r5) := H
      have A40 := Aside0.mk A400
      clear A400
      have H' := Aside0.mk H
      clear H
      try go_wp2
      have n0_ := Aside0.mk (Kd.R_drew HO_572002.out)
      have n1_ := Aside0.mk (blk_drew BK570.out)
      have n2_ := Aside0.mk (blk_drew BK571.out)
      have n3_ := Aside0.mk (IsS_l1Cur.drew HI0.out)
      have n4_ := Aside0.mk (keep_drew HK.out)
      have n5_ := Aside0.mk (below_drew1 HB.out)
      clear HO_572002; clear BK570
      clear BK571; clear HI0
      clear HK; clear HB
      have HO_572002 := n0_
      have BK570 := n1_
      have BK571 := n2_
      have HI0 := n3_
      have HK := n4_
      have HB := n5_
      clear n0_ n1_ n2_ n3_ n4_ n5_
      refine start_ (n := 14) (S := fun w' => w'.cell? ⟨gb571, 0, none⟩ = some (.int .i64 x572000_1) ∧ w'.cell? ⟨gb571, 1, none⟩ = some (.int .i64 x572001_1) ∧ w'.cell? ⟨gb571, 2, none⟩ = some (u572002)) (ds := [13]) spec_l3DrawRight.m0 (by kernel_rfl) rfl rfl ⟨bc_ BK571 0, bc_ BK571 1, bc_ BK571 2⟩ (fun hHeld => ?_); refine with_tabW spec_l3DrawRight.tab6 spec_l3DrawRight.bits6 (fun HT_ HW_ => ?_)
      generalize wr.drew = w41 at HO_572002 BK570 BK571 HI0 HK HB hHeld ⊢
      refine pI_ 1 16 HT_ spec_l3DrawRight.m1 rfl rfl ?_
      refine pI_ 3 18 HT_ spec_l3DrawRight.m2 rfl rfl ?_
      refine pI_ 5 20 HT_ spec_l3DrawRight.m3 rfl rfl ?_
      refine pI_ 7 22 HT_ spec_l3DrawRight.m4 rfl rfl ?_
      refine tk_ 0 15 HT_ HW_ spec_l3DrawRight.m5 rfl rfl hHeld ?_
      refine on_ 2 17 HT_ spec_l3DrawRight.m6 rfl rfl (fun K hK => ?_)
      refine goes_ Try.func84 (by kernel_rfl) rfl #[.pointer (some ⟨g, 0, none⟩)] (by rfl) rfl rfl sm_ ?_
      with_reducible refine (spec_l2DrawText.calls g s0_0 x1001_1 x1002_1 t575 t576 t577 w0 _ ?side1 ?side2 A10.out).mono ?_
      (case side1 => repeat (first | (with_reducible first | exact HI0.out | apply IsS_l1Cur.alloc | apply IsS_l1Cur.drewN | apply IsS_l1Cur.drew | apply IsS_l1Cur.set_1 | apply IsS_l1Cur.set_2 | refine IsS_l1Cur.far ?_ NB0_570.out _ | refine IsS_l1Cur.far ?_ NB0_571.out _) | exact HI0.out))
      (case side2 => repeat (first | (with_reducible first | exact HB.out | apply below_alloc | apply pw_below_drewN | apply below_drew1 | refine below_set ?_ (IsS_l1Cur.ge HI0.out) | refine below_set ?_ GE570.out | refine below_set ?_ GE571.out) | exact HB.out))
      rintro e w42 ⟨rfl, hi, hb, hk⟩
      refine ⟨_, rfl, ?_⟩
      have n0_ := Aside0.mk (Kd.R_mono (Kd.R_keep (IsS_l1Cur.apart (show IsS_l1Cur w0 _ g s0_0 x1001_1 x1002_1 from is_l1Cur_ HI0.out) (rq_ HO_572002.out) (by decide)) hk (fun _ h => h.2)) (fun _ h => h.1))
      have n1_ := Aside0.mk (KeepBut.blk hk (g' := gb570) (o := .cells #[.int .i64 0, .int .i64 0, .slice none 0 0] 48 (0, 0)) (bq_ BK570.out) NB570_0.out (by simp))
      have n2_ := Aside0.mk (KeepBut.blk hk (g' := gb571) (o := .cells #[.int .i64 x572000_1, .int .i64 x572001_1, u572002] 48 (0, 0)) (bq_ BK571.out) NB571_0.out (by simp))
      have n3_ := Aside0.mk (KeepBut.trans (hk_ HK.out) hk (.inl rfl))
      have n4_ := Aside0.mk (hb)
      have n5_ := Aside0.mk (hi)
      clear HO_572002; clear BK570
      clear BK571; clear HK
      clear HB; clear HI0
      have HO_572002 := n0_
      have BK570 := n1_
      have BK571 := n2_
      have HK := n3_
      have HB := n4_
      have HI0 := n5_
      clear n0_ n1_ n2_ n3_ n4_ n5_
      (try clear hb)
      (try clear hb2)
      (try clear hk)
      (try clear hi)
      refine hK.out _ _ ⟨bc_ BK571 0, bc_ BK571 1, bc_ BK571 2⟩ (fun hHeld => ?_)
      clear hK K
      refine nm_ ?_
      refine on_ 4 19 HT_ spec_l3DrawRight.m7 rfl rfl (fun K hK => ?_)
      refine goes_ Try.func84 (by kernel_rfl) rfl #[.pointer (some ⟨g, 0, none⟩)] (by rfl) rfl rfl sm_ ?_
      with_reducible refine (spec_l2DrawText.calls g s0_0 t576 t577 t578 t579 t580 w0 _ ?side1 ?side2 A11.out).mono ?_
      (case side1 => repeat (first | (with_reducible first | exact HI0.out | apply IsS_l1Cur.alloc | apply IsS_l1Cur.drewN | apply IsS_l1Cur.drew | apply IsS_l1Cur.set_1 | apply IsS_l1Cur.set_2 | refine IsS_l1Cur.far ?_ NB0_570.out _ | refine IsS_l1Cur.far ?_ NB0_571.out _) | exact HI0.out))
      (case side2 => repeat (first | (with_reducible first | exact HB.out | apply below_alloc | apply pw_below_drewN | apply below_drew1 | refine below_set ?_ (IsS_l1Cur.ge HI0.out) | refine below_set ?_ GE570.out | refine below_set ?_ GE571.out) | exact HB.out))
      rintro e w43 ⟨rfl, hi, hb, hk⟩
      refine ⟨_, rfl, ?_⟩
      have n0_ := Aside0.mk (Kd.R_mono (Kd.R_keep (IsS_l1Cur.apart (show IsS_l1Cur w0 _ g s0_0 t576 t577 from is_l1Cur_ HI0.out) (rq_ HO_572002.out) (by decide)) hk (fun _ h => h.2)) (fun _ h => h.1))
      have n1_ := Aside0.mk (KeepBut.blk hk (g' := gb570) (o := .cells #[.int .i64 0, .int .i64 0, .slice none 0 0] 48 (0, 0)) (bq_ BK570.out) NB570_0.out (by simp))
      have n2_ := Aside0.mk (KeepBut.blk hk (g' := gb571) (o := .cells #[.int .i64 x572000_1, .int .i64 x572001_1, u572002] 48 (0, 0)) (bq_ BK571.out) NB571_0.out (by simp))
      have n3_ := Aside0.mk (KeepBut.trans (hk_ HK.out) hk (.inl rfl))
      have n4_ := Aside0.mk (hb)
      have n5_ := Aside0.mk (hi)
      clear HO_572002; clear BK570
      clear BK571; clear HK
      clear HB; clear HI0
      have HO_572002 := n0_
      have BK570 := n1_
      have BK571 := n2_
      have HK := n3_
      have HB := n4_
      have HI0 := n5_
      clear n0_ n1_ n2_ n3_ n4_ n5_
      (try clear hb)
      (try clear hb2)
      (try clear hk)
      (try clear hi)
      refine hK.out _ _ ⟨bc_ BK571 0, bc_ BK571 1, bc_ BK571 2⟩ (fun hHeld => ?_)
      clear hK K
      refine nm_ ?_
      refine on_ 6 21 HT_ spec_l3DrawRight.m8 rfl rfl (fun K hK => ?_)
      refine goes_ Try.func79 (by kernel_rfl) rfl #[.pointer (some ⟨g, 0, none⟩), .int .i64 4] (by rfl) rfl rfl sm_ ?_
      with_reducible refine (spec_l1Below.calls g s0_0 t579 t580 4 t581 t582 t583 w0 _ ?side1 ?side2 A12.out).mono ?_
      (case side1 => repeat (first | (with_reducible first | exact HI0.out | apply IsS_l1Cur.alloc | apply IsS_l1Cur.drewN | apply IsS_l1Cur.drew | apply IsS_l1Cur.set_1 | apply IsS_l1Cur.set_2 | refine IsS_l1Cur.far ?_ NB0_570.out _ | refine IsS_l1Cur.far ?_ NB0_571.out _) | exact HI0.out))
      (case side2 => repeat (first | (with_reducible first | exact HB.out | apply below_alloc | apply pw_below_drewN | apply below_drew1 | refine below_set ?_ (IsS_l1Cur.ge HI0.out) | refine below_set ?_ GE570.out | refine below_set ?_ GE571.out) | exact HB.out))
      rintro e w44 ⟨rfl, hi, hb, hk⟩
      refine ⟨_, rfl, ?_⟩
      have n0_ := Aside0.mk (Kd.R_mono (Kd.R_keep (IsS_l1Cur.apart (show IsS_l1Cur w0 _ g s0_0 t579 t580 from is_l1Cur_ HI0.out) (rq_ HO_572002.out) (by decide)) hk (fun _ h => h.2)) (fun _ h => h.1))
      have n1_ := Aside0.mk (KeepBut.blk hk (g' := gb570) (o := .cells #[.int .i64 0, .int .i64 0, .slice none 0 0] 48 (0, 0)) (bq_ BK570.out) NB570_0.out (by simp))
      have n2_ := Aside0.mk (KeepBut.blk hk (g' := gb571) (o := .cells #[.int .i64 x572000_1, .int .i64 x572001_1, u572002] 48 (0, 0)) (bq_ BK571.out) NB571_0.out (by simp))
      have n3_ := Aside0.mk (KeepBut.trans (hk_ HK.out) hk (.inl rfl))
      have n4_ := Aside0.mk (hb)
      have n5_ := Aside0.mk (hi)
      clear HO_572002; clear BK570
      clear BK571; clear HK
      clear HB; clear HI0
      have HO_572002 := n0_
      have BK570 := n1_
      have BK571 := n2_
      have HK := n3_
      have HB := n4_
      have HI0 := n5_
      clear n0_ n1_ n2_ n3_ n4_ n5_
      (try clear hb)
      (try clear hb2)
      (try clear hk)
      (try clear hi)
      obtain ⟨Ao45, co45, eo45⟩ := Kd.R_slice HO_572002.out
      (first | subst eo45 | (injection eo45 with f1_ f2_ f3_; have f4_ := f1_.symm; have f5_ := f3_.symm; clear f1_ f2_ f3_; subst f4_; subst f5_))
      refine hK.out _ _ ⟨bc_ BK571 0, bc_ BK571 1, bc_ BK571 2⟩ (fun hHeld => ?_)
      clear hK K
      refine nm_ ?_
      refine on_ 8 23 HT_ spec_l3DrawRight.m9 rfl rfl (fun K hK => ?_)
      refine goes_ Try.func81 (by kernel_rfl) rfl #[.agg #[.int .i64 x572000_1, .int .i64 x572001_1, .slice Ao45 x572002_1.length co45], .string t575, .string t578, .int .i64 t581, .int .i64 x5_1] (by rfl) rfl rfl sm_ ?_
      with_reducible refine (spec_RowPut.calls k1 x572000_1 x572001_1 _ _ x572002_1 t575 t578 t581 x5_1 t584 t585 t586 t589 t590 _ ?side1 ?side2 A13.out).mono ?_
      (case side1 => repeat (first | exact (Kd.R_reads' HO_572002.out).2.2 | (with_reducible refine Kd.C_alloc ?_ _) | (with_reducible refine Kd.C_drewN ?_ _) | (with_reducible refine Kd.C_drew ?_)))
      (case side2 => exact (Kd.R_reads' HO_572002.out).2.1)
      rintro e w46 ⟨v587, rfl, ho0, hb⟩
      refine ⟨_, rfl, ?_⟩
      have n0_ := Aside0.mk (Kd.R_elder' (rq_ HO_572002.out) (Kd.R_base ho0) hb)
      have n1_ := Aside0.mk (Kd.R_lower (Kd.R_new' ho0 (Kd.R_lt (rq_ HO_572002.out))) (keep_size (w := w) (g := g) (row := none) (hk_ HK.out)))
      have n2_ := Aside0.mk (bb_ BK570.out hb)
      have n3_ := Aside0.mk (bb_ BK571.out hb)
      have n4_ := Aside0.mk (IsS_l1Cur.below (is_l1Cur_ HI0.out) hb)
      have n5_ := Aside0.mk (KeepBut.trans (hk_ HK.out) (KeepBut.of_below hb g none) (.inl rfl))
      have n6_ := Aside0.mk (below_step (hi_ HB.out) hb)
      clear HO_572002; clear BK570
      clear BK571; clear HI0
      clear HK; clear HB
      have HO_572002 := n0_
      have HO588 := n1_
      have BK570 := n2_
      have BK571 := n3_
      have HI0 := n4_
      have HK := n5_
      have HB := n6_
      clear n0_ n1_ n2_ n3_ n4_ n5_ n6_
      (try clear hb)
      (try clear hb2)
      (try clear hk)
      (try clear hi)
      (try clear ho0)
      obtain ⟨Ao49, co49, eo49⟩ := Kd.R_slice HO588.out
      (first | subst eo49 | (injection eo49 with f1_ f2_ f3_; have f4_ := f1_.symm; have f5_ := f3_.symm; clear f1_ f2_ f3_; subst f4_; subst f5_))
      refine hK.out _ _ ⟨bc_ BK571 0, bc_ BK571 1, bc_ BK571 2⟩ (fun hHeld => ?_)
      clear hK K
      refine nm_ ?_
      refine pI_ 9 14 HT_ spec_l3DrawRight.m10 rfl rfl ?_
      refine pI_ 10 24 HT_ spec_l3DrawRight.m11 rfl rfl ?_
      refine pI_ 11 25 HT_ spec_l3DrawRight.m12 rfl rfl ?_
      refine pI_ 12 26 HT_ spec_l3DrawRight.m13 rfl rfl ?_
      refine last_ (i := 13) (N := none) spec_l3DrawRight.m14 rfl rfl (one_of HT_.out (by kernel_rfl)) (by decide) (fun K hK => ?_)
      have hs47 : w46.cell? ⟨gb571, 0, none⟩ = some (.int .i64 x572000_1) := bc_ BK571 0
      have hfs47 := blk_frozen BK571.out 0
      have hns47_0 := NB570_571.out
      have hms47_0 := NB571_570.out
      have hs48 : w46.cell? ⟨gb571, 1, none⟩ = some (.int .i64 x572001_1) := bc_ BK571 1
      have hfs48 := blk_frozen BK571.out 1
      have hns48_0 := NB570_571.out
      have hms48_0 := NB571_570.out
      have hs50 : w46.cell? ⟨gb571, 2, none⟩ = some (.slice Ao45 x572002_1.length co45) := bc_ BK571 2
      have hfs50 := blk_frozen BK571.out 2
      have hns50_0 := NB570_571.out
      have hms50_0 := NB571_570.out
      refine skip_ (w1 := ?_) (by rfl) rfl ?_ ?_
      rotate_left; (focus go_simp; rfl)
      refine hK.out _ _ ?_
      clear hK K
      refine done_ (done_of HT_.out (by kernel_rfl)) ?_
      try go_wp2_with (first | ((with_reducible refine gate_callee (f := 79) rfl ?_); refine goesL_ (some 28) rfl rfl Try.func79 (by kernel_rfl) rfl #[.pointer (some ⟨g, 0, none⟩), .int .i64 12] rfl sm_ ?_; (with_reducible refine (spec_l1Below.calls g s0_0 t582 t583 12 t591 t592 t593 w0 _ ?side1 ?side2 A14.out).mono ?_); (case side1 => repeat (first | (with_reducible first | exact HI0.out | apply IsS_l1Cur.alloc | apply IsS_l1Cur.drewN | apply IsS_l1Cur.drew | apply IsS_l1Cur.set_1 | apply IsS_l1Cur.set_2 | refine IsS_l1Cur.far ?_ NB0_570.out _ | refine IsS_l1Cur.far ?_ NB0_571.out _) | exact HI0.out)); (case side2 => repeat (first | (with_reducible first | exact HB.out | apply below_alloc | apply pw_below_drewN | apply below_drew1 | refine below_set ?_ (IsS_l1Cur.ge HI0.out) | refine below_set ?_ GE570.out | refine below_set ?_ GE571.out) | exact HB.out)); rintro e w51 ⟨rfl, hi, hb, hk⟩; refine ⟨_, rfl, ?_⟩; have n0_ := Aside0.mk (Kd.R_mono (Kd.R_keep (IsS_l1Cur.apart (show IsS_l1Cur w0 _ g s0_0 t582 t583 from is_l1Cur_ HI0.out) (rk_ HO_572002.out BK571.out) (by decide)) hk (fun _ h => h.2)) (fun _ h => h.1)); have n1_ := Aside0.mk (KeepBut.blk hk (g' := gb570) (o := .cells #[.int .i64 0, .int .i64 0, .slice none 0 0] 48 (0, 0)) (bf_ NB570_571.out BK570.out) NB570_0.out (by simp)); have n2_ := Aside0.mk (KeepBut.blk hk (g' := gb571) (o := .cells #[.int .i64 t584, .int .i64 t585, .slice Ao49 t586.length co49] 48 (0, 0)) (bp_ BK571.out) NB571_0.out (by simp)); have n3_ := Aside0.mk (Kd.R_mono (Kd.R_keep (IsS_l1Cur.apart (show IsS_l1Cur w0 _ g s0_0 t582 t583 from is_l1Cur_ HI0.out) (rk_ HO588.out BK571.out) (by decide)) hk (fun _ h => h.2)) (fun _ h => h.1)); have n4_ := Aside0.mk (KeepBut.trans (hk_ HK.out) hk (.inl rfl)); have n5_ := Aside0.mk (hb); have n6_ := Aside0.mk (hi); clear HO_572002; clear BK570; clear BK571; clear HO588; clear HK; clear HB; clear HI0; have HO_572002 := n0_; have BK570 := n1_; have BK571 := n2_; have HO588 := n3_; have HK := n4_; have HB := n5_; have HI0 := n6_; clear n0_ n1_ n2_ n3_ n4_ n5_ n6_; (try clear hb); (try clear hb2); (try clear hk); (try clear hi)))
      have n0_ := Aside0.mk (Kd.R_drew HO_572002.out)
      have n1_ := Aside0.mk (Kd.R_drew HO588.out)
      have n2_ := Aside0.mk (blk_drew BK570.out)
      have n3_ := Aside0.mk (blk_drew BK571.out)
      have n4_ := Aside0.mk (IsS_l1Cur.drew HI0.out)
      have n5_ := Aside0.mk (keep_drew HK.out)
      have n6_ := Aside0.mk (below_drew1 HB.out)
      clear HO_572002; clear HO588
      clear BK570; clear BK571
      clear HI0; clear HK
      clear HB
      have HO_572002 := n0_
      have HO588 := n1_
      have BK570 := n2_
      have BK571 := n3_
      have HI0 := n4_
      have HK := n5_
      have HB := n6_
      clear n0_ n1_ n2_ n3_ n4_ n5_ n6_
      refine start_ (n := 6) (S := fun w' => w'.cell? ⟨gb571, 0, none⟩ = some (.int .i64 t584) ∧ w'.cell? ⟨gb571, 1, none⟩ = some (.int .i64 t585) ∧ w'.cell? ⟨gb571, 2, none⟩ = some (.slice Ao49 t586.length co49)) (ds := [5]) #[false, false, false, false, false, false] (by kernel_rfl) rfl rfl ⟨bc_ BK571 0, bc_ BK571 1, bc_ BK571 2⟩ (fun hHeld => ?_)
      generalize w51.drew = w52 at HO_572002 HO588 BK570 BK571 HI0 HK HB hHeld ⊢
      refine pure_ (i := 1) (N := some 41) (v := ?_) (a' := ?_) #[false, true, false, false, false, false] rfl rfl (by kernel_rfl) (fun _ _ _ h => h) (Or.inl ⟨by rfl, ?_⟩) ?_ ?_; rotate_left; (focus intro w'; go_simp; with_reducible rfl); rotate_left; (focus simp only [Act.put, List.setIfInBounds_toArray, List.set_cons_zero, List.set_cons_succ, i64_w, i32_w]; rfl)
      refine take_ (i := 0) (N := some 40) (v := ?_) (a' := ?_) #[true, true, false, false, false, false] rfl rfl (by kernel_rfl) (fun _ _ _ h => h) (Or.inl ⟨by rfl, ?_⟩) hHeld ?_ ?_
      rotate_left
      ·
       rintro w' ⟨s0, s1, s2⟩
       go_simp
       with_reducible rfl
      rotate_left; (focus simp only [Act.put, List.setIfInBounds_toArray, List.set_cons_zero, List.set_cons_succ, i64_w, i32_w]; rfl)
      refine one_ (i := 2) (N := some 42) #[true, true, true, false, false, false] rfl rfl (by kernel_rfl) (by decide) (fun K hK => ?_)
      refine goes_ Try.func79 (by kernel_rfl) rfl #[.pointer (some ⟨g, 0, none⟩), .int .i64 3] (by rfl) rfl rfl sm_ ?_
      with_reducible refine (spec_l1Below.calls g s0_0 t592 t593 3 t605 t606 t607 w0 _ ?side1 ?side2 A39.out).mono ?_
      (case side1 => repeat (first | (with_reducible first | exact HI0.out | apply IsS_l1Cur.alloc | apply IsS_l1Cur.drewN | apply IsS_l1Cur.drew | apply IsS_l1Cur.set_1 | apply IsS_l1Cur.set_2 | refine IsS_l1Cur.far ?_ NB0_570.out _ | refine IsS_l1Cur.far ?_ NB0_571.out _) | exact HI0.out))
      (case side2 => repeat (first | (with_reducible first | exact HB.out | apply below_alloc | apply pw_below_drewN | apply below_drew1 | refine below_set ?_ (IsS_l1Cur.ge HI0.out) | refine below_set ?_ GE570.out | refine below_set ?_ GE571.out) | exact HB.out))
      rintro e w53 ⟨rfl, hi, hb, hk⟩
      refine ⟨_, rfl, ?_⟩
      have n0_ := Aside0.mk (Kd.R_mono (Kd.R_keep (IsS_l1Cur.apart (show IsS_l1Cur w0 _ g s0_0 t592 t593 from is_l1Cur_ HI0.out) (rq_ HO_572002.out) (by decide)) hk (fun _ h => h.2)) (fun _ h => h.1))
      have n1_ := Aside0.mk (KeepBut.blk hk (g' := gb570) (o := .cells #[.int .i64 0, .int .i64 0, .slice none 0 0] 48 (0, 0)) (bq_ BK570.out) NB570_0.out (by simp))
      have n2_ := Aside0.mk (KeepBut.blk hk (g' := gb571) (o := .cells #[.int .i64 t584, .int .i64 t585, .slice Ao49 t586.length co49] 48 (0, 0)) (bq_ BK571.out) NB571_0.out (by simp))
      have n3_ := Aside0.mk (Kd.R_mono (Kd.R_keep (IsS_l1Cur.apart (show IsS_l1Cur w0 _ g s0_0 t592 t593 from is_l1Cur_ HI0.out) (rq_ HO588.out) (by decide)) hk (fun _ h => h.2)) (fun _ h => h.1))
      have n4_ := Aside0.mk (KeepBut.trans (hk_ HK.out) hk (.inl rfl))
      have n5_ := Aside0.mk (hb)
      have n6_ := Aside0.mk (hi)
      clear HO_572002; clear BK570
      clear BK571; clear HO588
      clear HK; clear HB
      clear HI0
      have HO_572002 := n0_
      have BK570 := n1_
      have BK571 := n2_
      have HO588 := n3_
      have HK := n4_
      have HB := n5_
      have HI0 := n6_
      clear n0_ n1_ n2_ n3_ n4_ n5_ n6_
      (try clear hb)
      (try clear hb2)
      (try clear hk)
      (try clear hi)
      refine hK.out _ _ ⟨bc_ BK571 0, bc_ BK571 1, bc_ BK571 2⟩ (fun hHeld => ?_)
      clear hK K
      refine nm_ ?_
      refine pure_ (i := 3) (N := some 43) (v := ?_) (a' := ?_) #[true, true, true, true, false, false] rfl rfl (by kernel_rfl) (fun _ _ _ h => h) (Or.inl ⟨by rfl, ?_⟩) ?_ ?_; rotate_left; (focus intro w'; go_simp; with_reducible rfl); rotate_left; (focus simp only [Act.put, List.setIfInBounds_toArray, List.set_cons_zero, List.set_cons_succ, i64_w, i32_w]; rfl)
      refine one_ (i := 4) (N := some 44) #[true, true, true, true, true, false] rfl rfl (by kernel_rfl) (by decide) (fun K hK => ?_)
      refine goes_ Try.func51 (by kernel_rfl) rfl #[.agg #[.int .i64 t584, .int .i64 t585, .slice Ao49 t586.length co49], .int .i64 (wrap64 (1 + t605))] (by rfl) rfl rfl sm_ ?_
      with_reducible refine (spec_RowPack.calls k1 t584 t585 _ _ t586 (wrap64 (1 + t605)) t608 t609 t610 _ ?side1 ?side2 A40.out).mono ?_
      (case side1 => repeat (first | exact (Kd.R_reads' HO588.out).2.2 | (with_reducible refine Kd.C_alloc ?_ _) | (with_reducible refine Kd.C_drewN ?_ _) | (with_reducible refine Kd.C_drew ?_)))
      (case side2 => exact (Kd.R_reads' HO588.out).2.1)
      rintro e w54 ⟨v611, rfl, ho0, hb⟩
      refine ⟨_, rfl, ?_⟩
      have n0_ := Aside0.mk (Kd.R_elder' (rq_ HO_572002.out) (Kd.R_base ho0) hb)
      have n1_ := Aside0.mk (Kd.R_elder' (rq_ HO588.out) (Kd.R_base ho0) hb)
      have n2_ := Aside0.mk (Kd.R_lower (Kd.R_new' (Kd.R_new' ho0 (Kd.R_lt (rq_ HO_572002.out))) (Kd.R_lt (rq_ HO588.out))) (keep_size (w := w) (g := g) (row := none) (hk_ HK.out)))
      have n3_ := Aside0.mk (bb_ BK570.out hb)
      have n4_ := Aside0.mk (bb_ BK571.out hb)
      have n5_ := Aside0.mk (IsS_l1Cur.below (is_l1Cur_ HI0.out) hb)
      have n6_ := Aside0.mk (KeepBut.trans (hk_ HK.out) (KeepBut.of_below hb g none) (.inl rfl))
      have n7_ := Aside0.mk (below_step (hi_ HB.out) hb)
      clear HO_572002; clear HO588
      clear BK570; clear BK571
      clear HI0; clear HK
      clear HB
      have HO_572002 := n0_
      have HO588 := n1_
      have HO612 := n2_
      have BK570 := n3_
      have BK571 := n4_
      have HI0 := n5_
      have HK := n6_
      have HB := n7_
      clear n0_ n1_ n2_ n3_ n4_ n5_ n6_ n7_
      (try clear hb)
      (try clear hb2)
      (try clear hk)
      (try clear hi)
      (try clear ho0)
      obtain ⟨Ao57, co57, eo57⟩ := Kd.R_slice HO612.out
      (first | subst eo57 | (injection eo57 with f1_ f2_ f3_; have f4_ := f1_.symm; have f5_ := f3_.symm; clear f1_ f2_ f3_; subst f4_; subst f5_))
      refine hK.out _ _ ⟨bc_ BK571 0, bc_ BK571 1, bc_ BK571 2⟩ (fun hHeld => ?_)
      clear hK K
      refine nm_ ?_
      refine last_ (i := 5) (N := none) #[true, true, true, true, true, true] rfl rfl (by kernel_rfl) (by decide) (fun K hK => ?_)
      have hs55 : w54.cell? ⟨gb571, 0, none⟩ = some (.int .i64 t584) := bc_ BK571 0
      have hfs55 := blk_frozen BK571.out 0
      have hns55_0 := NB570_571.out
      have hms55_0 := NB571_570.out
      have hs56 : w54.cell? ⟨gb571, 1, none⟩ = some (.int .i64 t585) := bc_ BK571 1
      have hfs56 := blk_frozen BK571.out 1
      have hns56_0 := NB570_571.out
      have hms56_0 := NB571_570.out
      have hs58 : w54.cell? ⟨gb571, 2, none⟩ = some (.slice Ao49 t586.length co49) := bc_ BK571 2
      have hfs58 := blk_frozen BK571.out 2
      have hns58_0 := NB570_571.out
      have hms58_0 := NB571_570.out
      refine skip_ (w1 := ?_) (by rfl) rfl ?_ ?_
      rotate_left; (focus go_simp; rfl)
      refine hK.out _ _ ?_
      clear hK K
      refine done_ (by kernel_rfl) ?_
      try go_wp2
      go_roundg k1
      case measure => have := HK1.out; omega
      case rel => exact ⟨(wrap64 (x5_1 + 1)), (t606), (t607), (t608), (t609), (t610), (.slice Ao57 t610.length co57), (qe14_), H', ⟨by have := HK1.out; omega⟩, ⟨by (with_reducible repeat (first | apply Kd.R_alloc | apply Kd.R_drewN | apply Kd.R_drew)); exact Kd.R_mono (Kd.R_far (p := ⟨gb571, 2, none⟩) (Kd.R_far (p := ⟨gb571, 1, none⟩) (Kd.R_far (p := ⟨gb571, 0, none⟩) (Kd.R_types HO612.out BK571.out (by decide)) (fun _ hk => hk.2) (.int .i64 t608)) (fun _ hk => hk.2) (.int .i64 t609)) (fun _ hk => hk.2) (.slice Ao57 t610.length co57)) (fun _ hk => trivial)⟩, ⟨bf_ NB570_571.out BK570.out⟩, ⟨bp_ BK571.out⟩, ⟨is_l1Cur_ HI0.out⟩, ⟨qe3_⟩, ⟨qe2_⟩⟩
     ·
      rw [if_neg c38] at H
      have c38b0 : (t591 == 1) = false := beq_eq_false_iff_ne.mpr c38
      have c38b1 : (t591 != 1) = true := bne_iff_ne.mpr c38
      have H' := Aside0.mk H
      clear H
      try go_wp2
      have n0_ := Aside0.mk (Kd.R_drew HO_572002.out)
      have n1_ := Aside0.mk (blk_drew BK570.out)
      have n2_ := Aside0.mk (blk_drew BK571.out)
      have n3_ := Aside0.mk (IsS_l1Cur.drew HI0.out)
      have n4_ := Aside0.mk (keep_drew HK.out)
      have n5_ := Aside0.mk (below_drew1 HB.out)
      clear HO_572002; clear BK570
      clear BK571; clear HI0
      clear HK; clear HB
      have HO_572002 := n0_
      have BK570 := n1_
      have BK571 := n2_
      have HI0 := n3_
      have HK := n4_
      have HB := n5_
      clear n0_ n1_ n2_ n3_ n4_ n5_
      refine start_ (n := 14) (S := fun w' => w'.cell? ⟨gb571, 0, none⟩ = some (.int .i64 x572000_1) ∧ w'.cell? ⟨gb571, 1, none⟩ = some (.int .i64 x572001_1) ∧ w'.cell? ⟨gb571, 2, none⟩ = some (u572002)) (ds := [13]) spec_l3DrawRight.m0 (by kernel_rfl) rfl rfl ⟨bc_ BK571 0, bc_ BK571 1, bc_ BK571 2⟩ (fun hHeld => ?_); refine with_tabW spec_l3DrawRight.tab6 spec_l3DrawRight.bits6 (fun HT_ HW_ => ?_)
      generalize wr.drew = w59 at HO_572002 BK570 BK571 HI0 HK HB hHeld ⊢
      refine pI_ 1 16 HT_ spec_l3DrawRight.m1 rfl rfl ?_
      refine pI_ 3 18 HT_ spec_l3DrawRight.m2 rfl rfl ?_
      refine pI_ 5 20 HT_ spec_l3DrawRight.m3 rfl rfl ?_
      refine pI_ 7 22 HT_ spec_l3DrawRight.m4 rfl rfl ?_
      refine tk_ 0 15 HT_ HW_ spec_l3DrawRight.m5 rfl rfl hHeld ?_
      refine on_ 2 17 HT_ spec_l3DrawRight.m6 rfl rfl (fun K hK => ?_)
      refine goes_ Try.func84 (by kernel_rfl) rfl #[.pointer (some ⟨g, 0, none⟩)] (by rfl) rfl rfl sm_ ?_
      with_reducible refine (spec_l2DrawText.calls g s0_0 x1001_1 x1002_1 t575 t576 t577 w0 _ ?side1 ?side2 A10.out).mono ?_
      (case side1 => repeat (first | (with_reducible first | exact HI0.out | apply IsS_l1Cur.alloc | apply IsS_l1Cur.drewN | apply IsS_l1Cur.drew | apply IsS_l1Cur.set_1 | apply IsS_l1Cur.set_2 | refine IsS_l1Cur.far ?_ NB0_570.out _ | refine IsS_l1Cur.far ?_ NB0_571.out _) | exact HI0.out))
      (case side2 => repeat (first | (with_reducible first | exact HB.out | apply below_alloc | apply pw_below_drewN | apply below_drew1 | refine below_set ?_ (IsS_l1Cur.ge HI0.out) | refine below_set ?_ GE570.out | refine below_set ?_ GE571.out) | exact HB.out))
      rintro e w60 ⟨rfl, hi, hb, hk⟩
      refine ⟨_, rfl, ?_⟩
      have n0_ := Aside0.mk (Kd.R_mono (Kd.R_keep (IsS_l1Cur.apart (show IsS_l1Cur w0 _ g s0_0 x1001_1 x1002_1 from is_l1Cur_ HI0.out) (rq_ HO_572002.out) (by decide)) hk (fun _ h => h.2)) (fun _ h => h.1))
      have n1_ := Aside0.mk (KeepBut.blk hk (g' := gb570) (o := .cells #[.int .i64 0, .int .i64 0, .slice none 0 0] 48 (0, 0)) (bq_ BK570.out) NB570_0.out (by simp))
      have n2_ := Aside0.mk (KeepBut.blk hk (g' := gb571) (o := .cells #[.int .i64 x572000_1, .int .i64 x572001_1, u572002] 48 (0, 0)) (bq_ BK571.out) NB571_0.out (by simp))
      have n3_ := Aside0.mk (KeepBut.trans (hk_ HK.out) hk (.inl rfl))
      have n4_ := Aside0.mk (hb)
      have n5_ := Aside0.mk (hi)
      clear HO_572002; clear BK570
      clear BK571; clear HK
      clear HB; clear HI0
      have HO_572002 := n0_
      have BK570 := n1_
      have BK571 := n2_
      have HK := n3_
      have HB := n4_
      have HI0 := n5_
      clear n0_ n1_ n2_ n3_ n4_ n5_
      (try clear hb)
      (try clear hb2)
      (try clear hk)
      (try clear hi)
      refine hK.out _ _ ⟨bc_ BK571 0, bc_ BK571 1, bc_ BK571 2⟩ (fun hHeld => ?_)
      clear hK K
      refine nm_ ?_
      refine on_ 4 19 HT_ spec_l3DrawRight.m7 rfl rfl (fun K hK => ?_)
      refine goes_ Try.func84 (by kernel_rfl) rfl #[.pointer (some ⟨g, 0, none⟩)] (by rfl) rfl rfl sm_ ?_
      with_reducible refine (spec_l2DrawText.calls g s0_0 t576 t577 t578 t579 t580 w0 _ ?side1 ?side2 A11.out).mono ?_
      (case side1 => repeat (first | (with_reducible first | exact HI0.out | apply IsS_l1Cur.alloc | apply IsS_l1Cur.drewN | apply IsS_l1Cur.drew | apply IsS_l1Cur.set_1 | apply IsS_l1Cur.set_2 | refine IsS_l1Cur.far ?_ NB0_570.out _ | refine IsS_l1Cur.far ?_ NB0_571.out _) | exact HI0.out))
      (case side2 => repeat (first | (with_reducible first | exact HB.out | apply below_alloc | apply pw_below_drewN | apply below_drew1 | refine below_set ?_ (IsS_l1Cur.ge HI0.out) | refine below_set ?_ GE570.out | refine below_set ?_ GE571.out) | exact HB.out))
      rintro e w61 ⟨rfl, hi, hb, hk⟩
      refine ⟨_, rfl, ?_⟩
      have n0_ := Aside0.mk (Kd.R_mono (Kd.R_keep (IsS_l1Cur.apart (show IsS_l1Cur w0 _ g s0_0 t576 t577 from is_l1Cur_ HI0.out) (rq_ HO_572002.out) (by decide)) hk (fun _ h => h.2)) (fun _ h => h.1))
      have n1_ := Aside0.mk (KeepBut.blk hk (g' := gb570) (o := .cells #[.int .i64 0, .int .i64 0, .slice none 0 0] 48 (0, 0)) (bq_ BK570.out) NB570_0.out (by simp))
      have n2_ := Aside0.mk (KeepBut.blk hk (g' := gb571) (o := .cells #[.int .i64 x572000_1, .int .i64 x572001_1, u572002] 48 (0, 0)) (bq_ BK571.out) NB571_0.out (by simp))
      have n3_ := Aside0.mk (KeepBut.trans (hk_ HK.out) hk (.inl rfl))
      have n4_ := Aside0.mk (hb)
      have n5_ := Aside0.mk (hi)
      clear HO_572002; clear BK570
      clear BK571; clear HK
      clear HB; clear HI0
      have HO_572002 := n0_
      have BK570 := n1_
      have BK571 := n2_
      have HK := n3_
      have HB := n4_
      have HI0 := n5_
      clear n0_ n1_ n2_ n3_ n4_ n5_
      (try clear hb)
      (try clear hb2)
      (try clear hk)
      (try clear hi)
      refine hK.out _ _ ⟨bc_ BK571 0, bc_ BK571 1, bc_ BK571 2⟩ (fun hHeld => ?_)
      clear hK K
      refine nm_ ?_
      refine on_ 6 21 HT_ spec_l3DrawRight.m8 rfl rfl (fun K hK => ?_)
      refine goes_ Try.func79 (by kernel_rfl) rfl #[.pointer (some ⟨g, 0, none⟩), .int .i64 4] (by rfl) rfl rfl sm_ ?_
      with_reducible refine (spec_l1Below.calls g s0_0 t579 t580 4 t581 t582 t583 w0 _ ?side1 ?side2 A12.out).mono ?_
      (case side1 => repeat (first | (with_reducible first | exact HI0.out | apply IsS_l1Cur.alloc | apply IsS_l1Cur.drewN | apply IsS_l1Cur.drew | apply IsS_l1Cur.set_1 | apply IsS_l1Cur.set_2 | refine IsS_l1Cur.far ?_ NB0_570.out _ | refine IsS_l1Cur.far ?_ NB0_571.out _) | exact HI0.out))
      (case side2 => repeat (first | (with_reducible first | exact HB.out | apply below_alloc | apply pw_below_drewN | apply below_drew1 | refine below_set ?_ (IsS_l1Cur.ge HI0.out) | refine below_set ?_ GE570.out | refine below_set ?_ GE571.out) | exact HB.out))
      rintro e w62 ⟨rfl, hi, hb, hk⟩
      refine ⟨_, rfl, ?_⟩
      have n0_ := Aside0.mk (Kd.R_mono (Kd.R_keep (IsS_l1Cur.apart (show IsS_l1Cur w0 _ g s0_0 t579 t580 from is_l1Cur_ HI0.out) (rq_ HO_572002.out) (by decide)) hk (fun _ h => h.2)) (fun _ h => h.1))
      have n1_ := Aside0.mk (KeepBut.blk hk (g' := gb570) (o := .cells #[.int .i64 0, .int .i64 0, .slice none 0 0] 48 (0, 0)) (bq_ BK570.out) NB570_0.out (by simp))
      have n2_ := Aside0.mk (KeepBut.blk hk (g' := gb571) (o := .cells #[.int .i64 x572000_1, .int .i64 x572001_1, u572002] 48 (0, 0)) (bq_ BK571.out) NB571_0.out (by simp))
      have n3_ := Aside0.mk (KeepBut.trans (hk_ HK.out) hk (.inl rfl))
      have n4_ := Aside0.mk (hb)
      have n5_ := Aside0.mk (hi)
      clear HO_572002; clear BK570
      clear BK571; clear HK
      clear HB; clear HI0
      have HO_572002 := n0_
      have BK570 := n1_
      have BK571 := n2_
      have HK := n3_
      have HB := n4_
      have HI0 := n5_
      clear n0_ n1_ n2_ n3_ n4_ n5_
      (try clear hb)
      (try clear hb2)
      (try clear hk)
      (try clear hi)
      obtain ⟨Ao63, co63, eo63⟩ := Kd.R_slice HO_572002.out
      (first | subst eo63 | (injection eo63 with f1_ f2_ f3_; have f4_ := f1_.symm; have f5_ := f3_.symm; clear f1_ f2_ f3_; subst f4_; subst f5_))
      refine hK.out _ _ ⟨bc_ BK571 0, bc_ BK571 1, bc_ BK571 2⟩ (fun hHeld => ?_)
      clear hK K
      refine nm_ ?_
      refine on_ 8 23 HT_ spec_l3DrawRight.m9 rfl rfl (fun K hK => ?_)
      refine goes_ Try.func81 (by kernel_rfl) rfl #[.agg #[.int .i64 x572000_1, .int .i64 x572001_1, .slice Ao63 x572002_1.length co63], .string t575, .string t578, .int .i64 t581, .int .i64 x5_1] (by rfl) rfl rfl sm_ ?_
      with_reducible refine (spec_RowPut.calls k1 x572000_1 x572001_1 _ _ x572002_1 t575 t578 t581 x5_1 t584 t585 t586 t589 t590 _ ?side1 ?side2 A13.out).mono ?_
      (case side1 => repeat (first | exact (Kd.R_reads' HO_572002.out).2.2 | (with_reducible refine Kd.C_alloc ?_ _) | (with_reducible refine Kd.C_drewN ?_ _) | (with_reducible refine Kd.C_drew ?_)))
      (case side2 => exact (Kd.R_reads' HO_572002.out).2.1)
      rintro e w64 ⟨v587, rfl, ho0, hb⟩
      refine ⟨_, rfl, ?_⟩
      have n0_ := Aside0.mk (Kd.R_elder' (rq_ HO_572002.out) (Kd.R_base ho0) hb)
      have n1_ := Aside0.mk (Kd.R_lower (Kd.R_new' ho0 (Kd.R_lt (rq_ HO_572002.out))) (keep_size (w := w) (g := g) (row := none) (hk_ HK.out)))
      have n2_ := Aside0.mk (bb_ BK570.out hb)
      have n3_ := Aside0.mk (bb_ BK571.out hb)
      have n4_ := Aside0.mk (IsS_l1Cur.below (is_l1Cur_ HI0.out) hb)
      have n5_ := Aside0.mk (KeepBut.trans (hk_ HK.out) (KeepBut.of_below hb g none) (.inl rfl))
      have n6_ := Aside0.mk (below_step (hi_ HB.out) hb)
      clear HO_572002; clear BK570
      clear BK571; clear HI0
      clear HK; clear HB
      have HO_572002 := n0_
      have HO588 := n1_
      have BK570 := n2_
      have BK571 := n3_
      have HI0 := n4_
      have HK := n5_
      have HB := n6_
      clear n0_ n1_ n2_ n3_ n4_ n5_ n6_
      (try clear hb)
      (try clear hb2)
      (try clear hk)
      (try clear hi)
      (try clear ho0)
      obtain ⟨Ao67, co67, eo67⟩ := Kd.R_slice HO588.out
      (first | subst eo67 | (injection eo67 with f1_ f2_ f3_; have f4_ := f1_.symm; have f5_ := f3_.symm; clear f1_ f2_ f3_; subst f4_; subst f5_))
      refine hK.out _ _ ⟨bc_ BK571 0, bc_ BK571 1, bc_ BK571 2⟩ (fun hHeld => ?_)
      clear hK K
      refine nm_ ?_
      refine pI_ 9 14 HT_ spec_l3DrawRight.m10 rfl rfl ?_
      refine pI_ 10 24 HT_ spec_l3DrawRight.m11 rfl rfl ?_
      refine pI_ 11 25 HT_ spec_l3DrawRight.m12 rfl rfl ?_
      refine pI_ 12 26 HT_ spec_l3DrawRight.m13 rfl rfl ?_
      refine last_ (i := 13) (N := none) spec_l3DrawRight.m14 rfl rfl (one_of HT_.out (by kernel_rfl)) (by decide) (fun K hK => ?_)
      have hs65 : w64.cell? ⟨gb571, 0, none⟩ = some (.int .i64 x572000_1) := bc_ BK571 0
      have hfs65 := blk_frozen BK571.out 0
      have hns65_0 := NB570_571.out
      have hms65_0 := NB571_570.out
      have hs66 : w64.cell? ⟨gb571, 1, none⟩ = some (.int .i64 x572001_1) := bc_ BK571 1
      have hfs66 := blk_frozen BK571.out 1
      have hns66_0 := NB570_571.out
      have hms66_0 := NB571_570.out
      have hs68 : w64.cell? ⟨gb571, 2, none⟩ = some (.slice Ao63 x572002_1.length co63) := bc_ BK571 2
      have hfs68 := blk_frozen BK571.out 2
      have hns68_0 := NB570_571.out
      have hms68_0 := NB571_570.out
      refine skip_ (w1 := ?_) (by rfl) rfl ?_ ?_
      rotate_left; (focus go_simp; rfl)
      refine hK.out _ _ ?_
      clear hK K
      refine done_ (done_of HT_.out (by kernel_rfl)) ?_
      try go_wp2_with (first | ((with_reducible refine gate_callee (f := 79) rfl ?_); refine goesL_ (some 28) rfl rfl Try.func79 (by kernel_rfl) rfl #[.pointer (some ⟨g, 0, none⟩), .int .i64 12] rfl sm_ ?_; (with_reducible refine (spec_l1Below.calls g s0_0 t582 t583 12 t591 t592 t593 w0 _ ?side1 ?side2 A14.out).mono ?_); (case side1 => repeat (first | (with_reducible first | exact HI0.out | apply IsS_l1Cur.alloc | apply IsS_l1Cur.drewN | apply IsS_l1Cur.drew | apply IsS_l1Cur.set_1 | apply IsS_l1Cur.set_2 | refine IsS_l1Cur.far ?_ NB0_570.out _ | refine IsS_l1Cur.far ?_ NB0_571.out _) | exact HI0.out)); (case side2 => repeat (first | (with_reducible first | exact HB.out | apply below_alloc | apply pw_below_drewN | apply below_drew1 | refine below_set ?_ (IsS_l1Cur.ge HI0.out) | refine below_set ?_ GE570.out | refine below_set ?_ GE571.out) | exact HB.out)); rintro e w69 ⟨rfl, hi, hb, hk⟩; refine ⟨_, rfl, ?_⟩; have n0_ := Aside0.mk (Kd.R_mono (Kd.R_keep (IsS_l1Cur.apart (show IsS_l1Cur w0 _ g s0_0 t582 t583 from is_l1Cur_ HI0.out) (rk_ HO_572002.out BK571.out) (by decide)) hk (fun _ h => h.2)) (fun _ h => h.1)); have n1_ := Aside0.mk (KeepBut.blk hk (g' := gb570) (o := .cells #[.int .i64 0, .int .i64 0, .slice none 0 0] 48 (0, 0)) (bf_ NB570_571.out BK570.out) NB570_0.out (by simp)); have n2_ := Aside0.mk (KeepBut.blk hk (g' := gb571) (o := .cells #[.int .i64 t584, .int .i64 t585, .slice Ao67 t586.length co67] 48 (0, 0)) (bp_ BK571.out) NB571_0.out (by simp)); have n3_ := Aside0.mk (Kd.R_mono (Kd.R_keep (IsS_l1Cur.apart (show IsS_l1Cur w0 _ g s0_0 t582 t583 from is_l1Cur_ HI0.out) (rk_ HO588.out BK571.out) (by decide)) hk (fun _ h => h.2)) (fun _ h => h.1)); have n4_ := Aside0.mk (KeepBut.trans (hk_ HK.out) hk (.inl rfl)); have n5_ := Aside0.mk (hb); have n6_ := Aside0.mk (hi); clear HO_572002; clear BK570; clear BK571; clear HO588; clear HK; clear HB; clear HI0; have HO_572002 := n0_; have BK570 := n1_; have BK571 := n2_; have HO588 := n3_; have HK := n4_; have HB := n5_; have HI0 := n6_; clear n0_ n1_ n2_ n3_ n4_ n5_ n6_; (try clear hb); (try clear hb2); (try clear hk); (try clear hi)))
      go_roundg k1
      case measure => have := HK1.out; omega
      case rel => exact ⟨(wrap64 (x5_1 + 1)), (t592), (t593), (t584), (t585), (t586), (.slice Ao67 t586.length co67), (qe14_), H', ⟨by have := HK1.out; omega⟩, ⟨by (with_reducible repeat (first | apply Kd.R_alloc | apply Kd.R_drewN | apply Kd.R_drew)); exact Kd.R_mono HO588.out (fun _ hk => trivial)⟩, ⟨bq_ BK570.out⟩, ⟨bq_ BK571.out⟩, ⟨is_l1Cur_ HI0.out⟩, ⟨qe3_⟩, ⟨qe2_⟩⟩
   ·
    rw [if_neg c9] at H
    have c9b0 : decide (x5_1 < t572) = false := decide_eq_false c9
    clear c9
    simp only [Option.some.injEq, Prod.mk.injEq] at H
    obtain ⟨rfl, rfl, rfl, rfl, rfl⟩ := H
    have hnb70 := NB571_570.out
    have hnc70 := NB570_571.out
    have hnb71 := NB571_0.out
    have hnc71 := NB0_571.out
    have hcz72_0 : wr.cell? ⟨gb571, 0, none⟩ = some (.int .i64 x572000_1) := bc_ BK571 0
    have hcz72_1 : wr.cell? ⟨gb571, 1, none⟩ = some (.int .i64 x572001_1) := bc_ BK571 1
    have hcz72_2 : wr.cell? ⟨gb571, 2, none⟩ = some (u572002) := bc_ BK571 2
    have hfz72_0 := blk_frozen BK571.out 0
    have hfz72_1 := blk_frozen BK571.out 1
    have hfz72_2 := blk_frozen BK571.out 2
    have hnb73 := NB570_0.out
    have hnc73 := NB0_570.out
    have hcz74_0 : wr.cell? ⟨gb570, 0, none⟩ = some (.int .i64 0) := bc_ BK570 0
    have hcz74_1 : wr.cell? ⟨gb570, 1, none⟩ = some (.int .i64 0) := bc_ BK570 1
    have hcz74_2 : wr.cell? ⟨gb570, 2, none⟩ = some (.slice none 0 0) := bc_ BK570 2
    have hfz74_0 := blk_frozen BK570.out 0
    have hfz74_1 := blk_frozen BK570.out 1
    have hfz74_2 := blk_frozen BK570.out 2
    obtain ⟨Ao75, co75, eo75⟩ := Kd.R_slice HO_572002.out
    subst eo75
    go_wp2
    refine bodyPost_ret (results_cell_row rfl _ _ gb570 48 #[.int .i64 x572000_1, .int .i64 x572001_1, .slice Ao75 x572002_1.length co75] (0, 0) _ rfl (bp_ BK570.out) Try.underlying48 rfl (by kernel_rfl)) rfl ?_
    exact ⟨_, er_, by (with_reducible repeat (first | apply Kd.R_alloc | apply Kd.R_drewN | apply Kd.R_drew)); exact Kd.R_mono (Kd.R_far (p := ⟨gb570, 2, none⟩) (Kd.R_far (p := ⟨gb570, 1, none⟩) (Kd.R_far (p := ⟨gb570, 0, none⟩) (Kd.R_types HO_572002.out BK570.out (by decide)) (fun _ hk => hk.2) (.int .i64 x572000_1)) (fun _ hk => hk.2) (.int .i64 x572001_1)) (fun _ hk => hk.2) (.slice Ao75 x572002_1.length co75)) (fun _ hk => trivial), is_l1Cur_ HI0.out, qe2_, qe3_⟩
/-! ### spec_l3Draw: function 63 -/
abbrev spec_l3Draw.m0 : Array Bool := #[t_,t_,t_,t_,t_,t_,f_,f_,f_,f_,f_,f_]
def spec_l3Draw.l0 : Nat → List Int → Int → Int → Int → Int → List (S_Item) → Option (Int × Int × (List (S_Item)) × Int × Int)
 | 0, _, _, _, _, _, _ => none
 | k + 1, x1000, x1001, x1002, x622000, x622001, x622002 => if (x622002.length : Int) < 80 then ((spec_RowPut.f k x622000 x622001 x622002 (⟨#[]⟩ : ByteArray) (⟨#[]⟩ : ByteArray) 0 0).bind fun bt649 => (spec_l3Draw.l0 k x1000 x1001 x1002 bt649.1 bt649.2.1 bt649.2.2.1)) else (some (x622000, x622001, x622002, x1001, x1002))
def spec_l3Draw.f (k : Nat) (s0_0 : List Int) (s0_1 : Int) (s0_2 : Int) : Option (Int × Int × (List (S_Item)) × Int × Int) := (spec_l3DrawRight.f k s0_0 s0_1 s0_2).bind fun bt614 => ((spec_l1Below.f s0_0 bt614.2.2.2.1 bt614.2.2.2.2 14).bind fun bt622 => (if bt622.1 = 0 then ((spec_l1PickInt.f s0_0 bt622.2.1 bt622.2.2 (([(-1), 0, 1, 99] : List Int))).bind fun bt628 => (some (bt628.1, bt614.2.1, bt614.2.2.1, bt628.2.1, bt628.2.2))) else (if bt622.1 = 1 then ((spec_l1PickInt.f s0_0 bt622.2.1 bt622.2.2 (([0, 3, 100000, 100001] : List Int))).bind fun bt634 => (some (bt614.1, bt634.1, bt614.2.2.1, bt634.2.1, bt634.2.2))) else (if bt622.1 = 2 then ((spec_l1Below.f s0_0 bt622.2.1 bt622.2.2 20).bind fun bt637 => ((spec_l1Pick.f s0_0 bt637.2.1 bt637.2.2 (([(⟨#[97]⟩ : ByteArray), (⟨#[65]⟩ : ByteArray)] : List ByteArray))).bind fun bt643 => (if bt614.2.2.1.length < 2513169434916 then (some (bt614.1, bt614.2.1, (bt614.2.2.1 ++ [(⟨bt637.1, bt643.1, (⟨#[]⟩ : ByteArray), 0, 0⟩ : S_Item)]), bt643.2.1, bt643.2.2)) else (none)))) else (if bt622.1 = 3 then (spec_l3Draw.l0 k s0_0 bt622.2.1 bt622.2.2 bt614.1 bt614.2.1 bt614.2.2.1) else (some (bt614.1, bt614.2.1, bt614.2.2.1, bt622.2.1, bt622.2.2)))))))
theorem spec_l3Draw.mono_l : ∀ k, (∀ y0 y1 y2 y3 y4 y5, LeO (spec_l3Draw.l0 k y0 y1 y2 y3 y4 y5) (spec_l3Draw.l0 (k + 1) y0 y1 y2 y3 y4 y5))
 | 0 => fun _ _ _ _ _ _ r h => by simp [spec_l3Draw.l0] at h
 | k + 1 => by
  have ih0 := spec_l3Draw.mono_l k
  ·
   intro y0 y1 y2 y3 y4 y5
   unfold spec_l3Draw.l0
   repeat' first
   | (with_reducible exact ih0 _ _ _ _ _ _)
   | (with_reducible exact spec_RowPut.mono _ _ _ _ _ _ _ _)
   | (with_reducible exact spec_l3DrawRight.mono _ _ _ _)
   | (with_reducible exact LeO.refl _)
   | (with_reducible exact LeO.none _)
   | (with_reducible refine LeO.ite ?_ ?_)
   | (with_reducible refine LeO.bind ?_ (fun _ => ?_))
   | exact ih0 _ _ _ _ _ _
   | exact spec_RowPut.mono _ _ _ _ _ _ _ _
   | exact spec_l3DrawRight.mono _ _ _ _
   | exact LeO.none _
   | refine LeO.ite ?_ ?_
   | refine LeO.bind ?_ (fun _ => ?_)
theorem spec_l3Draw.mono : ∀ a0 a1 a2 k, LeO (spec_l3Draw.f k a0 a1 a2) (spec_l3Draw.f (k + 1) a0 a1 a2) := by
 intro a0 a1 a2 k
 have ih0 := spec_l3Draw.mono_l k
 unfold spec_l3Draw.f
 repeat' first
  | (with_reducible exact ih0 _ _ _ _ _ _)
  | (with_reducible exact spec_RowPut.mono _ _ _ _ _ _ _ _)
  | (with_reducible exact spec_l3DrawRight.mono _ _ _ _)
  | (with_reducible exact LeO.refl _)
  | (with_reducible exact LeO.none _)
  | (with_reducible refine LeO.ite ?_ ?_)
  | (with_reducible refine LeO.bind ?_ (fun _ => ?_))
  | exact ih0 _ _ _ _ _ _
  | exact spec_RowPut.mono _ _ _ _ _ _ _ _
  | exact spec_l3DrawRight.mono _ _ _ _
  | exact LeO.none _
  | refine LeO.ite ?_ ?_
  | refine LeO.bind ?_ (fun _ => ?_)
def spec_l3Draw.T8 : Bool × List (List Nat × List Nat) := (true, [([], []), ([0], [0]), ([], []), ([2], [2]), ([], []), ([], []), ([4, 5, 3], [4, 5]), ([3, 6], [3, 6]), ([7], [7]), ([1, 8, 6], [1, 8]), ([0, 1, 2, 3, 4, 5, 6, 7, 8, 9], []), ([10, 9, 9, 0, 1, 2, 3, 4, 5, 6, 7, 8, 9], [9, 10])])
def spec_l3Draw.B8 : List Nat := [0, 1, 0, 4, 0, 0, 60, 124, 252, 511, 1023, 2047]
theorem spec_l3Draw.tab8 : rtab .any (opsOf Try.f63 8) = spec_l3Draw.T8 := by kernel_rfl
theorem spec_l3Draw.bits8 : waitsOk spec_l3Draw.T8.2 spec_l3Draw.B8 = true := by kernel_rfl
set_option maxHeartbeats 8000000 in
set_option maxRecDepth 100000 in
theorem spec_l3Draw.calls (k : Nat) (g : Nat) (s0_0 : List Int) (s0_1 : Int) (s0_2 : Int) (r1 : Int) (r2 : Int) (r3 : List (S_Item)) (r4 : Int) (r5 : Int) (w0 w : World) (hI : IsS_l1Cur w0 w g s0_0 s0_1 s0_2) (hB : Below w0.heap.size w0 w) (h : spec_l3Draw.f k s0_0 s0_1 s0_2 = some (r1, r2, r3, r4, r5)) :
 Calls Try.prog 63 #[.pointer (some ⟨g, 0, none⟩)] w fun e w' => ∃ v2_ : Value, e = .returned (.agg #[.int .i64 r1, .int .i64 r2, v2_]) ∧ Kd.R k_Item 55 w' w.heap.size (fun _ => True) v2_ r3 ∧ IsS_l1Cur w0 w' g s0_0 r4 r5 ∧ Below w0.heap.size w0 w' ∧ KeepBut w w' g none := by
 have hu48 := Try.underlying48
 have hu55 := Try.underlying55
 have HI0 := Aside0.mk hI
 have HK := Aside0.mk (KeepBut.refl w g none)
 have HL := Aside0.mk hB.size
 clear hI
 have HW0 := Aside0.mk hB.size
 have HB := Aside0.mk hB
 clear hB
 have H : ((spec_l3DrawRight.f k s0_0 s0_1 s0_2).bind fun bt614 => ((spec_l1Below.f s0_0 bt614.2.2.2.1 bt614.2.2.2.2 14).bind fun bt622 => (if bt622.1 = 0 then ((spec_l1PickInt.f s0_0 bt622.2.1 bt622.2.2 (([(-1), 0, 1, 99] : List Int))).bind fun bt628 => (some (bt628.1, bt614.2.1, bt614.2.2.1, bt628.2.1, bt628.2.2))) else (if bt622.1 = 1 then ((spec_l1PickInt.f s0_0 bt622.2.1 bt622.2.2 (([0, 3, 100000, 100001] : List Int))).bind fun bt634 => (some (bt614.1, bt634.1, bt614.2.2.1, bt634.2.1, bt634.2.2))) else (if bt622.1 = 2 then ((spec_l1Below.f s0_0 bt622.2.1 bt622.2.2 20).bind fun bt637 => ((spec_l1Pick.f s0_0 bt637.2.1 bt637.2.2 (([(⟨#[97]⟩ : ByteArray), (⟨#[65]⟩ : ByteArray)] : List ByteArray))).bind fun bt643 => (if bt614.2.2.1.length < 2513169434916 then (some (bt614.1, bt614.2.1, (bt614.2.2.1 ++ [(⟨bt637.1, bt643.1, (⟨#[]⟩ : ByteArray), 0, 0⟩ : S_Item)]), bt643.2.1, bt643.2.2)) else (none)))) else (if bt622.1 = 3 then (spec_l3Draw.l0 k s0_0 bt622.2.1 bt622.2.2 bt614.1 bt614.2.1 bt614.2.2.1) else (some (bt614.1, bt614.2.1, bt614.2.2.1, bt622.2.1, bt622.2.2)))))))) = some (r1, r2, r3, r4, r5) := h
 clear h
 replace H := Option.bind_eq_some_iff.mp H
 obtain ⟨⟨t614, t615, t616, t619, t620⟩, A20, H⟩ := H
 replace H : ((spec_l1Below.f s0_0 t619 t620 14).bind fun bt622 => (if bt622.1 = 0 then ((spec_l1PickInt.f s0_0 bt622.2.1 bt622.2.2 (([(-1), 0, 1, 99] : List Int))).bind fun bt628 => (some (bt628.1, t615, t616, bt628.2.1, bt628.2.2))) else (if bt622.1 = 1 then ((spec_l1PickInt.f s0_0 bt622.2.1 bt622.2.2 (([0, 3, 100000, 100001] : List Int))).bind fun bt634 => (some (t614, bt634.1, t616, bt634.2.1, bt634.2.2))) else (if bt622.1 = 2 then ((spec_l1Below.f s0_0 bt622.2.1 bt622.2.2 20).bind fun bt637 => ((spec_l1Pick.f s0_0 bt637.2.1 bt637.2.2 (([(⟨#[97]⟩ : ByteArray), (⟨#[65]⟩ : ByteArray)] : List ByteArray))).bind fun bt643 => (if t616.length < 2513169434916 then (some (t614, t615, (t616 ++ [(⟨bt637.1, bt643.1, (⟨#[]⟩ : ByteArray), 0, 0⟩ : S_Item)]), bt643.2.1, bt643.2.2)) else (none)))) else (if bt622.1 = 3 then (spec_l3Draw.l0 k s0_0 bt622.2.1 bt622.2.2 t614 t615 t616) else (some (t614, t615, t616, bt622.2.1, bt622.2.2))))))) = some (r1, r2, r3, r4, r5) := H
 have A2 := Aside0.mk A20
 clear A20
 replace H := Option.bind_eq_some_iff.mp H
 obtain ⟨⟨t622, t623, t624⟩, A30, H⟩ := H
 replace H : (if t622 = 0 then ((spec_l1PickInt.f s0_0 t623 t624 (([(-1), 0, 1, 99] : List Int))).bind fun bt628 => (some (bt628.1, t615, t616, bt628.2.1, bt628.2.2))) else (if t622 = 1 then ((spec_l1PickInt.f s0_0 t623 t624 (([0, 3, 100000, 100001] : List Int))).bind fun bt634 => (some (t614, bt634.1, t616, bt634.2.1, bt634.2.2))) else (if t622 = 2 then ((spec_l1Below.f s0_0 t623 t624 20).bind fun bt637 => ((spec_l1Pick.f s0_0 bt637.2.1 bt637.2.2 (([(⟨#[97]⟩ : ByteArray), (⟨#[65]⟩ : ByteArray)] : List ByteArray))).bind fun bt643 => (if t616.length < 2513169434916 then (some (t614, t615, (t616 ++ [(⟨bt637.1, bt643.1, (⟨#[]⟩ : ByteArray), 0, 0⟩ : S_Item)]), bt643.2.1, bt643.2.2)) else (none)))) else (if t622 = 3 then (spec_l3Draw.l0 k s0_0 t623 t624 t614 t615 t616) else (some (t614, t615, t616, t623, t624)))))) = some (r1, r2, r3, r4, r5) := H
 have A3 := Aside0.mk A30
 clear A30
 by_cases c4 : t622 = 0
 ·
  rw [if_pos c4] at H
  have c4b0 : (t622 == 0) = true := beq_iff_eq.mpr c4
  have c4b1 : (t622 != 0) = false := bne_eq_false_iff_eq.mpr c4
  clear c4
  obtain ⟨y625, hy625⟩ : ∃ y_ : List Int, y_ = (([(-1), 0, 1, 99] : List Int)) := ⟨_, rfl⟩
  replace H : ((spec_l1PickInt.f s0_0 t623 t624 y625).bind fun bt628 => (some (bt628.1, t615, t616, bt628.2.1, bt628.2.2))) = some (r1, r2, r3, r4, r5) := by first | (rw [hy625]; with_reducible exact H) | (have H2_ := (Option.bind_some _ _).symm.trans H; rw [hy625]; with_reducible exact H2_) | (have H2_ := (Option.bind_some _ _).symm.trans H; with_reducible exact H2_) | with_reducible exact H | (rw [hy625]; exact H) | exact H
  have Ny625 := Aside0.mk hy625
  clear hy625
  replace H := Option.bind_eq_some_iff.mp H
  obtain ⟨⟨t628, t629, t630⟩, A50, H⟩ := H
  replace H : (some (t628, t615, t616, t629, t630)) = some (r1, r2, r3, r4, r5) := H
  have A5 := Aside0.mk A50
  clear A50
  simp only [Option.some.injEq, Prod.mk.injEq] at H
  obtain ⟨rfl, rfl, rfl, rfl, rfl⟩ := H
  go_enter Try.func63, Try.ntmps63
  go_wp2_with (first | ((with_reducible refine gate_dst (N := 2) rfl ?_); refine box_event ?hg (N := 2) ?hd (cs := #[.int .i64 0, .int .i64 0, .slice none 0 0]) (t := 48) ?hr ?_; (case hd => rfl); (case hg => rfl); (case hr => first | (go_simp; done) | (go_simp; rfl)); intro gb613 hg w6 hbox hb; have n0_ := Aside0.mk (IsS_l1Cur.below (is_l1Cur_ HI0.out) hb); have n1_ := Aside0.mk (KeepBut.trans (hk_ HK.out) (KeepBut.of_below hb g none) (.inl rfl)); have n2_ := Aside0.mk (below_step (hi_ HB.out) hb); have n3_ := Aside0.mk (hbox); have n4_ := Aside0.mk ((by rw [hg]; exact (keep_size (w := w) (g := g) (row := none) (hk_ HK.out)) : w.heap.size ≤ gb613)); have n5_ := Aside0.mk ((Nat.le_trans HW0.out (by rw [hg]; exact (keep_size (w := w) (g := g) (row := none) (hk_ HK.out)) : w.heap.size ≤ gb613) : w0.heap.size ≤ gb613)); have n6_ := Aside0.mk ((by rw [hg]; exact Nat.ne_of_lt (IsS_l1Cur.lt (show IsS_l1Cur w0 _ g s0_0 s0_1 s0_2 from is_l1Cur_ HI0.out)) : g ≠ gb613)); have n7_ := Aside0.mk ((by rw [hg]; exact Nat.ne_of_gt (IsS_l1Cur.lt (show IsS_l1Cur w0 _ g s0_0 s0_1 s0_2 from is_l1Cur_ HI0.out)) : gb613 ≠ g)); clear HI0; clear HK; clear HB; have HI0 := n0_; have HK := n1_; have HB := n2_; have BK613 := n3_; have GW613 := n4_; have GE613 := n5_; have NB0_613 := n6_; have NB613_0 := n7_; clear n0_ n1_ n2_ n3_ n4_ n5_ n6_ n7_; clear hb hbox hg) | ((with_reducible refine gate_callee (f := 78) rfl ?_); refine goesL_ (some 5) rfl rfl Try.func78 (by kernel_rfl) rfl #[.pointer (some ⟨g, 0, none⟩)] rfl sm_ ?_; (with_reducible refine (spec_l3DrawRight.calls k g s0_0 s0_1 s0_2 t614 t615 t616 t619 t620 w0 _ ?side1 ?side2 A2.out).mono ?_); (case side1 => repeat (first | (with_reducible first | exact HI0.out | apply IsS_l1Cur.alloc | apply IsS_l1Cur.drewN | apply IsS_l1Cur.drew | apply IsS_l1Cur.set_1 | apply IsS_l1Cur.set_2 | refine IsS_l1Cur.far ?_ NB0_613.out _) | exact HI0.out)); (case side2 => repeat (first | (with_reducible first | exact HB.out | apply below_alloc | apply pw_below_drewN | apply below_drew1 | refine below_set ?_ (IsS_l1Cur.ge HI0.out) | refine below_set ?_ GE613.out) | exact HB.out)); rintro e w7 ⟨v617, rfl, ho0, hi, hb, hk⟩; refine ⟨_, rfl, ?_⟩; have n0_ := Aside0.mk (KeepBut.blk hk (g' := gb613) (o := .cells #[.int .i64 0, .int .i64 0, .slice none 0 0] 48 (0, 0)) (bq_ BK613.out) NB613_0.out (by simp)); have n1_ := Aside0.mk (Kd.R_lower ho0 (keep_size (w := w) (g := g) (row := none) (hk_ HK.out))); have n2_ := Aside0.mk (KeepBut.trans (hk_ HK.out) hk (.inl rfl)); have n3_ := Aside0.mk (hb); have n4_ := Aside0.mk (hi); clear BK613; clear HK; clear HB; clear HI0; have BK613 := n0_; have HO618 := n1_; have HK := n2_; have HB := n3_; have HI0 := n4_; clear n0_ n1_ n2_ n3_ n4_; (try clear hb); (try clear hb2); (try clear hk); (try clear hi); (try clear ho0)) | ((with_reducible refine gate_dst (N := 3) rfl ?_); refine box_event ?hg (N := 3) ?hd (cs := #[.int .i64 0, .int .i64 0, .slice none 0 0]) (t := 48) ?hr ?_; (case hd => rfl); (case hg => rfl); (case hr => first | (go_simp; done) | (go_simp; rfl)); intro gb621 hg w8 hbox hb; have n0_ := Aside0.mk (Kd.R_below (rq_ HO618.out) hb); have n1_ := Aside0.mk (IsS_l1Cur.below (is_l1Cur_ HI0.out) hb); have n2_ := Aside0.mk (bb_ BK613.out hb); have n3_ := Aside0.mk (KeepBut.trans (hk_ HK.out) (KeepBut.of_below hb g none) (.inl rfl)); have n4_ := Aside0.mk (below_step (hi_ HB.out) hb); have n5_ := Aside0.mk (hbox); have n6_ := Aside0.mk ((by rw [hg]; exact (keep_size (w := w) (g := g) (row := none) (hk_ HK.out)) : w.heap.size ≤ gb621)); have n7_ := Aside0.mk ((Nat.le_trans HW0.out (by rw [hg]; exact (keep_size (w := w) (g := g) (row := none) (hk_ HK.out)) : w.heap.size ≤ gb621) : w0.heap.size ≤ gb621)); have n8_ := Aside0.mk ((nl_ BK613.out hg : gb613 ≠ gb621)); have n9_ := Aside0.mk ((ng_ BK613.out hg : gb621 ≠ gb613)); have n10_ := Aside0.mk ((by rw [hg]; exact Nat.ne_of_lt (IsS_l1Cur.lt (show IsS_l1Cur w0 _ g s0_0 t619 t620 from is_l1Cur_ HI0.out)) : g ≠ gb621)); have n11_ := Aside0.mk ((by rw [hg]; exact Nat.ne_of_gt (IsS_l1Cur.lt (show IsS_l1Cur w0 _ g s0_0 t619 t620 from is_l1Cur_ HI0.out)) : gb621 ≠ g)); clear HO618; clear HI0; clear BK613; clear HK; clear HB; have HO618 := n0_; have HI0 := n1_; have BK613 := n2_; have HK := n3_; have HB := n4_; have BK621 := n5_; have GW621 := n6_; have GE621 := n7_; have NB613_621 := n8_; have NB621_613 := n9_; have NB0_621 := n10_; have NB621_0 := n11_; clear n0_ n1_ n2_ n3_ n4_ n5_ n6_ n7_ n8_ n9_ n10_ n11_; clear hb hbox hg; have hnb9 := NB621_613.out; have hnc9 := NB613_621.out; have hnb10 := NB621_0.out; have hnc10 := NB0_621.out; have hcz11_0 : w8.cell? ⟨gb621, 0, none⟩ = some (.int .i64 0) := bc_ BK621 0; have hcz11_1 : w8.cell? ⟨gb621, 1, none⟩ = some (.int .i64 0) := bc_ BK621 1; have hcz11_2 : w8.cell? ⟨gb621, 2, none⟩ = some (.slice none 0 0) := bc_ BK621 2; have hfz11_0 := blk_frozen BK621.out 0; have hfz11_1 := blk_frozen BK621.out 1; have hfz11_2 := blk_frozen BK621.out 2; obtain ⟨Ao12, co12, eo12⟩ := Kd.R_slice HO618.out; subst eo12) | ((with_reducible refine gate_callee (f := 79) rfl ?_); refine goesL_ (some 7) rfl rfl Try.func79 (by kernel_rfl) rfl #[.pointer (some ⟨g, 0, none⟩), .int .i64 14] rfl sm_ ?_; (with_reducible refine (spec_l1Below.calls g s0_0 t619 t620 14 t622 t623 t624 w0 _ ?side1 ?side2 A3.out).mono ?_); (case side1 => repeat (first | (with_reducible first | exact HI0.out | apply IsS_l1Cur.alloc | apply IsS_l1Cur.drewN | apply IsS_l1Cur.drew | apply IsS_l1Cur.set_1 | apply IsS_l1Cur.set_2 | refine IsS_l1Cur.far ?_ NB0_613.out _ | refine IsS_l1Cur.far ?_ NB0_621.out _) | exact HI0.out)); (case side2 => repeat (first | (with_reducible first | exact HB.out | apply below_alloc | apply pw_below_drewN | apply below_drew1 | refine below_set ?_ (IsS_l1Cur.ge HI0.out) | refine below_set ?_ GE613.out | refine below_set ?_ GE621.out) | exact HB.out)); rintro e w13 ⟨rfl, hi, hb, hk⟩; refine ⟨_, rfl, ?_⟩; have n0_ := Aside0.mk (KeepBut.blk hk (g' := gb613) (o := .cells #[.int .i64 0, .int .i64 0, .slice none 0 0] 48 (0, 0)) (bf_ NB613_621.out BK613.out) NB613_0.out (by simp)); have n1_ := Aside0.mk (Kd.R_mono (Kd.R_keep (IsS_l1Cur.apart (show IsS_l1Cur w0 _ g s0_0 t619 t620 from is_l1Cur_ HI0.out) (rk_ HO618.out BK621.out) (by decide)) hk (fun _ h => h.2)) (fun _ h => h.1)); have n2_ := Aside0.mk (KeepBut.blk hk (g' := gb621) (o := .cells #[.int .i64 t614, .int .i64 t615, .slice Ao12 t616.length co12] 48 (0, 0)) (bp_ BK621.out) NB621_0.out (by simp)); have n3_ := Aside0.mk (KeepBut.trans (hk_ HK.out) hk (.inl rfl)); have n4_ := Aside0.mk (hb); have n5_ := Aside0.mk (hi); clear BK613; clear HO618; clear BK621; clear HK; clear HB; clear HI0; have BK613 := n0_; have HO618 := n1_; have BK621 := n2_; have HK := n3_; have HB := n4_; have HI0 := n5_; clear n0_ n1_ n2_ n3_ n4_ n5_; (try clear hb); (try clear hb2); (try clear hk); (try clear hi)) | ((with_reducible refine gate_dst (N := 11) rfl ?_); refine Kd.R_lit (Kd.int .i64) _ 3 ?hg (N := 11) ?hd (xs := ([(-1), 0, 1, 99] : List Int)) (inner := [.int .i64 (-1), .int .i64 0, .int .i64 1, .int .i64 99]) (ok := fun _ => True) (okp := fun _ => True) ?hr ?hp (fun _ hk => hk) trivial (Below.refl _ _) (Nat.le_refl _) (by simp) ?_; (case hd => rfl); (case hg => rfl); (case hr => first | (go_simp; done) | (go_simp; rfl)); (case hp => exact (Reps.one (show Kd.M (Kd.int .i64) _ _ _ (-1) [.int .i64 (-1)] from rfl) (Reps.one (show Kd.M (Kd.int .i64) _ _ _ 0 [.int .i64 0] from rfl) (Reps.one (show Kd.M (Kd.int .i64) _ _ _ 1 [.int .i64 1] from rfl) (Reps.one (show Kd.M (Kd.int .i64) _ _ _ 99 [.int .i64 99] from rfl) (Reps.none _ _)))))); intro v626 w14 ho15 hb hg_ hnew_; clear hg_ hnew_; (first | rw [← Ny625.out] at ho15 | (simp only [Int.reduceToNat] at ho15; rw [← Ny625.out] at ho15)); have n0_ := Aside0.mk (Kd.R_below (rq_ HO618.out) hb); have n1_ := Aside0.mk (Kd.R_lower ho15 (keep_size (w := w) (g := g) (row := none) (hk_ HK.out))); have n2_ := Aside0.mk (IsS_l1Cur.below (is_l1Cur_ HI0.out) hb); have n3_ := Aside0.mk (bb_ BK613.out hb); have n4_ := Aside0.mk (bb_ BK621.out hb); have n5_ := Aside0.mk (KeepBut.trans (hk_ HK.out) (KeepBut.of_below hb g none) (.inl rfl)); have n6_ := Aside0.mk (below_step (hi_ HB.out) hb); clear HO618; clear HI0; clear BK613; clear BK621; clear HK; clear HB; have HO618 := n0_; have HO627 := n1_; have HI0 := n2_; have BK613 := n3_; have BK621 := n4_; have HK := n5_; have HB := n6_; clear n0_ n1_ n2_ n3_ n4_ n5_ n6_; clear hb ho15; obtain ⟨Ao16, co16, eo16⟩ := Kd.R_slice HO627.out; subst eo16) | ((with_reducible refine gate_callee (f := 64) rfl ?_); refine goesL_ (some 12) rfl rfl Try.func64 (by kernel_rfl) rfl #[.pointer (some ⟨g, 0, none⟩), .slice Ao16 y625.length co16] rfl sm_ ?_; (with_reducible refine (spec_l1PickInt.calls g s0_0 t623 t624 _ _ y625 t628 t629 t630 w0 _ ?side1 ?side2 ?side3 ?side4 ?side5 A5.out).mono ?_); (case side1 => repeat (first | (with_reducible first | exact HI0.out | apply IsS_l1Cur.alloc | apply IsS_l1Cur.drewN | apply IsS_l1Cur.drew | apply IsS_l1Cur.set_1 | apply IsS_l1Cur.set_2 | refine IsS_l1Cur.far ?_ NB0_613.out _ | refine IsS_l1Cur.far ?_ NB0_621.out _) | exact HI0.out)); (case side2 => repeat (first | (with_reducible first | exact HB.out | apply below_alloc | apply pw_below_drewN | apply below_drew1 | refine below_set ?_ (IsS_l1Cur.ge HI0.out) | refine below_set ?_ GE613.out | refine below_set ?_ GE621.out) | exact HB.out)); (case side3 => repeat (first | exact (Kd.R_reads' HO627.out).2.2 | (with_reducible refine Kd.C_alloc ?_ _) | (with_reducible refine Kd.C_drewN ?_ _) | (with_reducible refine Kd.C_drew ?_))); (case side4 => exact (Kd.R_reads' HO627.out).2.1); (case side5 => exact far_slice (IsS_l1Cur.own_ne HI0.out HO627.out (by decide))); rintro e w17 ⟨rfl, hi, hb, hk⟩; refine ⟨_, rfl, ?_⟩; have n0_ := Aside0.mk (KeepBut.blk hk (g' := gb613) (o := .cells #[.int .i64 0, .int .i64 0, .slice none 0 0] 48 (0, 0)) (bq_ BK613.out) NB613_0.out (by simp)); have n1_ := Aside0.mk (Kd.R_mono (Kd.R_keep (IsS_l1Cur.apart (show IsS_l1Cur w0 _ g s0_0 t623 t624 from is_l1Cur_ HI0.out) (rq_ HO618.out) (by decide)) hk (fun _ h => h.2)) (fun _ h => h.1)); have n2_ := Aside0.mk (KeepBut.blk hk (g' := gb621) (o := .cells #[.int .i64 t614, .int .i64 t615, .slice Ao12 t616.length co12] 48 (0, 0)) (bq_ BK621.out) NB621_0.out (by simp)); have n3_ := Aside0.mk (Kd.R_mono (Kd.R_keep (IsS_l1Cur.apart (show IsS_l1Cur w0 _ g s0_0 t623 t624 from is_l1Cur_ HI0.out) (rq_ HO627.out) (by decide)) hk (fun _ h => h.2)) (fun _ h => h.1)); have n4_ := Aside0.mk (KeepBut.trans (hk_ HK.out) hk (.inl rfl)); have n5_ := Aside0.mk (hb); have n6_ := Aside0.mk (hi); clear BK613; clear HO618; clear BK621; clear HO627; clear HK; clear HB; clear HI0; have BK613 := n0_; have HO618 := n1_; have BK621 := n2_; have HO627 := n3_; have HK := n4_; have HB := n5_; have HI0 := n6_; clear n0_ n1_ n2_ n3_ n4_ n5_ n6_; (try clear hb); (try clear hb2); (try clear hk); (try clear hi); have hcz18_0 : w17.cell? ⟨gb621, 0, none⟩ = some (.int .i64 t614) := bc_ BK621 0; have hcz18_1 : w17.cell? ⟨gb621, 1, none⟩ = some (.int .i64 t615) := bc_ BK621 1; have hcz18_2 : w17.cell? ⟨gb621, 2, none⟩ = some (.slice Ao12 t616.length co12) := bc_ BK621 2; have hfz18_0 := blk_frozen BK621.out 0; have hfz18_1 := blk_frozen BK621.out 1; have hfz18_2 := blk_frozen BK621.out 2; have hnb19 := NB613_0.out; have hnc19 := NB0_613.out; have hcz20_0 : w17.cell? ⟨gb613, 0, none⟩ = some (.int .i64 0) := bc_ BK613 0; have hcz20_1 : w17.cell? ⟨gb613, 1, none⟩ = some (.int .i64 0) := bc_ BK613 1; have hcz20_2 : w17.cell? ⟨gb613, 2, none⟩ = some (.slice none 0 0) := bc_ BK613 2; have hfz20_0 := blk_frozen BK613.out 0; have hfz20_1 := blk_frozen BK613.out 1; have hfz20_2 := blk_frozen BK613.out 2))
  refine bodyPost_ret (results_cell_row rfl _ _ gb613 48 #[.int .i64 t628, .int .i64 t615, .slice Ao12 t616.length co12] (0, 0) _ rfl (by_ BK613.out) Try.underlying48 rfl (by kernel_rfl)) rfl ?_
  exact ⟨_, er_, by (with_reducible repeat (first | apply Kd.R_alloc | apply Kd.R_drewN | apply Kd.R_drew)); exact Kd.R_mono (Kd.R_far (p := ⟨gb613, 2, none⟩) (Kd.R_far (p := ⟨gb613, 1, none⟩) (Kd.R_far (p := ⟨gb613, 0, none⟩) (Kd.R_far (p := ⟨gb621, 0, none⟩) (Kd.R_types (Kd.R_types HO618.out BK621.out (by decide)) BK613.out (by decide)) (fun _ hk => hk.1.2) (.int .i64 t628)) (fun _ hk => hk.2) (.int .i64 t628)) (fun _ hk => hk.2) (.int .i64 t615)) (fun _ hk => hk.2) (.slice Ao12 t616.length co12)) (fun _ hk => trivial), is_l1Cur_ HI0.out, qe0_, qe1_⟩
 ·
  rw [if_neg c4] at H
  have c4b0 : (t622 == 0) = false := beq_eq_false_iff_ne.mpr c4
  have c4b1 : (t622 != 0) = true := bne_iff_ne.mpr c4
  by_cases c21 : t622 = 1
  ·
   rw [if_pos c21] at H
   have c21b0 : (t622 == 1) = true := beq_iff_eq.mpr c21
   have c21b1 : (t622 != 1) = false := bne_eq_false_iff_eq.mpr c21
   clear c21
   obtain ⟨y631, hy631⟩ : ∃ y_ : List Int, y_ = (([0, 3, 100000, 100001] : List Int)) := ⟨_, rfl⟩
   replace H : ((spec_l1PickInt.f s0_0 t623 t624 y631).bind fun bt634 => (some (t614, bt634.1, t616, bt634.2.1, bt634.2.2))) = some (r1, r2, r3, r4, r5) := by first | (rw [hy631]; with_reducible exact H) | (have H2_ := (Option.bind_some _ _).symm.trans H; rw [hy631]; with_reducible exact H2_) | (have H2_ := (Option.bind_some _ _).symm.trans H; with_reducible exact H2_) | with_reducible exact H | (rw [hy631]; exact H) | exact H
   have Ny631 := Aside0.mk hy631
   clear hy631
   replace H := Option.bind_eq_some_iff.mp H
   obtain ⟨⟨t634, t635, t636⟩, A220, H⟩ := H
   replace H : (some (t614, t634, t616, t635, t636)) = some (r1, r2, r3, r4, r5) := H
   have A22 := Aside0.mk A220
   clear A220
   simp only [Option.some.injEq, Prod.mk.injEq] at H
   obtain ⟨rfl, rfl, rfl, rfl, rfl⟩ := H
   go_enter Try.func63, Try.ntmps63
   go_wp2_with (first | ((with_reducible refine gate_dst (N := 2) rfl ?_); refine box_event ?hg (N := 2) ?hd (cs := #[.int .i64 0, .int .i64 0, .slice none 0 0]) (t := 48) ?hr ?_; (case hd => rfl); (case hg => rfl); (case hr => first | (go_simp; done) | (go_simp; rfl)); intro gb613 hg w23 hbox hb; have n0_ := Aside0.mk (IsS_l1Cur.below (is_l1Cur_ HI0.out) hb); have n1_ := Aside0.mk (KeepBut.trans (hk_ HK.out) (KeepBut.of_below hb g none) (.inl rfl)); have n2_ := Aside0.mk (below_step (hi_ HB.out) hb); have n3_ := Aside0.mk (hbox); have n4_ := Aside0.mk ((by rw [hg]; exact (keep_size (w := w) (g := g) (row := none) (hk_ HK.out)) : w.heap.size ≤ gb613)); have n5_ := Aside0.mk ((Nat.le_trans HW0.out (by rw [hg]; exact (keep_size (w := w) (g := g) (row := none) (hk_ HK.out)) : w.heap.size ≤ gb613) : w0.heap.size ≤ gb613)); have n6_ := Aside0.mk ((by rw [hg]; exact Nat.ne_of_lt (IsS_l1Cur.lt (show IsS_l1Cur w0 _ g s0_0 s0_1 s0_2 from is_l1Cur_ HI0.out)) : g ≠ gb613)); have n7_ := Aside0.mk ((by rw [hg]; exact Nat.ne_of_gt (IsS_l1Cur.lt (show IsS_l1Cur w0 _ g s0_0 s0_1 s0_2 from is_l1Cur_ HI0.out)) : gb613 ≠ g)); clear HI0; clear HK; clear HB; have HI0 := n0_; have HK := n1_; have HB := n2_; have BK613 := n3_; have GW613 := n4_; have GE613 := n5_; have NB0_613 := n6_; have NB613_0 := n7_; clear n0_ n1_ n2_ n3_ n4_ n5_ n6_ n7_; clear hb hbox hg) | ((with_reducible refine gate_callee (f := 78) rfl ?_); refine goesL_ (some 5) rfl rfl Try.func78 (by kernel_rfl) rfl #[.pointer (some ⟨g, 0, none⟩)] rfl sm_ ?_; (with_reducible refine (spec_l3DrawRight.calls k g s0_0 s0_1 s0_2 t614 t615 t616 t619 t620 w0 _ ?side1 ?side2 A2.out).mono ?_); (case side1 => repeat (first | (with_reducible first | exact HI0.out | apply IsS_l1Cur.alloc | apply IsS_l1Cur.drewN | apply IsS_l1Cur.drew | apply IsS_l1Cur.set_1 | apply IsS_l1Cur.set_2 | refine IsS_l1Cur.far ?_ NB0_613.out _) | exact HI0.out)); (case side2 => repeat (first | (with_reducible first | exact HB.out | apply below_alloc | apply pw_below_drewN | apply below_drew1 | refine below_set ?_ (IsS_l1Cur.ge HI0.out) | refine below_set ?_ GE613.out) | exact HB.out)); rintro e w24 ⟨v617, rfl, ho0, hi, hb, hk⟩; refine ⟨_, rfl, ?_⟩; have n0_ := Aside0.mk (KeepBut.blk hk (g' := gb613) (o := .cells #[.int .i64 0, .int .i64 0, .slice none 0 0] 48 (0, 0)) (bq_ BK613.out) NB613_0.out (by simp)); have n1_ := Aside0.mk (Kd.R_lower ho0 (keep_size (w := w) (g := g) (row := none) (hk_ HK.out))); have n2_ := Aside0.mk (KeepBut.trans (hk_ HK.out) hk (.inl rfl)); have n3_ := Aside0.mk (hb); have n4_ := Aside0.mk (hi); clear BK613; clear HK; clear HB; clear HI0; have BK613 := n0_; have HO618 := n1_; have HK := n2_; have HB := n3_; have HI0 := n4_; clear n0_ n1_ n2_ n3_ n4_; (try clear hb); (try clear hb2); (try clear hk); (try clear hi); (try clear ho0)) | ((with_reducible refine gate_dst (N := 3) rfl ?_); refine box_event ?hg (N := 3) ?hd (cs := #[.int .i64 0, .int .i64 0, .slice none 0 0]) (t := 48) ?hr ?_; (case hd => rfl); (case hg => rfl); (case hr => first | (go_simp; done) | (go_simp; rfl)); intro gb621 hg w25 hbox hb; have n0_ := Aside0.mk (Kd.R_below (rq_ HO618.out) hb); have n1_ := Aside0.mk (IsS_l1Cur.below (is_l1Cur_ HI0.out) hb); have n2_ := Aside0.mk (bb_ BK613.out hb); have n3_ := Aside0.mk (KeepBut.trans (hk_ HK.out) (KeepBut.of_below hb g none) (.inl rfl)); have n4_ := Aside0.mk (below_step (hi_ HB.out) hb); have n5_ := Aside0.mk (hbox); have n6_ := Aside0.mk ((by rw [hg]; exact (keep_size (w := w) (g := g) (row := none) (hk_ HK.out)) : w.heap.size ≤ gb621)); have n7_ := Aside0.mk ((Nat.le_trans HW0.out (by rw [hg]; exact (keep_size (w := w) (g := g) (row := none) (hk_ HK.out)) : w.heap.size ≤ gb621) : w0.heap.size ≤ gb621)); have n8_ := Aside0.mk ((nl_ BK613.out hg : gb613 ≠ gb621)); have n9_ := Aside0.mk ((ng_ BK613.out hg : gb621 ≠ gb613)); have n10_ := Aside0.mk ((by rw [hg]; exact Nat.ne_of_lt (IsS_l1Cur.lt (show IsS_l1Cur w0 _ g s0_0 t619 t620 from is_l1Cur_ HI0.out)) : g ≠ gb621)); have n11_ := Aside0.mk ((by rw [hg]; exact Nat.ne_of_gt (IsS_l1Cur.lt (show IsS_l1Cur w0 _ g s0_0 t619 t620 from is_l1Cur_ HI0.out)) : gb621 ≠ g)); clear HO618; clear HI0; clear BK613; clear HK; clear HB; have HO618 := n0_; have HI0 := n1_; have BK613 := n2_; have HK := n3_; have HB := n4_; have BK621 := n5_; have GW621 := n6_; have GE621 := n7_; have NB613_621 := n8_; have NB621_613 := n9_; have NB0_621 := n10_; have NB621_0 := n11_; clear n0_ n1_ n2_ n3_ n4_ n5_ n6_ n7_ n8_ n9_ n10_ n11_; clear hb hbox hg; have hnb26 := NB621_613.out; have hnc26 := NB613_621.out; have hnb27 := NB621_0.out; have hnc27 := NB0_621.out; have hcz28_0 : w25.cell? ⟨gb621, 0, none⟩ = some (.int .i64 0) := bc_ BK621 0; have hcz28_1 : w25.cell? ⟨gb621, 1, none⟩ = some (.int .i64 0) := bc_ BK621 1; have hcz28_2 : w25.cell? ⟨gb621, 2, none⟩ = some (.slice none 0 0) := bc_ BK621 2; have hfz28_0 := blk_frozen BK621.out 0; have hfz28_1 := blk_frozen BK621.out 1; have hfz28_2 := blk_frozen BK621.out 2; obtain ⟨Ao29, co29, eo29⟩ := Kd.R_slice HO618.out; subst eo29) | ((with_reducible refine gate_callee (f := 79) rfl ?_); refine goesL_ (some 7) rfl rfl Try.func79 (by kernel_rfl) rfl #[.pointer (some ⟨g, 0, none⟩), .int .i64 14] rfl sm_ ?_; (with_reducible refine (spec_l1Below.calls g s0_0 t619 t620 14 t622 t623 t624 w0 _ ?side1 ?side2 A3.out).mono ?_); (case side1 => repeat (first | (with_reducible first | exact HI0.out | apply IsS_l1Cur.alloc | apply IsS_l1Cur.drewN | apply IsS_l1Cur.drew | apply IsS_l1Cur.set_1 | apply IsS_l1Cur.set_2 | refine IsS_l1Cur.far ?_ NB0_613.out _ | refine IsS_l1Cur.far ?_ NB0_621.out _) | exact HI0.out)); (case side2 => repeat (first | (with_reducible first | exact HB.out | apply below_alloc | apply pw_below_drewN | apply below_drew1 | refine below_set ?_ (IsS_l1Cur.ge HI0.out) | refine below_set ?_ GE613.out | refine below_set ?_ GE621.out) | exact HB.out)); rintro e w30 ⟨rfl, hi, hb, hk⟩; refine ⟨_, rfl, ?_⟩; have n0_ := Aside0.mk (KeepBut.blk hk (g' := gb613) (o := .cells #[.int .i64 0, .int .i64 0, .slice none 0 0] 48 (0, 0)) (bf_ NB613_621.out BK613.out) NB613_0.out (by simp)); have n1_ := Aside0.mk (Kd.R_mono (Kd.R_keep (IsS_l1Cur.apart (show IsS_l1Cur w0 _ g s0_0 t619 t620 from is_l1Cur_ HI0.out) (rk_ HO618.out BK621.out) (by decide)) hk (fun _ h => h.2)) (fun _ h => h.1)); have n2_ := Aside0.mk (KeepBut.blk hk (g' := gb621) (o := .cells #[.int .i64 t614, .int .i64 t615, .slice Ao29 t616.length co29] 48 (0, 0)) (bp_ BK621.out) NB621_0.out (by simp)); have n3_ := Aside0.mk (KeepBut.trans (hk_ HK.out) hk (.inl rfl)); have n4_ := Aside0.mk (hb); have n5_ := Aside0.mk (hi); clear BK613; clear HO618; clear BK621; clear HK; clear HB; clear HI0; have BK613 := n0_; have HO618 := n1_; have BK621 := n2_; have HK := n3_; have HB := n4_; have HI0 := n5_; clear n0_ n1_ n2_ n3_ n4_ n5_; (try clear hb); (try clear hb2); (try clear hk); (try clear hi)) | ((with_reducible refine gate_dst (N := 17) rfl ?_); refine Kd.R_lit (Kd.int .i64) _ 3 ?hg (N := 17) ?hd (xs := ([0, 3, 100000, 100001] : List Int)) (inner := [.int .i64 0, .int .i64 3, .int .i64 100000, .int .i64 100001]) (ok := fun _ => True) (okp := fun _ => True) ?hr ?hp (fun _ hk => hk) trivial (Below.refl _ _) (Nat.le_refl _) (by simp) ?_; (case hd => rfl); (case hg => rfl); (case hr => first | (go_simp; done) | (go_simp; rfl)); (case hp => exact (Reps.one (show Kd.M (Kd.int .i64) _ _ _ 0 [.int .i64 0] from rfl) (Reps.one (show Kd.M (Kd.int .i64) _ _ _ 3 [.int .i64 3] from rfl) (Reps.one (show Kd.M (Kd.int .i64) _ _ _ 100000 [.int .i64 100000] from rfl) (Reps.one (show Kd.M (Kd.int .i64) _ _ _ 100001 [.int .i64 100001] from rfl) (Reps.none _ _)))))); intro v632 w31 ho32 hb hg_ hnew_; clear hg_ hnew_; (first | rw [← Ny631.out] at ho32 | (simp only [Int.reduceToNat] at ho32; rw [← Ny631.out] at ho32)); have n0_ := Aside0.mk (Kd.R_below (rq_ HO618.out) hb); have n1_ := Aside0.mk (Kd.R_lower ho32 (keep_size (w := w) (g := g) (row := none) (hk_ HK.out))); have n2_ := Aside0.mk (IsS_l1Cur.below (is_l1Cur_ HI0.out) hb); have n3_ := Aside0.mk (bb_ BK613.out hb); have n4_ := Aside0.mk (bb_ BK621.out hb); have n5_ := Aside0.mk (KeepBut.trans (hk_ HK.out) (KeepBut.of_below hb g none) (.inl rfl)); have n6_ := Aside0.mk (below_step (hi_ HB.out) hb); clear HO618; clear HI0; clear BK613; clear BK621; clear HK; clear HB; have HO618 := n0_; have HO633 := n1_; have HI0 := n2_; have BK613 := n3_; have BK621 := n4_; have HK := n5_; have HB := n6_; clear n0_ n1_ n2_ n3_ n4_ n5_ n6_; clear hb ho32; obtain ⟨Ao33, co33, eo33⟩ := Kd.R_slice HO633.out; subst eo33) | ((with_reducible refine gate_callee (f := 64) rfl ?_); refine goesL_ (some 18) rfl rfl Try.func64 (by kernel_rfl) rfl #[.pointer (some ⟨g, 0, none⟩), .slice Ao33 y631.length co33] rfl sm_ ?_; (with_reducible refine (spec_l1PickInt.calls g s0_0 t623 t624 _ _ y631 t634 t635 t636 w0 _ ?side1 ?side2 ?side3 ?side4 ?side5 A22.out).mono ?_); (case side1 => repeat (first | (with_reducible first | exact HI0.out | apply IsS_l1Cur.alloc | apply IsS_l1Cur.drewN | apply IsS_l1Cur.drew | apply IsS_l1Cur.set_1 | apply IsS_l1Cur.set_2 | refine IsS_l1Cur.far ?_ NB0_613.out _ | refine IsS_l1Cur.far ?_ NB0_621.out _) | exact HI0.out)); (case side2 => repeat (first | (with_reducible first | exact HB.out | apply below_alloc | apply pw_below_drewN | apply below_drew1 | refine below_set ?_ (IsS_l1Cur.ge HI0.out) | refine below_set ?_ GE613.out | refine below_set ?_ GE621.out) | exact HB.out)); (case side3 => repeat (first | exact (Kd.R_reads' HO633.out).2.2 | (with_reducible refine Kd.C_alloc ?_ _) | (with_reducible refine Kd.C_drewN ?_ _) | (with_reducible refine Kd.C_drew ?_))); (case side4 => exact (Kd.R_reads' HO633.out).2.1); (case side5 => exact far_slice (IsS_l1Cur.own_ne HI0.out HO633.out (by decide))); rintro e w34 ⟨rfl, hi, hb, hk⟩; refine ⟨_, rfl, ?_⟩; have n0_ := Aside0.mk (KeepBut.blk hk (g' := gb613) (o := .cells #[.int .i64 0, .int .i64 0, .slice none 0 0] 48 (0, 0)) (bq_ BK613.out) NB613_0.out (by simp)); have n1_ := Aside0.mk (Kd.R_mono (Kd.R_keep (IsS_l1Cur.apart (show IsS_l1Cur w0 _ g s0_0 t623 t624 from is_l1Cur_ HI0.out) (rq_ HO618.out) (by decide)) hk (fun _ h => h.2)) (fun _ h => h.1)); have n2_ := Aside0.mk (KeepBut.blk hk (g' := gb621) (o := .cells #[.int .i64 t614, .int .i64 t615, .slice Ao29 t616.length co29] 48 (0, 0)) (bq_ BK621.out) NB621_0.out (by simp)); have n3_ := Aside0.mk (Kd.R_mono (Kd.R_keep (IsS_l1Cur.apart (show IsS_l1Cur w0 _ g s0_0 t623 t624 from is_l1Cur_ HI0.out) (rq_ HO633.out) (by decide)) hk (fun _ h => h.2)) (fun _ h => h.1)); have n4_ := Aside0.mk (KeepBut.trans (hk_ HK.out) hk (.inl rfl)); have n5_ := Aside0.mk (hb); have n6_ := Aside0.mk (hi); clear BK613; clear HO618; clear BK621; clear HO633; clear HK; clear HB; clear HI0; have BK613 := n0_; have HO618 := n1_; have BK621 := n2_; have HO633 := n3_; have HK := n4_; have HB := n5_; have HI0 := n6_; clear n0_ n1_ n2_ n3_ n4_ n5_ n6_; (try clear hb); (try clear hb2); (try clear hk); (try clear hi); have hcz35_0 : w34.cell? ⟨gb621, 0, none⟩ = some (.int .i64 t614) := bc_ BK621 0; have hcz35_1 : w34.cell? ⟨gb621, 1, none⟩ = some (.int .i64 t615) := bc_ BK621 1; have hcz35_2 : w34.cell? ⟨gb621, 2, none⟩ = some (.slice Ao29 t616.length co29) := bc_ BK621 2; have hfz35_0 := blk_frozen BK621.out 0; have hfz35_1 := blk_frozen BK621.out 1; have hfz35_2 := blk_frozen BK621.out 2; have hnb36 := NB613_0.out; have hnc36 := NB0_613.out; have hcz37_0 : w34.cell? ⟨gb613, 0, none⟩ = some (.int .i64 0) := bc_ BK613 0; have hcz37_1 : w34.cell? ⟨gb613, 1, none⟩ = some (.int .i64 0) := bc_ BK613 1; have hcz37_2 : w34.cell? ⟨gb613, 2, none⟩ = some (.slice none 0 0) := bc_ BK613 2; have hfz37_0 := blk_frozen BK613.out 0; have hfz37_1 := blk_frozen BK613.out 1; have hfz37_2 := blk_frozen BK613.out 2))
   refine bodyPost_ret (results_cell_row rfl _ _ gb613 48 #[.int .i64 t614, .int .i64 t634, .slice Ao29 t616.length co29] (0, 0) _ rfl (by_ BK613.out) Try.underlying48 rfl (by kernel_rfl)) rfl ?_
   exact ⟨_, er_, by (with_reducible repeat (first | apply Kd.R_alloc | apply Kd.R_drewN | apply Kd.R_drew)); exact Kd.R_mono (Kd.R_far (p := ⟨gb613, 2, none⟩) (Kd.R_far (p := ⟨gb613, 1, none⟩) (Kd.R_far (p := ⟨gb613, 0, none⟩) (Kd.R_far (p := ⟨gb621, 1, none⟩) (Kd.R_types (Kd.R_types HO618.out BK621.out (by decide)) BK613.out (by decide)) (fun _ hk => hk.1.2) (.int .i64 t634)) (fun _ hk => hk.2) (.int .i64 t614)) (fun _ hk => hk.2) (.int .i64 t634)) (fun _ hk => hk.2) (.slice Ao29 t616.length co29)) (fun _ hk => trivial), is_l1Cur_ HI0.out, qe0_, qe1_⟩
  ·
   rw [if_neg c21] at H
   have c21b0 : (t622 == 1) = false := beq_eq_false_iff_ne.mpr c21
   have c21b1 : (t622 != 1) = true := bne_iff_ne.mpr c21
   by_cases c38 : t622 = 2
   ·
    rw [if_pos c38] at H
    have c38b0 : (t622 == 2) = true := beq_iff_eq.mpr c38
    have c38b1 : (t622 != 2) = false := bne_eq_false_iff_eq.mpr c38
    clear c38
    replace H := Option.bind_eq_some_iff.mp H
    obtain ⟨⟨t637, t638, t639⟩, A390, H⟩ := H
    replace H : ((spec_l1Pick.f s0_0 t638 t639 (([(⟨#[97]⟩ : ByteArray), (⟨#[65]⟩ : ByteArray)] : List ByteArray))).bind fun bt643 => (if t616.length < 2513169434916 then (some (t614, t615, (t616 ++ [(⟨t637, bt643.1, (⟨#[]⟩ : ByteArray), 0, 0⟩ : S_Item)]), bt643.2.1, bt643.2.2)) else (none))) = some (r1, r2, r3, r4, r5) := H
    have A39 := Aside0.mk A390
    clear A390
    obtain ⟨y640, hy640⟩ : ∃ y_ : List ByteArray, y_ = (([(⟨#[97]⟩ : ByteArray), (⟨#[65]⟩ : ByteArray)] : List ByteArray)) := ⟨_, rfl⟩
    replace H : ((spec_l1Pick.f s0_0 t638 t639 y640).bind fun bt643 => (if t616.length < 2513169434916 then (some (t614, t615, (t616 ++ [(⟨t637, bt643.1, (⟨#[]⟩ : ByteArray), 0, 0⟩ : S_Item)]), bt643.2.1, bt643.2.2)) else (none))) = some (r1, r2, r3, r4, r5) := by first | (rw [hy640]; with_reducible exact H) | (have H2_ := (Option.bind_some _ _).symm.trans H; rw [hy640]; with_reducible exact H2_) | (have H2_ := (Option.bind_some _ _).symm.trans H; with_reducible exact H2_) | with_reducible exact H | (rw [hy640]; exact H) | exact H
    have Ny640 := Aside0.mk hy640
    clear hy640
    replace H := Option.bind_eq_some_iff.mp H
    obtain ⟨⟨t643, t644, t645⟩, A400, H⟩ := H
    replace H : (if t616.length < 2513169434916 then (some (t614, t615, (t616 ++ [(⟨t637, t643, (⟨#[]⟩ : ByteArray), 0, 0⟩ : S_Item)]), t644, t645)) else (none)) = some (r1, r2, r3, r4, r5) := H
    have A40 := Aside0.mk A400
    clear A400
    by_cases c41 : t616.length < 2513169434916
    ·
     rw [if_pos c41] at H
     have LMc41 := Aside0.mk c41
     clear c41
     obtain ⟨y646, hy646⟩ : ∃ y_ : List (S_Item), y_ = (t616 ++ [(⟨t637, t643, (⟨#[]⟩ : ByteArray), 0, 0⟩ : S_Item)]) := ⟨_, rfl⟩
     replace H : (some (t614, t615, y646, t644, t645)) = some (r1, r2, r3, r4, r5) := by first | (rw [hy646]; with_reducible exact H) | (have H2_ := (Option.bind_some _ _).symm.trans H; rw [hy646]; with_reducible exact H2_) | (have H2_ := (Option.bind_some _ _).symm.trans H; with_reducible exact H2_) | with_reducible exact H | (rw [hy646]; exact H) | exact H
     have Ny646 := Aside0.mk hy646
     clear hy646
     simp only [Option.some.injEq, Prod.mk.injEq] at H
     obtain ⟨rfl, rfl, rfl, rfl, rfl⟩ := H
     go_enter Try.func63, Try.ntmps63
     try go_wp2_with (first | ((with_reducible refine gate_dst (N := 2) rfl ?_); refine box_event ?hg (N := 2) ?hd (cs := #[.int .i64 0, .int .i64 0, .slice none 0 0]) (t := 48) ?hr ?_; (case hd => rfl); (case hg => rfl); (case hr => first | (go_simp; done) | (go_simp; rfl)); intro gb613 hg w42 hbox hb; have n0_ := Aside0.mk (IsS_l1Cur.below (is_l1Cur_ HI0.out) hb); have n1_ := Aside0.mk (KeepBut.trans (hk_ HK.out) (KeepBut.of_below hb g none) (.inl rfl)); have n2_ := Aside0.mk (below_step (hi_ HB.out) hb); have n3_ := Aside0.mk (hbox); have n4_ := Aside0.mk ((by rw [hg]; exact (keep_size (w := w) (g := g) (row := none) (hk_ HK.out)) : w.heap.size ≤ gb613)); have n5_ := Aside0.mk ((Nat.le_trans HW0.out (by rw [hg]; exact (keep_size (w := w) (g := g) (row := none) (hk_ HK.out)) : w.heap.size ≤ gb613) : w0.heap.size ≤ gb613)); have n6_ := Aside0.mk ((by rw [hg]; exact Nat.ne_of_lt (IsS_l1Cur.lt (show IsS_l1Cur w0 _ g s0_0 s0_1 s0_2 from is_l1Cur_ HI0.out)) : g ≠ gb613)); have n7_ := Aside0.mk ((by rw [hg]; exact Nat.ne_of_gt (IsS_l1Cur.lt (show IsS_l1Cur w0 _ g s0_0 s0_1 s0_2 from is_l1Cur_ HI0.out)) : gb613 ≠ g)); clear HI0; clear HK; clear HB; have HI0 := n0_; have HK := n1_; have HB := n2_; have BK613 := n3_; have GW613 := n4_; have GE613 := n5_; have NB0_613 := n6_; have NB613_0 := n7_; clear n0_ n1_ n2_ n3_ n4_ n5_ n6_ n7_; clear hb hbox hg) | ((with_reducible refine gate_callee (f := 78) rfl ?_); refine goesL_ (some 5) rfl rfl Try.func78 (by kernel_rfl) rfl #[.pointer (some ⟨g, 0, none⟩)] rfl sm_ ?_; (with_reducible refine (spec_l3DrawRight.calls k g s0_0 s0_1 s0_2 t614 t615 t616 t619 t620 w0 _ ?side1 ?side2 A2.out).mono ?_); (case side1 => repeat (first | (with_reducible first | exact HI0.out | apply IsS_l1Cur.alloc | apply IsS_l1Cur.drewN | apply IsS_l1Cur.drew | apply IsS_l1Cur.set_1 | apply IsS_l1Cur.set_2 | refine IsS_l1Cur.far ?_ NB0_613.out _) | exact HI0.out)); (case side2 => repeat (first | (with_reducible first | exact HB.out | apply below_alloc | apply pw_below_drewN | apply below_drew1 | refine below_set ?_ (IsS_l1Cur.ge HI0.out) | refine below_set ?_ GE613.out) | exact HB.out)); rintro e w43 ⟨v617, rfl, ho0, hi, hb, hk⟩; refine ⟨_, rfl, ?_⟩; have n0_ := Aside0.mk (KeepBut.blk hk (g' := gb613) (o := .cells #[.int .i64 0, .int .i64 0, .slice none 0 0] 48 (0, 0)) (bq_ BK613.out) NB613_0.out (by simp)); have n1_ := Aside0.mk (Kd.R_lower ho0 (keep_size (w := w) (g := g) (row := none) (hk_ HK.out))); have n2_ := Aside0.mk (KeepBut.trans (hk_ HK.out) hk (.inl rfl)); have n3_ := Aside0.mk (hb); have n4_ := Aside0.mk (hi); clear BK613; clear HK; clear HB; clear HI0; have BK613 := n0_; have HO618 := n1_; have HK := n2_; have HB := n3_; have HI0 := n4_; clear n0_ n1_ n2_ n3_ n4_; (try clear hb); (try clear hb2); (try clear hk); (try clear hi); (try clear ho0)) | ((with_reducible refine gate_dst (N := 3) rfl ?_); refine box_event ?hg (N := 3) ?hd (cs := #[.int .i64 0, .int .i64 0, .slice none 0 0]) (t := 48) ?hr ?_; (case hd => rfl); (case hg => rfl); (case hr => first | (go_simp; done) | (go_simp; rfl)); intro gb621 hg w44 hbox hb; have n0_ := Aside0.mk (Kd.R_below (rq_ HO618.out) hb); have n1_ := Aside0.mk (IsS_l1Cur.below (is_l1Cur_ HI0.out) hb); have n2_ := Aside0.mk (bb_ BK613.out hb); have n3_ := Aside0.mk (KeepBut.trans (hk_ HK.out) (KeepBut.of_below hb g none) (.inl rfl)); have n4_ := Aside0.mk (below_step (hi_ HB.out) hb); have n5_ := Aside0.mk (hbox); have n6_ := Aside0.mk ((by rw [hg]; exact (keep_size (w := w) (g := g) (row := none) (hk_ HK.out)) : w.heap.size ≤ gb621)); have n7_ := Aside0.mk ((Nat.le_trans HW0.out (by rw [hg]; exact (keep_size (w := w) (g := g) (row := none) (hk_ HK.out)) : w.heap.size ≤ gb621) : w0.heap.size ≤ gb621)); have n8_ := Aside0.mk ((nl_ BK613.out hg : gb613 ≠ gb621)); have n9_ := Aside0.mk ((ng_ BK613.out hg : gb621 ≠ gb613)); have n10_ := Aside0.mk ((by rw [hg]; exact Nat.ne_of_lt (IsS_l1Cur.lt (show IsS_l1Cur w0 _ g s0_0 t619 t620 from is_l1Cur_ HI0.out)) : g ≠ gb621)); have n11_ := Aside0.mk ((by rw [hg]; exact Nat.ne_of_gt (IsS_l1Cur.lt (show IsS_l1Cur w0 _ g s0_0 t619 t620 from is_l1Cur_ HI0.out)) : gb621 ≠ g)); clear HO618; clear HI0; clear BK613; clear HK; clear HB; have HO618 := n0_; have HI0 := n1_; have BK613 := n2_; have HK := n3_; have HB := n4_; have BK621 := n5_; have GW621 := n6_; have GE621 := n7_; have NB613_621 := n8_; have NB621_613 := n9_; have NB0_621 := n10_; have NB621_0 := n11_; clear n0_ n1_ n2_ n3_ n4_ n5_ n6_ n7_ n8_ n9_ n10_ n11_; clear hb hbox hg; have hnb45 := NB621_613.out; have hnc45 := NB613_621.out; have hnb46 := NB621_0.out; have hnc46 := NB0_621.out; have hcz47_0 : w44.cell? ⟨gb621, 0, none⟩ = some (.int .i64 0) := bc_ BK621 0; have hcz47_1 : w44.cell? ⟨gb621, 1, none⟩ = some (.int .i64 0) := bc_ BK621 1; have hcz47_2 : w44.cell? ⟨gb621, 2, none⟩ = some (.slice none 0 0) := bc_ BK621 2; have hfz47_0 := blk_frozen BK621.out 0; have hfz47_1 := blk_frozen BK621.out 1; have hfz47_2 := blk_frozen BK621.out 2; obtain ⟨Ao48, co48, eo48⟩ := Kd.R_slice HO618.out; subst eo48) | ((with_reducible refine gate_callee (f := 79) rfl ?_); refine goesL_ (some 7) rfl rfl Try.func79 (by kernel_rfl) rfl #[.pointer (some ⟨g, 0, none⟩), .int .i64 14] rfl sm_ ?_; (with_reducible refine (spec_l1Below.calls g s0_0 t619 t620 14 t622 t623 t624 w0 _ ?side1 ?side2 A3.out).mono ?_); (case side1 => repeat (first | (with_reducible first | exact HI0.out | apply IsS_l1Cur.alloc | apply IsS_l1Cur.drewN | apply IsS_l1Cur.drew | apply IsS_l1Cur.set_1 | apply IsS_l1Cur.set_2 | refine IsS_l1Cur.far ?_ NB0_613.out _ | refine IsS_l1Cur.far ?_ NB0_621.out _) | exact HI0.out)); (case side2 => repeat (first | (with_reducible first | exact HB.out | apply below_alloc | apply pw_below_drewN | apply below_drew1 | refine below_set ?_ (IsS_l1Cur.ge HI0.out) | refine below_set ?_ GE613.out | refine below_set ?_ GE621.out) | exact HB.out)); rintro e w49 ⟨rfl, hi, hb, hk⟩; refine ⟨_, rfl, ?_⟩; have n0_ := Aside0.mk (KeepBut.blk hk (g' := gb613) (o := .cells #[.int .i64 0, .int .i64 0, .slice none 0 0] 48 (0, 0)) (bf_ NB613_621.out BK613.out) NB613_0.out (by simp)); have n1_ := Aside0.mk (Kd.R_mono (Kd.R_keep (IsS_l1Cur.apart (show IsS_l1Cur w0 _ g s0_0 t619 t620 from is_l1Cur_ HI0.out) (rk_ HO618.out BK621.out) (by decide)) hk (fun _ h => h.2)) (fun _ h => h.1)); have n2_ := Aside0.mk (KeepBut.blk hk (g' := gb621) (o := .cells #[.int .i64 t614, .int .i64 t615, .slice Ao48 t616.length co48] 48 (0, 0)) (bp_ BK621.out) NB621_0.out (by simp)); have n3_ := Aside0.mk (KeepBut.trans (hk_ HK.out) hk (.inl rfl)); have n4_ := Aside0.mk (hb); have n5_ := Aside0.mk (hi); clear BK613; clear HO618; clear BK621; clear HK; clear HB; clear HI0; have BK613 := n0_; have HO618 := n1_; have BK621 := n2_; have HK := n3_; have HB := n4_; have HI0 := n5_; clear n0_ n1_ n2_ n3_ n4_ n5_; (try clear hb); (try clear hb2); (try clear hk); (try clear hi)))
     have n0_ := Aside0.mk (Kd.R_drew HO618.out)
     have n1_ := Aside0.mk (blk_drew BK613.out)
     have n2_ := Aside0.mk (blk_drew BK621.out)
     have n3_ := Aside0.mk (IsS_l1Cur.drew HI0.out)
     have n4_ := Aside0.mk (keep_drew HK.out)
     have n5_ := Aside0.mk (below_drew1 HB.out)
     clear HO618; clear BK613
     clear BK621; clear HI0
     clear HK; clear HB
     have HO618 := n0_
     have BK613 := n1_
     have BK621 := n2_
     have HI0 := n3_
     have HK := n4_
     have HB := n5_
     clear n0_ n1_ n2_ n3_ n4_ n5_
     refine start_ (n := 12) (S := fun w' => w'.cell? ⟨gb621, 0, none⟩ = some (.int .i64 t614) ∧ w'.cell? ⟨gb621, 1, none⟩ = some (.int .i64 t615) ∧ w'.cell? ⟨gb621, 2, none⟩ = some (.slice Ao48 t616.length co48)) (ds := [11]) #[false, false, false, false, false, false, false, false, false, false, false, false] (by kernel_rfl) rfl rfl ⟨bc_ BK621 0, bc_ BK621 1, bc_ BK621 2⟩ (fun hHeld => ?_); refine with_tabW spec_l3Draw.tab8 spec_l3Draw.bits8 (fun HT_ HW_ => ?_)
     generalize w49.drew = w50 at HO618 BK613 BK621 HI0 HK HB hHeld ⊢
     refine pI_ 0 22 HT_ #[true, false, false, false, false, false, false, false, false, false, false, false] rfl rfl ?_
     refine pI_ 2 24 HT_ #[true, false, true, false, false, false, false, false, false, false, false, false] rfl rfl ?_
     refine pI_ 4 26 HT_ #[true, false, true, false, true, false, false, false, false, false, false, false] rfl rfl ?_
     refine tk_ 1 23 HT_ HW_ #[true, true, true, false, true, false, false, false, false, false, false, false] rfl rfl hHeld ?_
     refine join_ (σ := Value) 6 spec_l3Draw.m0 (fun s_ => [(25, .int .i64 t637), (27, s_)]) (fun s_ w' => (w'.cell? ⟨gb621, 0, none⟩ = some (.int .i64 t614) ∧ w'.cell? ⟨gb621, 1, none⟩ = some (.int .i64 t615) ∧ w'.cell? ⟨gb621, 2, none⟩ = some (.slice Ao48 t616.length co48)) ∧ (Kd.R k_Item 55 w' w.heap.size (fun _ => True) (.slice Ao48 t616.length co48) t616) ∧ (Kd.R Kd.string 9 w' w.heap.size (fun _ => True) s_ y640) ∧ (w'.heap[gb613]? = some (.cells #[.int .i64 0, .int .i64 0, .slice none 0 0] 48 (0, 0))) ∧ (w'.heap[gb621]? = some (.cells #[.int .i64 t614, .int .i64 t615, .slice Ao48 t616.length co48] 48 (0, 0))) ∧ (IsS_l1Cur w0 w' g s0_0 t638 t639) ∧ (KeepBut w w' g none) ∧ (Below w0.heap.size w0 w')) ?_ ?_
     rotate_left
     ·
      intro hCont
      refine two_ (i := 3) (j := 5) (Ni := some 25) (Nj := some 27) #[true, true, true, true, true, false, false, false, false, false, false, false] #[true, true, true, false, true, true, false, false, false, false, false, false] rfl rfl rfl rfl (two_of HT_.out (by kernel_rfl)) (by decide) (by decide) (fun K hK => ?_) (fun K hK => ?_)
      ·
       skip
       refine goes_ Try.func79 (by kernel_rfl) rfl #[.pointer (some ⟨g, 0, none⟩), .int .i64 20] (by rfl) rfl rfl sm_ ?_
       with_reducible refine (spec_l1Below.calls g s0_0 t623 t624 20 t637 t638 t639 w0 _ ?side1 ?side2 A39.out).mono ?_
       (case side1 => repeat (first | (with_reducible first | exact HI0.out | apply IsS_l1Cur.alloc | apply IsS_l1Cur.drewN | apply IsS_l1Cur.drew | apply IsS_l1Cur.set_1 | apply IsS_l1Cur.set_2 | refine IsS_l1Cur.far ?_ NB0_613.out _ | refine IsS_l1Cur.far ?_ NB0_621.out _) | exact HI0.out))
       (case side2 => repeat (first | (with_reducible first | exact HB.out | apply below_alloc | apply pw_below_drewN | apply below_drew1 | refine below_set ?_ (IsS_l1Cur.ge HI0.out) | refine below_set ?_ GE613.out | refine below_set ?_ GE621.out) | exact HB.out))
       rintro e w51 ⟨rfl, hi, hb, hk⟩
       refine ⟨_, rfl, ?_⟩
       have n0_ := Aside0.mk (KeepBut.blk hk (g' := gb613) (o := .cells #[.int .i64 0, .int .i64 0, .slice none 0 0] 48 (0, 0)) (bq_ BK613.out) NB613_0.out (by simp))
       have n1_ := Aside0.mk (Kd.R_mono (Kd.R_keep (IsS_l1Cur.apart (show IsS_l1Cur w0 _ g s0_0 t623 t624 from is_l1Cur_ HI0.out) (rq_ HO618.out) (by decide)) hk (fun _ h => h.2)) (fun _ h => h.1))
       have n2_ := Aside0.mk (KeepBut.blk hk (g' := gb621) (o := .cells #[.int .i64 t614, .int .i64 t615, .slice Ao48 t616.length co48] 48 (0, 0)) (bq_ BK621.out) NB621_0.out (by simp))
       have n3_ := Aside0.mk (KeepBut.trans (hk_ HK.out) hk (.inl rfl))
       have n4_ := Aside0.mk (hb)
       have n5_ := Aside0.mk (hi)
       clear BK613; clear HO618
       clear BK621; clear HK
       clear HB; clear HI0
       have BK613 := n0_
       have HO618 := n1_
       have BK621 := n2_
       have HK := n3_
       have HB := n4_
       have HI0 := n5_
       clear n0_ n1_ n2_ n3_ n4_ n5_
       (try clear hb)
       (try clear hb2)
       (try clear hk)
       (try clear hi)
       refine hK.out _ _ ⟨bc_ BK621 0, bc_ BK621 1, bc_ BK621 2⟩ (fun hHeld => ?_)
       clear hK K
       refine nm_ ?_
       refine on_ 5 27 HT_ spec_l3Draw.m0 rfl rfl (fun K hK => ?_)
       refine Kd.R_lit_step Kd.string _ 9 ?hg (N := 27) ?hd (xs := ([(⟨#[97]⟩ : ByteArray), (⟨#[65]⟩ : ByteArray)] : List ByteArray)) (inner := [.string (⟨#[97]⟩ : ByteArray), .string (⟨#[65]⟩ : ByteArray)]) (ok := fun _ => True) (okp := fun _ => True) ?hr ?hp (fun _ hk => hk) trivial (Below.refl _ _) (Nat.le_refl _) (by simp) ?_; (case hd => rfl); (case hg => rfl); (case hr => first | (go_simp; done) | (go_simp; rfl)); (case hp => exact (Reps.one (show Kd.M Kd.string _ _ _ (⟨#[97]⟩ : ByteArray) [.string (⟨#[97]⟩ : ByteArray)] from rfl) (Reps.one (show Kd.M Kd.string _ _ _ (⟨#[65]⟩ : ByteArray) [.string (⟨#[65]⟩ : ByteArray)] from rfl) (Reps.none _ _))))
       intro v641 w52 ho53 hb hg_ hnew_
       clear hg_ hnew_
       (first | rw [← Ny640.out] at ho53 | (simp only [Int.reduceToNat] at ho53; rw [← Ny640.out] at ho53))
       have n0_ := Aside0.mk (Kd.R_below (rq_ HO618.out) hb)
       have n1_ := Aside0.mk (Kd.R_lower ho53 (keep_size (w := w) (g := g) (row := none) (hk_ HK.out)))
       have n2_ := Aside0.mk (IsS_l1Cur.below (is_l1Cur_ HI0.out) hb)
       have n3_ := Aside0.mk (bb_ BK613.out hb)
       have n4_ := Aside0.mk (bb_ BK621.out hb)
       have n5_ := Aside0.mk (KeepBut.trans (hk_ HK.out) (KeepBut.of_below hb g none) (.inl rfl))
       have n6_ := Aside0.mk (below_step (hi_ HB.out) hb)
       clear HO618; clear HI0
       clear BK613; clear BK621
       clear HK; clear HB
       have HO618 := n0_
       have HO642 := n1_
       have HI0 := n2_
       have BK613 := n3_
       have BK621 := n4_
       have HK := n5_
       have HB := n6_
       clear n0_ n1_ n2_ n3_ n4_ n5_ n6_; clear hb ho53
       refine hK.out _ _ ⟨bc_ BK621 0, bc_ BK621 1, bc_ BK621 2⟩ (fun hHeld => ?_)
       clear hK K
       refine nm_ ?_
       exact norm_ (by simp only [putAll, Act.put, List.setIfInBounds_toArray, List.set_cons_zero, List.set_cons_succ]) (hCont (v641) _ ⟨hHeld, (rq_ HO618.out), (rq_ HO642.out), (bq_ BK613.out), (bq_ BK621.out), (is_l1Cur_ HI0.out), (hk_ HK.out), (hi_ HB.out)⟩)
      ·
       skip
       refine Kd.R_lit_step Kd.string _ 9 ?hg (N := 27) ?hd (xs := ([(⟨#[97]⟩ : ByteArray), (⟨#[65]⟩ : ByteArray)] : List ByteArray)) (inner := [.string (⟨#[97]⟩ : ByteArray), .string (⟨#[65]⟩ : ByteArray)]) (ok := fun _ => True) (okp := fun _ => True) ?hr ?hp (fun _ hk => hk) trivial (Below.refl _ _) (Nat.le_refl _) (by simp) ?_; (case hd => rfl); (case hg => rfl); (case hr => first | (go_simp; done) | (go_simp; rfl)); (case hp => exact (Reps.one (show Kd.M Kd.string _ _ _ (⟨#[97]⟩ : ByteArray) [.string (⟨#[97]⟩ : ByteArray)] from rfl) (Reps.one (show Kd.M Kd.string _ _ _ (⟨#[65]⟩ : ByteArray) [.string (⟨#[65]⟩ : ByteArray)] from rfl) (Reps.none _ _))))
       intro v641 w51 ho52 hb hg_ hnew_
       clear hg_ hnew_
       (first | rw [← Ny640.out] at ho52 | (simp only [Int.reduceToNat] at ho52; rw [← Ny640.out] at ho52))
       have n0_ := Aside0.mk (Kd.R_below (rq_ HO618.out) hb)
       have n1_ := Aside0.mk (Kd.R_lower ho52 (keep_size (w := w) (g := g) (row := none) (hk_ HK.out)))
       have n2_ := Aside0.mk (IsS_l1Cur.below (is_l1Cur_ HI0.out) hb)
       have n3_ := Aside0.mk (bb_ BK613.out hb)
       have n4_ := Aside0.mk (bb_ BK621.out hb)
       have n5_ := Aside0.mk (KeepBut.trans (hk_ HK.out) (KeepBut.of_below hb g none) (.inl rfl))
       have n6_ := Aside0.mk (below_step (hi_ HB.out) hb)
       clear HO618; clear HI0
       clear BK613; clear BK621
       clear HK; clear HB
       have HO618 := n0_
       have HO642 := n1_
       have HI0 := n2_
       have BK613 := n3_
       have BK621 := n4_
       have HK := n5_
       have HB := n6_
       clear n0_ n1_ n2_ n3_ n4_ n5_ n6_; clear hb ho52
       refine hK.out _ _ ⟨bc_ BK621 0, bc_ BK621 1, bc_ BK621 2⟩ (fun hHeld => ?_)
       clear hK K
       refine nm_ ?_
       refine on_ 3 25 HT_ spec_l3Draw.m0 rfl rfl (fun K hK => ?_)
       refine goes_ Try.func79 (by kernel_rfl) rfl #[.pointer (some ⟨g, 0, none⟩), .int .i64 20] (by rfl) rfl rfl sm_ ?_
       with_reducible refine (spec_l1Below.calls g s0_0 t623 t624 20 t637 t638 t639 w0 _ ?side1 ?side2 A39.out).mono ?_
       (case side1 => repeat (first | (with_reducible first | exact HI0.out | apply IsS_l1Cur.alloc | apply IsS_l1Cur.drewN | apply IsS_l1Cur.drew | apply IsS_l1Cur.set_1 | apply IsS_l1Cur.set_2 | refine IsS_l1Cur.far ?_ NB0_613.out _ | refine IsS_l1Cur.far ?_ NB0_621.out _) | exact HI0.out))
       (case side2 => repeat (first | (with_reducible first | exact HB.out | apply below_alloc | apply pw_below_drewN | apply below_drew1 | refine below_set ?_ (IsS_l1Cur.ge HI0.out) | refine below_set ?_ GE613.out | refine below_set ?_ GE621.out) | exact HB.out))
       rintro e w53 ⟨rfl, hi, hb, hk⟩
       refine ⟨_, rfl, ?_⟩
       have n0_ := Aside0.mk (KeepBut.blk hk (g' := gb613) (o := .cells #[.int .i64 0, .int .i64 0, .slice none 0 0] 48 (0, 0)) (bq_ BK613.out) NB613_0.out (by simp))
       have n1_ := Aside0.mk (Kd.R_mono (Kd.R_keep (IsS_l1Cur.apart (show IsS_l1Cur w0 _ g s0_0 t623 t624 from is_l1Cur_ HI0.out) (rq_ HO618.out) (by decide)) hk (fun _ h => h.2)) (fun _ h => h.1))
       have n2_ := Aside0.mk (KeepBut.blk hk (g' := gb621) (o := .cells #[.int .i64 t614, .int .i64 t615, .slice Ao48 t616.length co48] 48 (0, 0)) (bq_ BK621.out) NB621_0.out (by simp))
       have n3_ := Aside0.mk (Kd.R_mono (Kd.R_keep (IsS_l1Cur.apart (show IsS_l1Cur w0 _ g s0_0 t623 t624 from is_l1Cur_ HI0.out) (rq_ HO642.out) (by decide)) hk (fun _ h => h.2)) (fun _ h => h.1))
       have n4_ := Aside0.mk (KeepBut.trans (hk_ HK.out) hk (.inl rfl))
       have n5_ := Aside0.mk (hb)
       have n6_ := Aside0.mk (hi)
       clear BK613; clear HO618
       clear BK621; clear HO642
       clear HK; clear HB
       clear HI0
       have BK613 := n0_
       have HO618 := n1_
       have BK621 := n2_
       have HO642 := n3_
       have HK := n4_
       have HB := n5_
       have HI0 := n6_
       clear n0_ n1_ n2_ n3_ n4_ n5_ n6_
       (try clear hb)
       (try clear hb2)
       (try clear hk)
       (try clear hi)
       refine hK.out _ _ ⟨bc_ BK621 0, bc_ BK621 1, bc_ BK621 2⟩ (fun hHeld => ?_)
       clear hK K
       refine nm_ ?_
       exact norm_ (by simp only [putAll, Act.put, List.setIfInBounds_toArray, List.set_cons_zero, List.set_cons_succ]) (hCont (v641) _ ⟨hHeld, (rq_ HO618.out), (rq_ HO642.out), (bq_ BK613.out), (bq_ BK621.out), (is_l1Cur_ HI0.out), (hk_ HK.out), (hi_ HB.out)⟩)
     rintro v641 w54 ⟨hS_, h0_, h1_, h2_, h3_, h4_, h5_, h6_⟩
     have n0_ : Aside0 (Kd.R k_Item 55 w54 w.heap.size (fun _ => True) (.slice Ao48 t616.length co48) t616) := ⟨h0_⟩
     have n1_ : Aside0 (Kd.R Kd.string 9 w54 w.heap.size (fun _ => True) v641 y640) := ⟨h1_⟩
     have n2_ : Aside0 (w54.heap[gb613]? = some (.cells #[.int .i64 0, .int .i64 0, .slice none 0 0] 48 (0, 0))) := ⟨h2_⟩
     have n3_ : Aside0 (w54.heap[gb621]? = some (.cells #[.int .i64 t614, .int .i64 t615, .slice Ao48 t616.length co48] 48 (0, 0))) := ⟨h3_⟩
     have n4_ : Aside0 (IsS_l1Cur w0 w54 g s0_0 t638 t639) := ⟨h4_⟩
     have n5_ : Aside0 (KeepBut w w54 g none) := ⟨h5_⟩
     have n6_ : Aside0 (Below w0.heap.size w0 w54) := ⟨h6_⟩
     clear HO618; clear BK613
     clear BK621; clear HI0
     clear HK; clear HB
     clear h0_ h1_ h2_ h3_ h4_ h5_ h6_
     have HO618 := n0_
     have HO642 := n1_
     have BK613 := n2_
     have BK621 := n3_
     have HI0 := n4_
     have HK := n5_
     have HB := n6_
     clear n0_ n1_ n2_ n3_ n4_ n5_ n6_
     have hHeld : w54.cell? ⟨gb621, 0, none⟩ = some (.int .i64 t614) ∧ w54.cell? ⟨gb621, 1, none⟩ = some (.int .i64 t615) ∧ w54.cell? ⟨gb621, 2, none⟩ = some (.slice Ao48 t616.length co48) := hS_
     obtain ⟨Ao55, co55, eo55⟩ := Kd.R_slice HO642.out
     (first | subst eo55 | (injection eo55 with f1_ f2_ f3_; have f4_ := f1_.symm; have f5_ := f3_.symm; clear f1_ f2_ f3_; subst f4_; subst f5_))
     refine norm_ (a' := ?_) ?_ ?_
     rotate_left; (focus simp only [putAll, Act.put, List.setIfInBounds_toArray, List.set_cons_zero, List.set_cons_succ]; rfl)
     refine on_ 6 28 HT_ #[true, true, true, true, true, true, true, false, false, false, false, false] rfl rfl (fun K hK => ?_)
     refine goes_ Try.func80 (by kernel_rfl) rfl #[.pointer (some ⟨g, 0, none⟩), .slice Ao55 y640.length co55] (by rfl) rfl rfl sm_ ?_
     with_reducible refine (spec_l1Pick.calls g s0_0 t638 t639 _ _ y640 t643 t644 t645 w0 _ ?side1 ?side2 ?side3 ?side4 ?side5 A40.out).mono ?_
     (case side1 => repeat (first | (with_reducible first | exact HI0.out | apply IsS_l1Cur.alloc | apply IsS_l1Cur.drewN | apply IsS_l1Cur.drew | apply IsS_l1Cur.set_1 | apply IsS_l1Cur.set_2 | refine IsS_l1Cur.far ?_ NB0_613.out _ | refine IsS_l1Cur.far ?_ NB0_621.out _) | exact HI0.out))
     (case side2 => repeat (first | (with_reducible first | exact HB.out | apply below_alloc | apply pw_below_drewN | apply below_drew1 | refine below_set ?_ (IsS_l1Cur.ge HI0.out) | refine below_set ?_ GE613.out | refine below_set ?_ GE621.out) | exact HB.out))
     (case side3 => repeat (first | exact (Kd.R_reads' HO642.out).2.2 | (with_reducible refine Kd.C_alloc ?_ _) | (with_reducible refine Kd.C_drewN ?_ _) | (with_reducible refine Kd.C_drew ?_)))
     (case side4 => exact (Kd.R_reads' HO642.out).2.1)
     (case side5 => exact far_slice (IsS_l1Cur.own_ne HI0.out HO642.out (by decide)))
     rintro e w56 ⟨rfl, hi, hb, hk⟩
     refine ⟨_, rfl, ?_⟩
     have n0_ := Aside0.mk (KeepBut.blk hk (g' := gb613) (o := .cells #[.int .i64 0, .int .i64 0, .slice none 0 0] 48 (0, 0)) (bq_ BK613.out) NB613_0.out (by simp))
     have n1_ := Aside0.mk (Kd.R_mono (Kd.R_keep (IsS_l1Cur.apart (show IsS_l1Cur w0 _ g s0_0 t638 t639 from is_l1Cur_ HI0.out) (rq_ HO618.out) (by decide)) hk (fun _ h => h.2)) (fun _ h => h.1))
     have n2_ := Aside0.mk (KeepBut.blk hk (g' := gb621) (o := .cells #[.int .i64 t614, .int .i64 t615, .slice Ao48 t616.length co48] 48 (0, 0)) (bq_ BK621.out) NB621_0.out (by simp))
     have n3_ := Aside0.mk (Kd.R_mono (Kd.R_keep (IsS_l1Cur.apart (show IsS_l1Cur w0 _ g s0_0 t638 t639 from is_l1Cur_ HI0.out) (rq_ HO642.out) (by decide)) hk (fun _ h => h.2)) (fun _ h => h.1))
     have n4_ := Aside0.mk (KeepBut.trans (hk_ HK.out) hk (.inl rfl))
     have n5_ := Aside0.mk (hb)
     have n6_ := Aside0.mk (hi)
     clear BK613; clear HO618
     clear BK621; clear HO642
     clear HK; clear HB
     clear HI0
     have BK613 := n0_
     have HO618 := n1_
     have BK621 := n2_
     have HO642 := n3_
     have HK := n4_
     have HB := n5_
     have HI0 := n6_
     clear n0_ n1_ n2_ n3_ n4_ n5_ n6_
     (try clear hb)
     (try clear hb2)
     (try clear hk)
     (try clear hi)
     refine hK.out _ _ ⟨bc_ BK621 0, bc_ BK621 1, bc_ BK621 2⟩ (fun hHeld => ?_)
     clear hK K
     refine nm_ ?_
     refine pI_ 7 29 HT_ #[true, true, true, true, true, true, true, true, false, false, false, false] rfl rfl ?_
     refine on_ 8 30 HT_ #[true, true, true, true, true, true, true, true, true, false, false, false] rfl rfl (fun K hK => ?_)
     refine value_ (w1 := ?_) (v := ?_) (by rfl) rfl ?_ ?_
     rotate_left 2
     ·
      go_simp
      constructor
      ·
       rfl
      ·
       rfl
     refine hK.out _ _ ⟨(blk_cell (blk_alloc BK621.out _) 0).trans rfl, (blk_cell (blk_alloc BK621.out _) 1).trans rfl, (blk_cell (blk_alloc BK621.out _) 2).trans rfl⟩ (fun hHeld => ?_)
     clear hK K
     refine nm_ ?_
     refine on_ 9 31 HT_ #[true, true, true, true, true, true, true, true, true, true, false, false] rfl rfl (fun K hK => ?_)
     refine Kd.R_append_step k_Item w.heap.size (by rfl) (.tmp 23) (.tmp 30) 46 55 (.agg #[(.int .i64 0), (.string ⟨#[]⟩), (.string ⟨#[]⟩), (.int .i64 0), (.int .i64 0)]) 56 rfl Try.underlying46 info55 rfl (by decide) (by omega) (.slice Ao48 t616.length co48) t616 (⟨t637, t643, (⟨#[]⟩ : ByteArray), 0, 0⟩ : S_Item) [.int .i64 t637, .string t643, .string (⟨#[]⟩ : ByteArray), .int .i64 0, .int .i64 0] (fun _ => True) (fun _ => False) rfl rfl ?aP (fun _ hk => hk.elim) ?aF ?aO (Below.refl _ _) ?aS ?aL ?_
     (case aP => exact k_Item_mkM _ _ _ (⟨t637, t643, (⟨#[]⟩ : ByteArray), 0, 0⟩ : S_Item))
     (case aF => exact (fun _ _ => trivial))
     (case aO => exact (rq_ HO618.out))
     (case aS => exact (keep_size (w := w) (g := g) (row := none) (hk_ HK.out)))
     (case aL => have := LMc41.out; omega)
     intro v647 w57 ho hb hg hat
     rw [← Ny646.out] at ho
     have n0_ := Aside0.mk (IsS_l1Cur.grown (is_l1Cur_ HI0.out) hg (IsS_l1Cur.own_ne HI0.out HO618.out (by decide)))
     have n1_ := Aside0.mk (blk_grown (g := gb613) (o := .cells #[.int .i64 0, .int .i64 0, .slice none 0 0] 48 (0, 0)) (bq_ BK613.out) hg (Kd.R_ne HO618.out BK613.out (by decide)))
     have n2_ := Aside0.mk (blk_grown (g := gb621) (o := .cells #[.int .i64 t614, .int .i64 t615, .slice Ao48 t616.length co48] 48 (0, 0)) (bq_ BK621.out) hg (Kd.R_ne HO618.out BK621.out (by decide)))
     have n3_ := Aside0.mk (Kd.R_over' (rq_ HO642.out) (Kd.R_typed (rq_ HO618.out)) (by decide) hg)
     have n4_ := Aside0.mk (below_weaken (hi_ HB.out) HL.out hb)
     have n5_ := Aside0.mk (KeepBut.trans (hk_ HK.out) (KeepBut.of_grown hg g) (Kd.R_base2 HO618.out))
     have n6_ := Aside0.mk (ho)
     clear HI0; clear BK613
     clear BK621; clear HO642
     clear HB; clear HK
     clear HO618
     have HI0 := n0_
     have BK613 := n1_
     have BK621 := n2_
     have HO642 := n3_
     have HB := n4_
     have HK := n5_
     have HO648 := n6_
     clear n0_ n1_ n2_ n3_ n4_ n5_ n6_; clear ho hb hg hat
     obtain ⟨Ao58, co58, eo58⟩ := Kd.R_slice HO648.out
     (first | subst eo58 | (injection eo58 with f1_ f2_ f3_; have f4_ := f1_.symm; have f5_ := f3_.symm; clear f1_ f2_ f3_; subst f4_; subst f5_))
     refine hK.out _ _ ⟨bc_ BK621 0, bc_ BK621 1, bc_ BK621 2⟩ (fun hHeld => ?_)
     clear hK K
     refine nm_ ?_
     refine pI_ 10 32 HT_ #[true, true, true, true, true, true, true, true, true, true, true, false] rfl rfl ?_
     refine last_ (i := 11) (N := none) #[true, true, true, true, true, true, true, true, true, true, true, true] rfl rfl (one_of HT_.out (by kernel_rfl)) (by decide) (fun K hK => ?_)
     have hs59 : w57.cell? ⟨gb621, 2, none⟩ = some (.slice Ao48 t616.length co48) := bc_ BK621 2
     have hfs59 := blk_frozen BK621.out 2
     have hns59_0 := NB613_621.out
     have hms59_0 := NB621_613.out
     refine skip_ (w1 := ?_) (by rfl) rfl ?_ ?_
     rotate_left; (focus go_simp; rfl)
     refine hK.out _ _ ?_
     clear hK K
     refine done_ (done_of HT_.out (by kernel_rfl)) ?_
     have hcz60_0 : w57.cell? ⟨gb621, 0, none⟩ = some (.int .i64 t614) := bc_ BK621 0
     have hcz60_1 : w57.cell? ⟨gb621, 1, none⟩ = some (.int .i64 t615) := bc_ BK621 1
     have hcz60_2 : w57.cell? ⟨gb621, 2, none⟩ = some (.slice Ao48 t616.length co48) := bc_ BK621 2
     have hfz60_0 := blk_frozen BK621.out 0
     have hfz60_1 := blk_frozen BK621.out 1
     have hfz60_2 := blk_frozen BK621.out 2
     have hnb61 := NB613_0.out
     have hnc61 := NB0_613.out
     have hcz62_0 : w57.cell? ⟨gb613, 0, none⟩ = some (.int .i64 0) := bc_ BK613 0
     have hcz62_1 : w57.cell? ⟨gb613, 1, none⟩ = some (.int .i64 0) := bc_ BK613 1
     have hcz62_2 : w57.cell? ⟨gb613, 2, none⟩ = some (.slice none 0 0) := bc_ BK613 2
     have hfz62_0 := blk_frozen BK613.out 0
     have hfz62_1 := blk_frozen BK613.out 1
     have hfz62_2 := blk_frozen BK613.out 2
     try go_wp2
     refine bodyPost_ret (results_cell_row rfl _ _ gb613 48 #[.int .i64 t614, .int .i64 t615, .slice Ao58 y646.length co58] (0, 0) _ rfl (by_ BK613.out) Try.underlying48 rfl (by kernel_rfl)) rfl ?_
     exact ⟨_, er_, by (with_reducible repeat (first | apply Kd.R_alloc | apply Kd.R_drewN | apply Kd.R_drew)); exact Kd.R_mono (Kd.R_far (p := ⟨gb613, 2, none⟩) (Kd.R_far (p := ⟨gb613, 1, none⟩) (Kd.R_far (p := ⟨gb613, 0, none⟩) (Kd.R_far (p := ⟨gb621, 2, none⟩) (Kd.R_types (Kd.R_types HO648.out BK621.out (by decide)) BK613.out (by decide)) (fun _ hk => hk.1.2) (.slice Ao58 y646.length co58)) (fun _ hk => hk.2) (.int .i64 t614)) (fun _ hk => hk.2) (.int .i64 t615)) (fun _ hk => hk.2) (.slice Ao58 y646.length co58)) (fun _ hk => trivial), is_l1Cur_ HI0.out, qe0_, qe1_⟩
    ·
     rw [if_neg c41] at H
     exact absurd H (by simp)
   ·
    rw [if_neg c38] at H
    have c38b0 : (t622 == 2) = false := beq_eq_false_iff_ne.mpr c38
    have c38b1 : (t622 != 2) = true := bne_iff_ne.mpr c38
    by_cases c63 : t622 = 3
    ·
     rw [if_pos c63] at H
     have c63b0 : (t622 == 3) = true := beq_iff_eq.mpr c63
     have c63b1 : (t622 != 3) = false := bne_eq_false_iff_eq.mpr c63
     clear c63
     have H' := Aside0.mk H
     clear H
     go_enter Try.func63, Try.ntmps63
     go_wp2_with (first | ((with_reducible refine gate_dst (N := 2) rfl ?_); refine box_event ?hg (N := 2) ?hd (cs := #[.int .i64 0, .int .i64 0, .slice none 0 0]) (t := 48) ?hr ?_; (case hd => rfl); (case hg => rfl); (case hr => first | (go_simp; done) | (go_simp; rfl)); intro gb613 hg w64 hbox hb; have n0_ := Aside0.mk (IsS_l1Cur.below (is_l1Cur_ HI0.out) hb); have n1_ := Aside0.mk (KeepBut.trans (hk_ HK.out) (KeepBut.of_below hb g none) (.inl rfl)); have n2_ := Aside0.mk (below_step (hi_ HB.out) hb); have n3_ := Aside0.mk (hbox); have n4_ := Aside0.mk ((by rw [hg]; exact (keep_size (w := w) (g := g) (row := none) (hk_ HK.out)) : w.heap.size ≤ gb613)); have n5_ := Aside0.mk ((Nat.le_trans HW0.out (by rw [hg]; exact (keep_size (w := w) (g := g) (row := none) (hk_ HK.out)) : w.heap.size ≤ gb613) : w0.heap.size ≤ gb613)); have n6_ := Aside0.mk ((by rw [hg]; exact Nat.ne_of_lt (IsS_l1Cur.lt (show IsS_l1Cur w0 _ g s0_0 s0_1 s0_2 from is_l1Cur_ HI0.out)) : g ≠ gb613)); have n7_ := Aside0.mk ((by rw [hg]; exact Nat.ne_of_gt (IsS_l1Cur.lt (show IsS_l1Cur w0 _ g s0_0 s0_1 s0_2 from is_l1Cur_ HI0.out)) : gb613 ≠ g)); clear HI0; clear HK; clear HB; have HI0 := n0_; have HK := n1_; have HB := n2_; have BK613 := n3_; have GW613 := n4_; have GE613 := n5_; have NB0_613 := n6_; have NB613_0 := n7_; clear n0_ n1_ n2_ n3_ n4_ n5_ n6_ n7_; clear hb hbox hg) | ((with_reducible refine gate_callee (f := 78) rfl ?_); refine goesL_ (some 5) rfl rfl Try.func78 (by kernel_rfl) rfl #[.pointer (some ⟨g, 0, none⟩)] rfl sm_ ?_; (with_reducible refine (spec_l3DrawRight.calls k g s0_0 s0_1 s0_2 t614 t615 t616 t619 t620 w0 _ ?side1 ?side2 A2.out).mono ?_); (case side1 => repeat (first | (with_reducible first | exact HI0.out | apply IsS_l1Cur.alloc | apply IsS_l1Cur.drewN | apply IsS_l1Cur.drew | apply IsS_l1Cur.set_1 | apply IsS_l1Cur.set_2 | refine IsS_l1Cur.far ?_ NB0_613.out _) | exact HI0.out)); (case side2 => repeat (first | (with_reducible first | exact HB.out | apply below_alloc | apply pw_below_drewN | apply below_drew1 | refine below_set ?_ (IsS_l1Cur.ge HI0.out) | refine below_set ?_ GE613.out) | exact HB.out)); rintro e w65 ⟨v617, rfl, ho0, hi, hb, hk⟩; refine ⟨_, rfl, ?_⟩; have n0_ := Aside0.mk (KeepBut.blk hk (g' := gb613) (o := .cells #[.int .i64 0, .int .i64 0, .slice none 0 0] 48 (0, 0)) (bq_ BK613.out) NB613_0.out (by simp)); have n1_ := Aside0.mk (Kd.R_lower ho0 (keep_size (w := w) (g := g) (row := none) (hk_ HK.out))); have n2_ := Aside0.mk (KeepBut.trans (hk_ HK.out) hk (.inl rfl)); have n3_ := Aside0.mk (hb); have n4_ := Aside0.mk (hi); clear BK613; clear HK; clear HB; clear HI0; have BK613 := n0_; have HO618 := n1_; have HK := n2_; have HB := n3_; have HI0 := n4_; clear n0_ n1_ n2_ n3_ n4_; (try clear hb); (try clear hb2); (try clear hk); (try clear hi); (try clear ho0)) | ((with_reducible refine gate_dst (N := 3) rfl ?_); refine box_event ?hg (N := 3) ?hd (cs := #[.int .i64 0, .int .i64 0, .slice none 0 0]) (t := 48) ?hr ?_; (case hd => rfl); (case hg => rfl); (case hr => first | (go_simp; done) | (go_simp; rfl)); intro gb621 hg w66 hbox hb; have n0_ := Aside0.mk (Kd.R_below (rq_ HO618.out) hb); have n1_ := Aside0.mk (IsS_l1Cur.below (is_l1Cur_ HI0.out) hb); have n2_ := Aside0.mk (bb_ BK613.out hb); have n3_ := Aside0.mk (KeepBut.trans (hk_ HK.out) (KeepBut.of_below hb g none) (.inl rfl)); have n4_ := Aside0.mk (below_step (hi_ HB.out) hb); have n5_ := Aside0.mk (hbox); have n6_ := Aside0.mk ((by rw [hg]; exact (keep_size (w := w) (g := g) (row := none) (hk_ HK.out)) : w.heap.size ≤ gb621)); have n7_ := Aside0.mk ((Nat.le_trans HW0.out (by rw [hg]; exact (keep_size (w := w) (g := g) (row := none) (hk_ HK.out)) : w.heap.size ≤ gb621) : w0.heap.size ≤ gb621)); have n8_ := Aside0.mk ((nl_ BK613.out hg : gb613 ≠ gb621)); have n9_ := Aside0.mk ((ng_ BK613.out hg : gb621 ≠ gb613)); have n10_ := Aside0.mk ((by rw [hg]; exact Nat.ne_of_lt (IsS_l1Cur.lt (show IsS_l1Cur w0 _ g s0_0 t619 t620 from is_l1Cur_ HI0.out)) : g ≠ gb621)); have n11_ := Aside0.mk ((by rw [hg]; exact Nat.ne_of_gt (IsS_l1Cur.lt (show IsS_l1Cur w0 _ g s0_0 t619 t620 from is_l1Cur_ HI0.out)) : gb621 ≠ g)); clear HO618; clear HI0; clear BK613; clear HK; clear HB; have HO618 := n0_; have HI0 := n1_; have BK613 := n2_; have HK := n3_; have HB := n4_; have BK621 := n5_; have GW621 := n6_; have GE621 := n7_; have NB613_621 := n8_; have NB621_613 := n9_; have NB0_621 := n10_; have NB621_0 := n11_; clear n0_ n1_ n2_ n3_ n4_ n5_ n6_ n7_ n8_ n9_ n10_ n11_; clear hb hbox hg; have hnb67 := NB621_613.out; have hnc67 := NB613_621.out; have hnb68 := NB621_0.out; have hnc68 := NB0_621.out; have hcz69_0 : w66.cell? ⟨gb621, 0, none⟩ = some (.int .i64 0) := bc_ BK621 0; have hcz69_1 : w66.cell? ⟨gb621, 1, none⟩ = some (.int .i64 0) := bc_ BK621 1; have hcz69_2 : w66.cell? ⟨gb621, 2, none⟩ = some (.slice none 0 0) := bc_ BK621 2; have hfz69_0 := blk_frozen BK621.out 0; have hfz69_1 := blk_frozen BK621.out 1; have hfz69_2 := blk_frozen BK621.out 2; obtain ⟨Ao70, co70, eo70⟩ := Kd.R_slice HO618.out; subst eo70) | ((with_reducible refine gate_callee (f := 79) rfl ?_); refine goesL_ (some 7) rfl rfl Try.func79 (by kernel_rfl) rfl #[.pointer (some ⟨g, 0, none⟩), .int .i64 14] rfl sm_ ?_; (with_reducible refine (spec_l1Below.calls g s0_0 t619 t620 14 t622 t623 t624 w0 _ ?side1 ?side2 A3.out).mono ?_); (case side1 => repeat (first | (with_reducible first | exact HI0.out | apply IsS_l1Cur.alloc | apply IsS_l1Cur.drewN | apply IsS_l1Cur.drew | apply IsS_l1Cur.set_1 | apply IsS_l1Cur.set_2 | refine IsS_l1Cur.far ?_ NB0_613.out _ | refine IsS_l1Cur.far ?_ NB0_621.out _) | exact HI0.out)); (case side2 => repeat (first | (with_reducible first | exact HB.out | apply below_alloc | apply pw_below_drewN | apply below_drew1 | refine below_set ?_ (IsS_l1Cur.ge HI0.out) | refine below_set ?_ GE613.out | refine below_set ?_ GE621.out) | exact HB.out)); rintro e w71 ⟨rfl, hi, hb, hk⟩; refine ⟨_, rfl, ?_⟩; have n0_ := Aside0.mk (KeepBut.blk hk (g' := gb613) (o := .cells #[.int .i64 0, .int .i64 0, .slice none 0 0] 48 (0, 0)) (bf_ NB613_621.out BK613.out) NB613_0.out (by simp)); have n1_ := Aside0.mk (Kd.R_mono (Kd.R_keep (IsS_l1Cur.apart (show IsS_l1Cur w0 _ g s0_0 t619 t620 from is_l1Cur_ HI0.out) (rk_ HO618.out BK621.out) (by decide)) hk (fun _ h => h.2)) (fun _ h => h.1)); have n2_ := Aside0.mk (KeepBut.blk hk (g' := gb621) (o := .cells #[.int .i64 t614, .int .i64 t615, .slice Ao70 t616.length co70] 48 (0, 0)) (bp_ BK621.out) NB621_0.out (by simp)); have n3_ := Aside0.mk (KeepBut.trans (hk_ HK.out) hk (.inl rfl)); have n4_ := Aside0.mk (hb); have n5_ := Aside0.mk (hi); clear BK613; clear HO618; clear BK621; clear HK; clear HB; clear HI0; have BK613 := n0_; have HO618 := n1_; have BK621 := n2_; have HK := n3_; have HB := n4_; have HI0 := n5_; clear n0_ n1_ n2_ n3_ n4_ n5_; (try clear hb); (try clear hb2); (try clear hk); (try clear hi)))
     go_loopg [] k (fun kq w' => ∃ (x622000_1 : Int) (x622001_1 : Int) (x622002_1 : List (S_Item)) (u622002 : Value), Aside0 (spec_l3Draw.l0 kq s0_0 t623 t624 x622000_1 x622001_1 x622002_1 = some (r1, r2, r3, r4, r5)) ∧ Aside0 (kq ≤ k) ∧ Aside0 (Kd.R k_Item 55 w' w.heap.size (fun _ => True) u622002 x622002_1) ∧ Aside0 (w'.heap[gb613]? = some (.cells #[.int .i64 0, .int .i64 0, (.slice none 0 0)] 48 (0, 0))) ∧ Aside0 (w'.heap[gb621]? = some (.cells #[.int .i64 x622000_1, .int .i64 x622001_1, u622002] 48 (0, 0))) ∧ Aside0 (IsS_l1Cur w0 w' g s0_0 t623 t624) ∧ Aside0 (KeepBut w w' g none) ∧ Aside0 (Below w0.heap.size w0 w'))
     case atStart => exact ⟨(t614), (t615), (t616), (.slice Ao70 t616.length co70), H', ⟨Nat.le_refl _⟩, ⟨rq_ HO618.out⟩, ⟨bq_ BK613.out⟩, ⟨bq_ BK621.out⟩, ⟨is_l1Cur_ HI0.out⟩, ⟨qe1_⟩, ⟨qe0_⟩⟩
     case round =>
      clear H'
      (try clear c1); (try clear c2); (try clear p2); (try clear c3); (try clear c4); (try clear c4b0); (try clear c4b1); (try clear c6); (try clear c7); (try clear c8); (try clear c9); (try clear c10); (try clear c19); (try clear c21); (try clear c21b0); (try clear c21b1); (try clear c26); (try clear c27); (try clear c36); (try clear c38); (try clear c38b0); (try clear c38b1); (try clear c41); (try clear c45); (try clear c46); (try clear c61); (try clear c63); (try clear c63b0); (try clear c63b1); (try clear c64); (try clear c67); (try clear c68); (try clear hcz11_0); (try clear hcz11_1); (try clear hcz11_2); (try clear hcz18_0); (try clear hcz18_1); (try clear hcz18_2); (try clear hcz20_0); (try clear hcz20_1); (try clear hcz20_2); (try clear hcz28_0); (try clear hcz28_1); (try clear hcz28_2); (try clear hcz35_0); (try clear hcz35_1); (try clear hcz35_2); (try clear hcz37_0); (try clear hcz37_1); (try clear hcz37_2); (try clear hcz47_0); (try clear hcz47_1); (try clear hcz47_2); (try clear hcz60_0); (try clear hcz60_1); (try clear hcz60_2); (try clear hcz62_0); (try clear hcz62_1); (try clear hcz62_2); (try clear hcz69_0); (try clear hcz69_1); (try clear hcz69_2); (try clear hfz11_0); (try clear hfz11_1); (try clear hfz11_2); (try clear hfz18_0); (try clear hfz18_1); (try clear hfz18_2); (try clear hfz20_0); (try clear hfz20_1); (try clear hfz20_2); (try clear hfz28_0); (try clear hfz28_1); (try clear hfz28_2); (try clear hfz35_0); (try clear hfz35_1); (try clear hfz35_2); (try clear hfz37_0); (try clear hfz37_1); (try clear hfz37_2); (try clear hfz47_0); (try clear hfz47_1); (try clear hfz47_2); (try clear hfz60_0); (try clear hfz60_1); (try clear hfz60_2); (try clear hfz62_0); (try clear hfz62_1); (try clear hfz62_2); (try clear hfz69_0); (try clear hfz69_1); (try clear hfz69_2)
      obtain ⟨x622000_1, x622001_1, x622002_1, u622002, HA, HK1, HO_622002, BK613, BK621, HI0, HK, HB⟩ := hrel
      cases gk with
      | zero => exact absurd HA.out (by simp [spec_l3Draw.l0])
      | succ k1 =>
       have H := HA.out
       clear HA
       simp only [spec_l3Draw.l0] at H
       by_cases c72 : (x622002_1.length : Int) < 80
       ·
        rw [if_pos c72] at H
        have c72b0 : decide ((x622002_1.length : Int) < 80) = true := decide_eq_true c72
        have c72b1 : decide (x622002_1.length < 80) = true := decide_eq_true (by omega)
        clear c72
        replace H := Option.bind_eq_some_iff.mp H
        obtain ⟨⟨t649, t650, t651, t654, t655⟩, A730, H⟩ := H
        replace H : (spec_l3Draw.l0 k1 s0_0 t623 t624 t649 t650 t651) = some (r1, r2, r3, r4, r5) := H
        have A73 := Aside0.mk A730
        clear A730
        have H' := Aside0.mk H
        clear H
        have hnb74 := NB621_613.out
        have hnc74 := NB613_621.out
        have hnb75 := NB621_0.out
        have hnc75 := NB0_621.out
        have hcz76_0 : wr.cell? ⟨gb621, 0, none⟩ = some (.int .i64 x622000_1) := bc_ BK621 0
        have hcz76_1 : wr.cell? ⟨gb621, 1, none⟩ = some (.int .i64 x622001_1) := bc_ BK621 1
        have hcz76_2 : wr.cell? ⟨gb621, 2, none⟩ = some (u622002) := bc_ BK621 2
        have hfz76_0 := blk_frozen BK621.out 0
        have hfz76_1 := blk_frozen BK621.out 1
        have hfz76_2 := blk_frozen BK621.out 2
        obtain ⟨Ao77, co77, eo77⟩ := Kd.R_slice HO_622002.out
        subst eo77
        go_wp2_with (first | ((with_reducible refine gate_callee (f := 81) rfl ?_); refine goesL_ (some 41) rfl rfl Try.func81 (by kernel_rfl) rfl #[.agg #[.int .i64 x622000_1, .int .i64 x622001_1, .slice Ao77 x622002_1.length co77], .string (⟨#[]⟩ : ByteArray), .string (⟨#[]⟩ : ByteArray), .int .i64 0, .int .i64 0] rfl sm_ ?_; (with_reducible refine (spec_RowPut.calls k1 x622000_1 x622001_1 _ _ x622002_1 (⟨#[]⟩ : ByteArray) (⟨#[]⟩ : ByteArray) 0 0 t649 t650 t651 t654 t655 _ ?side1 ?side2 A73.out).mono ?_); (case side1 => repeat (first | exact (Kd.R_reads' HO_622002.out).2.2 | (with_reducible refine Kd.C_alloc ?_ _) | (with_reducible refine Kd.C_drewN ?_ _) | (with_reducible refine Kd.C_drew ?_))); (case side2 => exact (Kd.R_reads' HO_622002.out).2.1); rintro e w78 ⟨v652, rfl, ho0, hb⟩; refine ⟨_, rfl, ?_⟩; have n0_ := Aside0.mk (Kd.R_elder' (rq_ HO_622002.out) (Kd.R_base ho0) hb); have n1_ := Aside0.mk (Kd.R_lower (Kd.R_new' ho0 (Kd.R_lt (rq_ HO_622002.out))) (keep_size (w := w) (g := g) (row := none) (hk_ HK.out))); have n2_ := Aside0.mk (bb_ BK613.out hb); have n3_ := Aside0.mk (bb_ BK621.out hb); have n4_ := Aside0.mk (IsS_l1Cur.below (is_l1Cur_ HI0.out) hb); have n5_ := Aside0.mk (KeepBut.trans (hk_ HK.out) (KeepBut.of_below hb g none) (.inl rfl)); have n6_ := Aside0.mk (below_step (hi_ HB.out) hb); clear HO_622002; clear BK613; clear BK621; clear HI0; clear HK; clear HB; have HO_622002 := n0_; have HO653 := n1_; have BK613 := n2_; have BK621 := n3_; have HI0 := n4_; have HK := n5_; have HB := n6_; clear n0_ n1_ n2_ n3_ n4_ n5_ n6_; (try clear hb); (try clear hb2); (try clear hk); (try clear hi); (try clear ho0); have hcz79_0 : w78.cell? ⟨gb621, 0, none⟩ = some (.int .i64 x622000_1) := bc_ BK621 0; have hcz79_1 : w78.cell? ⟨gb621, 1, none⟩ = some (.int .i64 x622001_1) := bc_ BK621 1; have hcz79_2 : w78.cell? ⟨gb621, 2, none⟩ = some (.slice Ao77 x622002_1.length co77) := bc_ BK621 2; have hfz79_0 := blk_frozen BK621.out 0; have hfz79_1 := blk_frozen BK621.out 1; have hfz79_2 := blk_frozen BK621.out 2; obtain ⟨Ao80, co80, eo80⟩ := Kd.R_slice HO653.out; subst eo80))
        go_roundg k1
        case measure => have := HK1.out; omega
        case rel => exact ⟨(t649), (t650), (t651), (.slice Ao80 t651.length co80), H', ⟨by have := HK1.out; omega⟩, ⟨by (with_reducible repeat (first | apply Kd.R_alloc | apply Kd.R_drewN | apply Kd.R_drew)); exact Kd.R_mono (Kd.R_far (p := ⟨gb621, 2, none⟩) (Kd.R_far (p := ⟨gb621, 1, none⟩) (Kd.R_far (p := ⟨gb621, 0, none⟩) (Kd.R_types HO653.out BK621.out (by decide)) (fun _ hk => hk.2) (.int .i64 t649)) (fun _ hk => hk.2) (.int .i64 t650)) (fun _ hk => hk.2) (.slice Ao80 t651.length co80)) (fun _ hk => trivial)⟩, ⟨bf_ NB613_621.out BK613.out⟩, ⟨bp_ BK621.out⟩, ⟨is_l1Cur_ HI0.out⟩, ⟨qe1_⟩, ⟨qe0_⟩⟩
       ·
        rw [if_neg c72] at H
        have c72b0 : decide ((x622002_1.length : Int) < 80) = false := decide_eq_false c72
        have c72b1 : decide (x622002_1.length < 80) = false := decide_eq_false (by omega)
        clear c72
        simp only [Option.some.injEq, Prod.mk.injEq] at H
        obtain ⟨rfl, rfl, rfl, rfl, rfl⟩ := H
        have hnb81 := NB621_613.out
        have hnc81 := NB613_621.out
        have hnb82 := NB621_0.out
        have hnc82 := NB0_621.out
        have hcz83_0 : wr.cell? ⟨gb621, 0, none⟩ = some (.int .i64 x622000_1) := bc_ BK621 0
        have hcz83_1 : wr.cell? ⟨gb621, 1, none⟩ = some (.int .i64 x622001_1) := bc_ BK621 1
        have hcz83_2 : wr.cell? ⟨gb621, 2, none⟩ = some (u622002) := bc_ BK621 2
        have hfz83_0 := blk_frozen BK621.out 0
        have hfz83_1 := blk_frozen BK621.out 1
        have hfz83_2 := blk_frozen BK621.out 2
        obtain ⟨Ao84, co84, eo84⟩ := Kd.R_slice HO_622002.out
        subst eo84
        have hnb85 := NB613_0.out
        have hnc85 := NB0_613.out
        have hcz86_0 : wr.cell? ⟨gb613, 0, none⟩ = some (.int .i64 0) := bc_ BK613 0
        have hcz86_1 : wr.cell? ⟨gb613, 1, none⟩ = some (.int .i64 0) := bc_ BK613 1
        have hcz86_2 : wr.cell? ⟨gb613, 2, none⟩ = some (.slice none 0 0) := bc_ BK613 2
        have hfz86_0 := blk_frozen BK613.out 0
        have hfz86_1 := blk_frozen BK613.out 1
        have hfz86_2 := blk_frozen BK613.out 2
        go_wp2
        refine bodyPost_ret (results_cell_row rfl _ _ gb613 48 #[.int .i64 x622000_1, .int .i64 x622001_1, .slice Ao84 x622002_1.length co84] (0, 0) _ rfl (bp_ BK613.out) Try.underlying48 rfl (by kernel_rfl)) rfl ?_
        exact ⟨_, er_, by (with_reducible repeat (first | apply Kd.R_alloc | apply Kd.R_drewN | apply Kd.R_drew)); exact Kd.R_mono (Kd.R_far (p := ⟨gb613, 2, none⟩) (Kd.R_far (p := ⟨gb613, 1, none⟩) (Kd.R_far (p := ⟨gb613, 0, none⟩) (Kd.R_types HO_622002.out BK613.out (by decide)) (fun _ hk => hk.2) (.int .i64 x622000_1)) (fun _ hk => hk.2) (.int .i64 x622001_1)) (fun _ hk => hk.2) (.slice Ao84 x622002_1.length co84)) (fun _ hk => trivial), is_l1Cur_ HI0.out, qe0_, qe1_⟩
    ·
     rw [if_neg c63] at H
     have c63b0 : (t622 == 3) = false := beq_eq_false_iff_ne.mpr c63
     have c63b1 : (t622 != 3) = true := bne_iff_ne.mpr c63
     simp only [Option.some.injEq, Prod.mk.injEq] at H
     obtain ⟨rfl, rfl, rfl, rfl, rfl⟩ := H
     go_enter Try.func63, Try.ntmps63
     go_wp2_with (first | ((with_reducible refine gate_dst (N := 2) rfl ?_); refine box_event ?hg (N := 2) ?hd (cs := #[.int .i64 0, .int .i64 0, .slice none 0 0]) (t := 48) ?hr ?_; (case hd => rfl); (case hg => rfl); (case hr => first | (go_simp; done) | (go_simp; rfl)); intro gb613 hg w87 hbox hb; have n0_ := Aside0.mk (IsS_l1Cur.below (is_l1Cur_ HI0.out) hb); have n1_ := Aside0.mk (KeepBut.trans (hk_ HK.out) (KeepBut.of_below hb g none) (.inl rfl)); have n2_ := Aside0.mk (below_step (hi_ HB.out) hb); have n3_ := Aside0.mk (hbox); have n4_ := Aside0.mk ((by rw [hg]; exact (keep_size (w := w) (g := g) (row := none) (hk_ HK.out)) : w.heap.size ≤ gb613)); have n5_ := Aside0.mk ((Nat.le_trans HW0.out (by rw [hg]; exact (keep_size (w := w) (g := g) (row := none) (hk_ HK.out)) : w.heap.size ≤ gb613) : w0.heap.size ≤ gb613)); have n6_ := Aside0.mk ((by rw [hg]; exact Nat.ne_of_lt (IsS_l1Cur.lt (show IsS_l1Cur w0 _ g s0_0 s0_1 s0_2 from is_l1Cur_ HI0.out)) : g ≠ gb613)); have n7_ := Aside0.mk ((by rw [hg]; exact Nat.ne_of_gt (IsS_l1Cur.lt (show IsS_l1Cur w0 _ g s0_0 s0_1 s0_2 from is_l1Cur_ HI0.out)) : gb613 ≠ g)); clear HI0; clear HK; clear HB; have HI0 := n0_; have HK := n1_; have HB := n2_; have BK613 := n3_; have GW613 := n4_; have GE613 := n5_; have NB0_613 := n6_; have NB613_0 := n7_; clear n0_ n1_ n2_ n3_ n4_ n5_ n6_ n7_; clear hb hbox hg) | ((with_reducible refine gate_callee (f := 78) rfl ?_); refine goesL_ (some 5) rfl rfl Try.func78 (by kernel_rfl) rfl #[.pointer (some ⟨g, 0, none⟩)] rfl sm_ ?_; (with_reducible refine (spec_l3DrawRight.calls k g s0_0 s0_1 s0_2 t614 t615 t616 t619 t620 w0 _ ?side1 ?side2 A2.out).mono ?_); (case side1 => repeat (first | (with_reducible first | exact HI0.out | apply IsS_l1Cur.alloc | apply IsS_l1Cur.drewN | apply IsS_l1Cur.drew | apply IsS_l1Cur.set_1 | apply IsS_l1Cur.set_2 | refine IsS_l1Cur.far ?_ NB0_613.out _) | exact HI0.out)); (case side2 => repeat (first | (with_reducible first | exact HB.out | apply below_alloc | apply pw_below_drewN | apply below_drew1 | refine below_set ?_ (IsS_l1Cur.ge HI0.out) | refine below_set ?_ GE613.out) | exact HB.out)); rintro e w88 ⟨v617, rfl, ho0, hi, hb, hk⟩; refine ⟨_, rfl, ?_⟩; have n0_ := Aside0.mk (KeepBut.blk hk (g' := gb613) (o := .cells #[.int .i64 0, .int .i64 0, .slice none 0 0] 48 (0, 0)) (bq_ BK613.out) NB613_0.out (by simp)); have n1_ := Aside0.mk (Kd.R_lower ho0 (keep_size (w := w) (g := g) (row := none) (hk_ HK.out))); have n2_ := Aside0.mk (KeepBut.trans (hk_ HK.out) hk (.inl rfl)); have n3_ := Aside0.mk (hb); have n4_ := Aside0.mk (hi); clear BK613; clear HK; clear HB; clear HI0; have BK613 := n0_; have HO618 := n1_; have HK := n2_; have HB := n3_; have HI0 := n4_; clear n0_ n1_ n2_ n3_ n4_; (try clear hb); (try clear hb2); (try clear hk); (try clear hi); (try clear ho0)) | ((with_reducible refine gate_dst (N := 3) rfl ?_); refine box_event ?hg (N := 3) ?hd (cs := #[.int .i64 0, .int .i64 0, .slice none 0 0]) (t := 48) ?hr ?_; (case hd => rfl); (case hg => rfl); (case hr => first | (go_simp; done) | (go_simp; rfl)); intro gb621 hg w89 hbox hb; have n0_ := Aside0.mk (Kd.R_below (rq_ HO618.out) hb); have n1_ := Aside0.mk (IsS_l1Cur.below (is_l1Cur_ HI0.out) hb); have n2_ := Aside0.mk (bb_ BK613.out hb); have n3_ := Aside0.mk (KeepBut.trans (hk_ HK.out) (KeepBut.of_below hb g none) (.inl rfl)); have n4_ := Aside0.mk (below_step (hi_ HB.out) hb); have n5_ := Aside0.mk (hbox); have n6_ := Aside0.mk ((by rw [hg]; exact (keep_size (w := w) (g := g) (row := none) (hk_ HK.out)) : w.heap.size ≤ gb621)); have n7_ := Aside0.mk ((Nat.le_trans HW0.out (by rw [hg]; exact (keep_size (w := w) (g := g) (row := none) (hk_ HK.out)) : w.heap.size ≤ gb621) : w0.heap.size ≤ gb621)); have n8_ := Aside0.mk ((nl_ BK613.out hg : gb613 ≠ gb621)); have n9_ := Aside0.mk ((ng_ BK613.out hg : gb621 ≠ gb613)); have n10_ := Aside0.mk ((by rw [hg]; exact Nat.ne_of_lt (IsS_l1Cur.lt (show IsS_l1Cur w0 _ g s0_0 t619 t620 from is_l1Cur_ HI0.out)) : g ≠ gb621)); have n11_ := Aside0.mk ((by rw [hg]; exact Nat.ne_of_gt (IsS_l1Cur.lt (show IsS_l1Cur w0 _ g s0_0 t619 t620 from is_l1Cur_ HI0.out)) : gb621 ≠ g)); clear HO618; clear HI0; clear BK613; clear HK; clear HB; have HO618 := n0_; have HI0 := n1_; have BK613 := n2_; have HK := n3_; have HB := n4_; have BK621 := n5_; have GW621 := n6_; have GE621 := n7_; have NB613_621 := n8_; have NB621_613 := n9_; have NB0_621 := n10_; have NB621_0 := n11_; clear n0_ n1_ n2_ n3_ n4_ n5_ n6_ n7_ n8_ n9_ n10_ n11_; clear hb hbox hg; have hnb90 := NB621_613.out; have hnc90 := NB613_621.out; have hnb91 := NB621_0.out; have hnc91 := NB0_621.out; have hcz92_0 : w89.cell? ⟨gb621, 0, none⟩ = some (.int .i64 0) := bc_ BK621 0; have hcz92_1 : w89.cell? ⟨gb621, 1, none⟩ = some (.int .i64 0) := bc_ BK621 1; have hcz92_2 : w89.cell? ⟨gb621, 2, none⟩ = some (.slice none 0 0) := bc_ BK621 2; have hfz92_0 := blk_frozen BK621.out 0; have hfz92_1 := blk_frozen BK621.out 1; have hfz92_2 := blk_frozen BK621.out 2; obtain ⟨Ao93, co93, eo93⟩ := Kd.R_slice HO618.out; subst eo93) | ((with_reducible refine gate_callee (f := 79) rfl ?_); refine goesL_ (some 7) rfl rfl Try.func79 (by kernel_rfl) rfl #[.pointer (some ⟨g, 0, none⟩), .int .i64 14] rfl sm_ ?_; (with_reducible refine (spec_l1Below.calls g s0_0 t619 t620 14 t622 t623 t624 w0 _ ?side1 ?side2 A3.out).mono ?_); (case side1 => repeat (first | (with_reducible first | exact HI0.out | apply IsS_l1Cur.alloc | apply IsS_l1Cur.drewN | apply IsS_l1Cur.drew | apply IsS_l1Cur.set_1 | apply IsS_l1Cur.set_2 | refine IsS_l1Cur.far ?_ NB0_613.out _ | refine IsS_l1Cur.far ?_ NB0_621.out _) | exact HI0.out)); (case side2 => repeat (first | (with_reducible first | exact HB.out | apply below_alloc | apply pw_below_drewN | apply below_drew1 | refine below_set ?_ (IsS_l1Cur.ge HI0.out) | refine below_set ?_ GE613.out | refine below_set ?_ GE621.out) | exact HB.out)); rintro e w94 ⟨rfl, hi, hb, hk⟩; refine ⟨_, rfl, ?_⟩; have n0_ := Aside0.mk (KeepBut.blk hk (g' := gb613) (o := .cells #[.int .i64 0, .int .i64 0, .slice none 0 0] 48 (0, 0)) (bf_ NB613_621.out BK613.out) NB613_0.out (by simp)); have n1_ := Aside0.mk (Kd.R_mono (Kd.R_keep (IsS_l1Cur.apart (show IsS_l1Cur w0 _ g s0_0 t619 t620 from is_l1Cur_ HI0.out) (rk_ HO618.out BK621.out) (by decide)) hk (fun _ h => h.2)) (fun _ h => h.1)); have n2_ := Aside0.mk (KeepBut.blk hk (g' := gb621) (o := .cells #[.int .i64 t614, .int .i64 t615, .slice Ao93 t616.length co93] 48 (0, 0)) (bp_ BK621.out) NB621_0.out (by simp)); have n3_ := Aside0.mk (KeepBut.trans (hk_ HK.out) hk (.inl rfl)); have n4_ := Aside0.mk (hb); have n5_ := Aside0.mk (hi); clear BK613; clear HO618; clear BK621; clear HK; clear HB; clear HI0; have BK613 := n0_; have HO618 := n1_; have BK621 := n2_; have HK := n3_; have HB := n4_; have HI0 := n5_; clear n0_ n1_ n2_ n3_ n4_ n5_; (try clear hb); (try clear hb2); (try clear hk); (try clear hi); have hcz95_0 : w94.cell? ⟨gb621, 0, none⟩ = some (.int .i64 t614) := bc_ BK621 0; have hcz95_1 : w94.cell? ⟨gb621, 1, none⟩ = some (.int .i64 t615) := bc_ BK621 1; have hcz95_2 : w94.cell? ⟨gb621, 2, none⟩ = some (.slice Ao93 t616.length co93) := bc_ BK621 2; have hfz95_0 := blk_frozen BK621.out 0; have hfz95_1 := blk_frozen BK621.out 1; have hfz95_2 := blk_frozen BK621.out 2; have hnb96 := NB613_0.out; have hnc96 := NB0_613.out; have hcz97_0 : w94.cell? ⟨gb613, 0, none⟩ = some (.int .i64 0) := bc_ BK613 0; have hcz97_1 : w94.cell? ⟨gb613, 1, none⟩ = some (.int .i64 0) := bc_ BK613 1; have hcz97_2 : w94.cell? ⟨gb613, 2, none⟩ = some (.slice none 0 0) := bc_ BK613 2; have hfz97_0 := blk_frozen BK613.out 0; have hfz97_1 := blk_frozen BK613.out 1; have hfz97_2 := blk_frozen BK613.out 2))
     refine bodyPost_ret (results_cell_row rfl _ _ gb613 48 #[.int .i64 t614, .int .i64 t615, .slice Ao93 t616.length co93] (0, 0) _ rfl (bp_ BK613.out) Try.underlying48 rfl (by kernel_rfl)) rfl ?_
     exact ⟨_, er_, by (with_reducible repeat (first | apply Kd.R_alloc | apply Kd.R_drewN | apply Kd.R_drew)); exact Kd.R_mono (Kd.R_far (p := ⟨gb613, 2, none⟩) (Kd.R_far (p := ⟨gb613, 1, none⟩) (Kd.R_far (p := ⟨gb613, 0, none⟩) (Kd.R_types HO618.out BK613.out (by decide)) (fun _ hk => hk.2) (.int .i64 t614)) (fun _ hk => hk.2) (.int .i64 t615)) (fun _ hk => hk.2) (.slice Ao93 t616.length co93)) (fun _ hk => trivial), is_l1Cur_ HI0.out, qe0_, qe1_⟩
/-! ### spec_DrawRowPack: function 49 -/
def spec_DrawRowPack.f (k : Nat) (l0 : List Int) : Option (Int × Int × (List (S_Item)) × Int) := (spec_l1New.f k l0).bind fun bt657 => ((spec_l3Draw.f k bt657.1 bt657.2.1 bt657.2.2).bind fun bt661 => ((spec_l1PickInt.f bt657.1 bt661.2.2.2.1 bt661.2.2.2.2 (([1, 2, 3, 8, 0] : List Int))).bind fun bt672 => (some (bt661.1, bt661.2.1, bt661.2.2.1, bt672.1))))
theorem spec_DrawRowPack.mono : ∀ a0 k, LeO (spec_DrawRowPack.f k a0) (spec_DrawRowPack.f (k + 1) a0) := by
  intro a0 k
  unfold spec_DrawRowPack.f
  repeat' first
      | (with_reducible exact spec_l1New.mono _ _)
      | (with_reducible exact spec_l3Draw.mono _ _ _ _)
      | (with_reducible exact LeO.refl _)
      | (with_reducible exact LeO.none _)
      | (with_reducible refine LeO.ite ?_ ?_)
      | (with_reducible refine LeO.bind ?_ (fun _ => ?_))
      | exact spec_l1New.mono _ _
      | exact spec_l3Draw.mono _ _ _ _
      | exact LeO.none _
      | refine LeO.ite ?_ ?_
      | refine LeO.bind ?_ (fun _ => ?_)
set_option maxHeartbeats 8000000 in
set_option maxRecDepth 100000 in
theorem spec_DrawRowPack.calls (k : Nat) (A0 : Option Addr) (c0 : Nat) (l0 : List Int) (r1 : Int) (r2 : Int) (r3 : List (S_Item)) (r4 : Int) (w : World) (hr0 : Kd.C (Kd.int .u8) w A0 l0.length l0) (hc0 : l0.length ≤ c0) (h : spec_DrawRowPack.f k l0 = some (r1, r2, r3, r4)) :
    Calls Try.prog 49 #[.slice A0 l0.length c0] w fun e w' => ∃ v2_ : Value, e = .returned (.tuple #[.agg #[.int .i64 r1, .int .i64 r2, v2_], .int .i64 r4]) ∧ Kd.R k_Item 55 w' w.heap.size (fun _ => True) v2_ r3 ∧ Below w.heap.size w w' := by
  have hu48 := Try.underlying48
  have HR0 := Aside0.mk hr0
  have HC0 := Aside0.mk hc0
  clear hr0 hc0
  have HB := Aside0.mk (Below.refl w.heap.size w)
  have H : ((spec_l1New.f k l0).bind fun bt657 => ((spec_l3Draw.f k bt657.1 bt657.2.1 bt657.2.2).bind fun bt661 => ((spec_l1PickInt.f bt657.1 bt661.2.2.2.1 bt661.2.2.2.2 (([1, 2, 3, 8, 0] : List Int))).bind fun bt672 => (some (bt661.1, bt661.2.1, bt661.2.2.1, bt672.1))))) = some (r1, r2, r3, r4) := h
  clear h
  replace H := Option.bind_eq_some_iff.mp H
  obtain ⟨⟨t657, t658, t659⟩, A20, H⟩ := H
  replace H : ((spec_l3Draw.f k t657 t658 t659).bind fun bt661 => ((spec_l1PickInt.f t657 bt661.2.2.2.1 bt661.2.2.2.2 (([1, 2, 3, 8, 0] : List Int))).bind fun bt672 => (some (bt661.1, bt661.2.1, bt661.2.2.1, bt672.1)))) = some (r1, r2, r3, r4) := H
  have A2 := Aside0.mk A20
  clear A20
  replace H := Option.bind_eq_some_iff.mp H
  obtain ⟨⟨t661, t662, t663, t666, t667⟩, A30, H⟩ := H
  replace H : ((spec_l1PickInt.f t657 t666 t667 (([1, 2, 3, 8, 0] : List Int))).bind fun bt672 => (some (t661, t662, t663, bt672.1))) = some (r1, r2, r3, r4) := H
  have A3 := Aside0.mk A30
  clear A30
  obtain ⟨y669, hy669⟩ : ∃ y_ : List Int, y_ = (([1, 2, 3, 8, 0] : List Int)) := ⟨_, rfl⟩
  replace H : ((spec_l1PickInt.f t657 t666 t667 y669).bind fun bt672 => (some (t661, t662, t663, bt672.1))) = some (r1, r2, r3, r4) := by first | (rw [hy669]; with_reducible exact H) | (have H2_ := (Option.bind_some _ _).symm.trans H; rw [hy669]; with_reducible exact H2_) | (have H2_ := (Option.bind_some _ _).symm.trans H; with_reducible exact H2_) | with_reducible exact H | (rw [hy669]; exact H) | exact H
  have Ny669 := Aside0.mk hy669
  clear hy669
  replace H := Option.bind_eq_some_iff.mp H
  obtain ⟨⟨t672, t673, t674⟩, A40, H⟩ := H
  replace H : (some (t661, t662, t663, t672)) = some (r1, r2, r3, r4) := H
  have A4 := Aside0.mk A40
  clear A40
  simp only [Option.some.injEq, Prod.mk.injEq] at H
  obtain ⟨rfl, rfl, rfl, rfl⟩ := H
  go_enter Try.func49, Try.ntmps49
  try go_wp2_with (first | ((with_reducible refine gate_dst (N := 2) rfl ?_); refine box_event ?hg (N := 2) ?hd (cs := #[.int .i64 0, .int .i64 0, .slice none 0 0]) (t := 48) ?hr ?_; (case hd => rfl); (case hg => rfl); (case hr => first | (go_simp; done) | (go_simp; rfl)); intro gb656 hg w5 hbox hb; have n0_ := Aside0.mk (below_step (qe11_) hb); have n1_ := Aside0.mk (hbox); have n2_ := Aside0.mk ((by rw [hg]; exact (below_size (qe11_)) : w.heap.size ≤ gb656)); have n3_ := Aside0.mk ((by rw [hg]; exact (below_size (qe11_)) : w.heap.size ≤ gb656)); clear HB; have HB := n0_; have BK656 := n1_; have GW656 := n2_; have GE656 := n3_; clear n0_ n1_ n2_ n3_; clear hb hbox hg) | ((with_reducible refine gate_callee (f := 62) rfl ?_); refine goesL_ (some 7) rfl rfl Try.func62 (by kernel_rfl) rfl #[.slice A0 l0.length c0] rfl (qe7_) ?_; (with_reducible refine (spec_l1New.calls k _ _ l0 t657 t658 t659 w _ ?side1 ?side2 ?side3 A2.out).mono ?_); (case side1 => repeat (first | (with_reducible first | exact HB.out | apply below_alloc | apply pw_below_drewN | apply below_drew1 | refine below_set ?_ GE656.out) | exact HB.out)); (case side2 => exact HR0.out); (case side3 => exact HC0.out); rintro e w6 ⟨g660, rfl, hi, hb, hb2⟩; refine ⟨_, rfl, ?_⟩; have n0_ := Aside0.mk (blk_below (g := gb656) (o := .cells #[.int .i64 0, .int .i64 0, .slice none 0 0] 48 (0, 0)) (bq_ BK656.out) hb2); have n1_ := Aside0.mk (hb); have n2_ := Aside0.mk (hi); have n3_ := Aside0.mk (IsS_l1Cur.ne_blk hi (blk_below (g := gb656) (o := .cells #[.int .i64 0, .int .i64 0, .slice none 0 0] 48 (0, 0)) (bq_ BK656.out) hb2) (by decide)); have n4_ := Aside0.mk (Ne.symm (IsS_l1Cur.ne_blk hi (blk_below (g := gb656) (o := .cells #[.int .i64 0, .int .i64 0, .slice none 0 0] 48 (0, 0)) (bq_ BK656.out) hb2) (by decide))); clear BK656; clear HB; have BK656 := n0_; have HB := n1_; have HI660 := n2_; have NB660_656 := n3_; have NB656_660 := n4_; clear n0_ n1_ n2_ n3_ n4_; (try clear hb); (try clear hb2); (try clear hk); (try clear hi)) | ((with_reducible refine gate_callee (f := 63) rfl ?_); refine goesL_ (some 9) rfl rfl Try.func63 (by kernel_rfl) rfl #[.pointer (some ⟨g660, 0, none⟩)] rfl (qe7_) ?_; (with_reducible refine (spec_l3Draw.calls k g660 t657 t658 t659 t661 t662 t663 t666 t667 w _ ?side1 ?side2 A3.out).mono ?_); (case side1 => repeat (first | (with_reducible first | exact HI660.out | apply IsS_l1Cur.alloc | apply IsS_l1Cur.drewN | apply IsS_l1Cur.drew | apply IsS_l1Cur.set_1 | apply IsS_l1Cur.set_2 | refine IsS_l1Cur.far ?_ NB660_656.out _) | exact HI660.out)); (case side2 => repeat (first | (with_reducible first | exact HB.out | apply below_alloc | apply pw_below_drewN | apply below_drew1 | refine below_set ?_ (IsS_l1Cur.ge HI660.out) | refine below_set ?_ GE656.out) | exact HB.out)); rintro e w7 ⟨v664, rfl, ho0, hi, hb, hk⟩; refine ⟨_, rfl, ?_⟩; have n0_ := Aside0.mk (KeepBut.blk hk (g' := gb656) (o := .cells #[.int .i64 0, .int .i64 0, .slice none 0 0] 48 (0, 0)) (bq_ BK656.out) NB656_660.out (by simp)); have n1_ := Aside0.mk (Kd.R_lower ho0 (below_size (qe6_))); have n2_ := Aside0.mk (hb); have n3_ := Aside0.mk (hi); clear BK656; clear HB; clear HI660; have BK656 := n0_; have HO665 := n1_; have HB := n2_; have HI660 := n3_; clear n0_ n1_ n2_ n3_; (try clear hb); (try clear hb2); (try clear hk); (try clear hi); (try clear ho0)) | ((with_reducible refine gate_dst (N := 5) rfl ?_); refine box_event ?hg (N := 5) ?hd (cs := #[.int .i64 0, .int .i64 0, .slice none 0 0]) (t := 48) ?hr ?_; (case hd => rfl); (case hg => rfl); (case hr => first | (go_simp; done) | (go_simp; rfl)); intro gb668 hg w8 hbox hb; have n0_ := Aside0.mk (Kd.R_below (qe12_) hb); have n1_ := Aside0.mk (blk_below (g := gb656) (o := .cells #[.int .i64 0, .int .i64 0, .slice none 0 0] 48 (0, 0)) (bq_ BK656.out) hb); have n2_ := Aside0.mk (IsS_l1Cur.below (by repeat (first | (with_reducible first | exact HI660.out | apply IsS_l1Cur.alloc | apply IsS_l1Cur.drewN | apply IsS_l1Cur.drew | apply IsS_l1Cur.set_1 | apply IsS_l1Cur.set_2 | refine IsS_l1Cur.far ?_ NB660_656.out _) | exact HI660.out)) hb); have n3_ := Aside0.mk (below_step (qe6_) hb); have n4_ := Aside0.mk (hbox); have n5_ := Aside0.mk ((by rw [hg]; exact (below_size (qe6_)) : w.heap.size ≤ gb668)); have n6_ := Aside0.mk ((by rw [hg]; exact (below_size (qe6_)) : w.heap.size ≤ gb668)); have n7_ := Aside0.mk ((by rw [hg]; exact Nat.ne_of_lt (blk_lt (g := gb656) (o := .cells #[.int .i64 0, .int .i64 0, .slice none 0 0] 48 (0, 0)) (bq_ BK656.out)) : gb656 ≠ gb668)); have n8_ := Aside0.mk ((by rw [hg]; exact Nat.ne_of_gt (blk_lt (g := gb656) (o := .cells #[.int .i64 0, .int .i64 0, .slice none 0 0] 48 (0, 0)) (bq_ BK656.out)) : gb668 ≠ gb656)); have n9_ := Aside0.mk ((by rw [hg]; exact Nat.ne_of_lt (IsS_l1Cur.lt (show IsS_l1Cur w _ g660 t657 t666 t667 from by repeat (first | (with_reducible first | exact HI660.out | apply IsS_l1Cur.alloc | apply IsS_l1Cur.drewN | apply IsS_l1Cur.drew | apply IsS_l1Cur.set_1 | apply IsS_l1Cur.set_2 | refine IsS_l1Cur.far ?_ NB660_656.out _) | exact HI660.out))) : g660 ≠ gb668)); have n10_ := Aside0.mk ((by rw [hg]; exact Nat.ne_of_gt (IsS_l1Cur.lt (show IsS_l1Cur w _ g660 t657 t666 t667 from by repeat (first | (with_reducible first | exact HI660.out | apply IsS_l1Cur.alloc | apply IsS_l1Cur.drewN | apply IsS_l1Cur.drew | apply IsS_l1Cur.set_1 | apply IsS_l1Cur.set_2 | refine IsS_l1Cur.far ?_ NB660_656.out _) | exact HI660.out))) : gb668 ≠ g660)); clear HO665; clear BK656; clear HI660; clear HB; have HO665 := n0_; have BK656 := n1_; have HI660 := n2_; have HB := n3_; have BK668 := n4_; have GW668 := n5_; have GE668 := n6_; have NB656_668 := n7_; have NB668_656 := n8_; have NB660_668 := n9_; have NB668_660 := n10_; clear n0_ n1_ n2_ n3_ n4_ n5_ n6_ n7_ n8_ n9_ n10_; clear hb hbox hg; have hnb9 := NB668_656.out; have hnc9 := NB656_668.out; have hnb10 := NB668_660.out; have hnc10 := NB660_668.out; have hcz11_0 : w8.cell? ⟨gb668, 0, none⟩ = some (.int .i64 0) := bc_ BK668 0; have hcz11_1 : w8.cell? ⟨gb668, 1, none⟩ = some (.int .i64 0) := bc_ BK668 1; have hcz11_2 : w8.cell? ⟨gb668, 2, none⟩ = some (.slice none 0 0) := bc_ BK668 2; have hfz11_0 := blk_frozen BK668.out 0; have hfz11_1 := blk_frozen BK668.out 1; have hfz11_2 := blk_frozen BK668.out 2; obtain ⟨Ao12, co12, eo12⟩ := Kd.R_slice HO665.out; subst eo12))
  have n0_ : Aside0 (Kd.R k_Item 55 (((w8.setCell ⟨gb668, 0, none⟩ (.int .i64 t661)).setCell ⟨gb668, 1, none⟩ (.int .i64 t662)).setCell ⟨gb668, 2, none⟩ (.slice Ao12 t663.length co12)) w.heap.size (fun _ => True) (.slice Ao12 t663.length co12) t663) := ⟨by (with_reducible repeat (first | apply Kd.R_alloc | apply Kd.R_drewN | apply Kd.R_drew)); exact Kd.R_mono (Kd.R_far (p := ⟨gb668, 2, none⟩) (Kd.R_far (p := ⟨gb668, 1, none⟩) (Kd.R_far (p := ⟨gb668, 0, none⟩) (Kd.R_types HO665.out BK668.out (by decide)) (fun _ hk => hk.2) (.int .i64 t661)) (fun _ hk => hk.2) (.int .i64 t662)) (fun _ hk => hk.2) (.slice Ao12 t663.length co12)) (fun _ hk => trivial)⟩
  have n1_ : Aside0 ((((w8.setCell ⟨gb668, 0, none⟩ (.int .i64 t661)).setCell ⟨gb668, 1, none⟩ (.int .i64 t662)).setCell ⟨gb668, 2, none⟩ (.slice Ao12 t663.length co12)).heap[gb656]? = some (.cells #[.int .i64 0, .int .i64 0, .slice none 0 0] 48 (0, 0))) := ⟨bf_ NB656_668.out BK656.out⟩
  have n2_ : Aside0 ((((w8.setCell ⟨gb668, 0, none⟩ (.int .i64 t661)).setCell ⟨gb668, 1, none⟩ (.int .i64 t662)).setCell ⟨gb668, 2, none⟩ (.slice Ao12 t663.length co12)).heap[gb668]? = some (.cells #[.int .i64 t661, .int .i64 t662, .slice Ao12 t663.length co12] 48 (0, 0))) := ⟨bp_ BK668.out⟩
  have n3_ : Aside0 (IsS_l1Cur w (((w8.setCell ⟨gb668, 0, none⟩ (.int .i64 t661)).setCell ⟨gb668, 1, none⟩ (.int .i64 t662)).setCell ⟨gb668, 2, none⟩ (.slice Ao12 t663.length co12)) g660 t657 t666 t667) := ⟨qe10_⟩
  have n4_ : Aside0 (Below w.heap.size w (((w8.setCell ⟨gb668, 0, none⟩ (.int .i64 t661)).setCell ⟨gb668, 1, none⟩ (.int .i64 t662)).setCell ⟨gb668, 2, none⟩ (.slice Ao12 t663.length co12))) := ⟨qe4_⟩
  (try clear HO665)
  (try clear BK656)
  (try clear BK668)
  (try clear HI660)
  (try clear HB)
  generalize (((w8.setCell ⟨gb668, 0, none⟩ (.int .i64 t661)).setCell ⟨gb668, 1, none⟩ (.int .i64 t662)).setCell ⟨gb668, 2, none⟩ (.slice Ao12 t663.length co12)) = w13 at n0_ n1_ n2_ n3_ n4_ ⊢
  have HO665 := n0_
  have BK656 := n1_
  have BK668 := n2_
  have HI660 := n3_
  have HB := n4_
  clear n0_ n1_ n2_ n3_ n4_
  have n0_ := Aside0.mk (Kd.R_drew HO665.out)
  have n1_ := Aside0.mk (blk_drew BK656.out)
  have n2_ := Aside0.mk (blk_drew BK668.out)
  have n3_ := Aside0.mk (IsS_l1Cur.drew HI660.out)
  have n4_ := Aside0.mk (below_drew1 HB.out)
  clear HO665
  clear BK656
  clear BK668
  clear HI660
  clear HB
  have HO665 := n0_
  have BK656 := n1_
  have BK668 := n2_
  have HI660 := n3_
  have HB := n4_
  clear n0_ n1_ n2_ n3_ n4_
  refine start_ (n := 6) (S := fun w' => w'.cell? ⟨gb668, 0, none⟩ = some (.int .i64 t661) ∧ w'.cell? ⟨gb668, 1, none⟩ = some (.int .i64 t662) ∧ w'.cell? ⟨gb668, 2, none⟩ = some (.slice Ao12 t663.length co12)) (ds := []) #[false, false, false, false, false, false] (by kernel_rfl) rfl rfl ⟨bc_ BK668 0, bc_ BK668 1, bc_ BK668 2⟩ (fun hHeld => ?_)
  generalize w13.drew = w14 at HO665 BK656 BK668 HI660 HB hHeld ⊢
  refine pure_ (i := 1) (N := some 11) (v := ?_) (a' := ?_) #[false, true, false, false, false, false] rfl rfl (by kernel_rfl) (fun _ _ _ h => h) (Or.inl ⟨by rfl, ?_⟩) ?_ ?_
  rotate_left
  · intro w'
    go_simp
    with_reducible rfl
  rotate_left
  · simp only [Act.put, List.setIfInBounds_toArray, List.set_cons_zero, List.set_cons_succ, i64_w, i32_w]
    rfl
  refine take_ (i := 0) (N := some 10) (v := ?_) (a' := ?_) #[true, true, false, false, false, false] rfl rfl (by kernel_rfl) (fun _ _ _ h => h) (Or.inl ⟨by rfl, ?_⟩) hHeld ?_ ?_
  rotate_left
  · rintro w' ⟨s0, s1, s2⟩
    go_simp
    with_reducible rfl
  rotate_left
  · simp only [Act.put, List.setIfInBounds_toArray, List.set_cons_zero, List.set_cons_succ, i64_w, i32_w]
    rfl
  refine one_ (i := 2) (N := some 12) #[true, true, true, false, false, false] rfl rfl (by kernel_rfl) (by decide) (fun K hK => ?_)
  refine Kd.R_lit_step (Kd.int .i64) _ 3 ?hg (N := 12) ?hd (xs := ([1, 2, 3, 8, 0] : List Int)) (inner := [.int .i64 1, .int .i64 2, .int .i64 3, .int .i64 8, .int .i64 0]) (ok := fun _ => True) (okp := fun _ => True) ?hr ?hp (fun _ hk => hk) trivial (Below.refl _ _) (Nat.le_refl _) (by simp) ?_; (case hd => rfl); (case hg => rfl); (case hr => first | (go_simp; done) | (go_simp; rfl)); (case hp => exact (Reps.one (show Kd.M (Kd.int .i64) _ _ _ 1 [.int .i64 1] from rfl) (Reps.one (show Kd.M (Kd.int .i64) _ _ _ 2 [.int .i64 2] from rfl) (Reps.one (show Kd.M (Kd.int .i64) _ _ _ 3 [.int .i64 3] from rfl) (Reps.one (show Kd.M (Kd.int .i64) _ _ _ 8 [.int .i64 8] from rfl) (Reps.one (show Kd.M (Kd.int .i64) _ _ _ 0 [.int .i64 0] from rfl) (Reps.none _ _)))))))
  intro v670 w15 ho16 hb hg_ hnew_
  clear hg_ hnew_
  (first | rw [← Ny669.out] at ho16 | (simp only [Int.reduceToNat] at ho16; rw [← Ny669.out] at ho16))
  have n0_ := Aside0.mk (Kd.R_below (qe12_) hb)
  have n1_ := Aside0.mk (Kd.R_lower ho16 (below_size (qe4_)))
  have n2_ := Aside0.mk (blk_below (g := gb656) (o := .cells #[.int .i64 0, .int .i64 0, .slice none 0 0] 48 (0, 0)) (bq_ BK656.out) hb)
  have n3_ := Aside0.mk (IsS_l1Cur.below (qe10_) hb)
  have n4_ := Aside0.mk (blk_below (g := gb668) (o := .cells #[.int .i64 t661, .int .i64 t662, .slice Ao12 t663.length co12] 48 (0, 0)) (bq_ BK668.out) hb)
  have n5_ := Aside0.mk (below_step (qe4_) hb)
  clear HO665
  clear BK656
  clear HI660
  clear BK668
  clear HB
  have HO665 := n0_
  have HO671 := n1_
  have BK656 := n2_
  have HI660 := n3_
  have BK668 := n4_
  have HB := n5_
  clear n0_ n1_ n2_ n3_ n4_ n5_
  clear hb ho16
  obtain ⟨Ao17, co17, eo17⟩ := Kd.R_slice HO671.out
  (first | subst eo17 | (injection eo17 with f1_ f2_ f3_; have f4_ := f1_.symm; have f5_ := f3_.symm; clear f1_ f2_ f3_; subst f4_; subst f5_))
  refine hK.out _ _ ⟨bc_ BK668 0, bc_ BK668 1, bc_ BK668 2⟩ (fun hHeld => ?_)
  clear hK K
  refine norm_ (a' := ?_) ?_ ?_
  rotate_left
  · show Act.put _ (some 12) _ = _
    simp only [Act.put, List.setIfInBounds_toArray, List.set_cons_zero, List.set_cons_succ, i64_w, i32_w]
    rfl
  refine one_ (i := 3) (N := some 13) #[true, true, true, true, false, false] rfl rfl (by kernel_rfl) (by decide) (fun K hK => ?_)
  refine goes_ Try.func64 (by kernel_rfl) rfl #[.pointer (some ⟨g660, 0, none⟩), .slice Ao17 y669.length co17] (by rfl) rfl rfl (qe7_) ?_
  with_reducible refine (spec_l1PickInt.calls g660 t657 t666 t667 _ _ y669 t672 t673 t674 w _ ?side1 ?side2 ?side3 ?side4 ?side5 A4.out).mono ?_
  (case side1 => repeat (first | (with_reducible first | exact HI660.out | apply IsS_l1Cur.alloc | apply IsS_l1Cur.drewN | apply IsS_l1Cur.drew | apply IsS_l1Cur.set_1 | apply IsS_l1Cur.set_2 | refine IsS_l1Cur.far ?_ NB660_656.out _ | refine IsS_l1Cur.far ?_ NB660_668.out _) | exact HI660.out))
  (case side2 => repeat (first | (with_reducible first | exact HB.out | apply below_alloc | apply pw_below_drewN | apply below_drew1 | refine below_set ?_ (IsS_l1Cur.ge HI660.out) | refine below_set ?_ GE656.out | refine below_set ?_ GE668.out) | exact HB.out))
  (case side3 => repeat (first | exact (Kd.R_reads' HO671.out).2.2 | (with_reducible refine Kd.C_alloc ?_ _) | (with_reducible refine Kd.C_drewN ?_ _) | (with_reducible refine Kd.C_drew ?_)))
  (case side4 => exact (Kd.R_reads' HO671.out).2.1)
  (case side5 => exact far_slice (IsS_l1Cur.own_ne HI660.out HO671.out (by decide)))
  rintro e w18 ⟨rfl, hi, hb, hk⟩
  refine ⟨_, rfl, ?_⟩
  have n0_ := Aside0.mk (KeepBut.blk hk (g' := gb656) (o := .cells #[.int .i64 0, .int .i64 0, .slice none 0 0] 48 (0, 0)) (bq_ BK656.out) NB656_660.out (by simp))
  have n1_ := Aside0.mk (Kd.R_mono (Kd.R_keep (IsS_l1Cur.apart (show IsS_l1Cur w _ g660 t657 t666 t667 from by repeat (first | (with_reducible first | exact HI660.out | apply IsS_l1Cur.alloc | apply IsS_l1Cur.drewN | apply IsS_l1Cur.drew | apply IsS_l1Cur.set_1 | apply IsS_l1Cur.set_2 | refine IsS_l1Cur.far ?_ NB660_656.out _ | refine IsS_l1Cur.far ?_ NB660_668.out _) | exact HI660.out)) (qe12_) (by decide)) hk (fun _ h => h.2)) (fun _ h => h.1))
  have n2_ := Aside0.mk (KeepBut.blk hk (g' := gb668) (o := .cells #[.int .i64 t661, .int .i64 t662, .slice Ao12 t663.length co12] 48 (0, 0)) (bq_ BK668.out) NB668_660.out (by simp))
  have n3_ := Aside0.mk (Kd.R_mono (Kd.R_keep (IsS_l1Cur.apart (show IsS_l1Cur w _ g660 t657 t666 t667 from by repeat (first | (with_reducible first | exact HI660.out | apply IsS_l1Cur.alloc | apply IsS_l1Cur.drewN | apply IsS_l1Cur.drew | apply IsS_l1Cur.set_1 | apply IsS_l1Cur.set_2 | refine IsS_l1Cur.far ?_ NB660_656.out _ | refine IsS_l1Cur.far ?_ NB660_668.out _) | exact HI660.out)) (by (with_reducible repeat (first | apply Kd.R_alloc | apply Kd.R_drewN | apply Kd.R_drew)); exact HO671.out) (by decide)) hk (fun _ h => h.2)) (fun _ h => h.1))
  have n4_ := Aside0.mk (hb)
  have n5_ := Aside0.mk (hi)
  clear BK656
  clear HO665
  clear BK668
  clear HO671
  clear HB
  clear HI660
  have BK656 := n0_
  have HO665 := n1_
  have BK668 := n2_
  have HO671 := n3_
  have HB := n4_
  have HI660 := n5_
  clear n0_ n1_ n2_ n3_ n4_ n5_
  (try clear hb)
  (try clear hb2)
  (try clear hk)
  (try clear hi)
  refine hK.out _ _ ⟨bc_ BK668 0, bc_ BK668 1, bc_ BK668 2⟩ (fun hHeld => ?_)
  clear hK K
  refine norm_ (a' := ?_) ?_ ?_
  rotate_left
  · show Act.put _ (some 13) _ = _
    simp only [Act.put, List.setIfInBounds_toArray, List.set_cons_zero, List.set_cons_succ, i64_w, i32_w]
    rfl
  refine one_ (i := 4) (N := none) #[true, true, true, true, true, false] rfl rfl (by kernel_rfl) (by decide) (fun K hK => ?_)
  have hs19 : w18.cell? ⟨gb656, 0, none⟩ = some (.int .i64 0) := bc_ BK656 0
  have hfs19 := blk_frozen BK656.out 0
  have hns19_1 := NB668_656.out
  have hms19_1 := NB656_668.out
  have hs20 : w18.cell? ⟨gb656, 1, none⟩ = some (.int .i64 0) := bc_ BK656 1
  have hfs20 := blk_frozen BK656.out 1
  have hns20_1 := NB668_656.out
  have hms20_1 := NB656_668.out
  have hs21 : w18.cell? ⟨gb656, 2, none⟩ = some (.slice none 0 0) := bc_ BK656 2
  have hfs21 := blk_frozen BK656.out 2
  have hns21_1 := NB668_656.out
  have hms21_1 := NB656_668.out
  refine skip_ (w1 := ?_) (by rfl) rfl ?_ ?_
  rotate_left
  · go_simp
    rfl
  refine hK.out _ _ ⟨(cfs_ NB668_656.out (hHeld.1)), (cfs_ NB668_656.out (hHeld.2.1)), (cfs_ NB668_656.out (hHeld.2.2))⟩ (fun hHeld => ?_)
  clear hK K
  refine pure_ (i := 5) (N := some 3) (v := ?_) (a' := ?_) #[true, true, true, true, true, true] rfl rfl (by kernel_rfl) (fun _ _ _ h => h) (Or.inl ⟨by rfl, ?_⟩) ?_ ?_
  rotate_left
  · intro w'
    go_simp
    with_reducible rfl
  rotate_left
  · simp only [Act.put, List.setIfInBounds_toArray, List.set_cons_zero, List.set_cons_succ, i64_w, i32_w]
    rfl
  refine done_ (by kernel_rfl) ?_
  try go_wp2
  refine bodyPost_ret (results_ct rfl _ _ gb656 48 #[.int .i64 t661, .int .i64 t662, .slice Ao12 t663.length co12] (0, 0) _ rfl (bp_ BK656.out) Try.underlying48 rfl (by kernel_rfl)) rfl ?_
  exact ⟨_, qe13_, by (with_reducible repeat (first | apply Kd.R_alloc | apply Kd.R_drewN | apply Kd.R_drew)); exact Kd.R_mono (Kd.R_far (p := ⟨gb656, 2, none⟩) (Kd.R_far (p := ⟨gb656, 1, none⟩) (Kd.R_far (p := ⟨gb656, 0, none⟩) (Kd.R_types HO665.out BK656.out (by decide)) (fun _ hk => hk.2) (.int .i64 t661)) (fun _ hk => hk.2) (.int .i64 t662)) (fun _ hk => hk.2) (.slice Ao12 t663.length co12)) (fun _ hk => trivial), qe4_⟩

end Go.Proofs.Ythkepjgolaichaa.Q
