/- Made by a program of ours out of the print of the loaded functions: for each of some functions a plain function, and the walk that shows that a call comes to what it says. No condition but those of each theorem. -/
import Derived.Test.YtiknkolclcdajaaZFnRows0
import Derived.Test.YtiknkolclcdajaaZFnRowsa
import Derived.Test.YtiknkolclcdajaaZFnRowse
namespace Go.Proofs.Ytiknkolclcdajaa.Q
open Go.RowKit Go.Proofs.YtiknkolclcdajaaW.PrintWords Go.Proofs.YtiknkolclcdajaaW.PrintLast Go.Proofs.YtiknkolclcdajaaW.PrintMore
attribute [local go_sem] max2_int min2_int max_two min_two max_three min_three max_four min_four   -- for this text's walks alone
set_option linter.unusedVariables false
set_option linter.unusedSimpArgs false
theorem qf0_ {P : Prop} (h : P := by repeat (first | (with_reducible first | exact HB.out | apply below_alloc | apply pw_below_drewN | apply below_drew1) | exact HB.out)) : P := h
theorem qf1_ {P : Prop} (h : P := by (try simp only [List.map_toArray, List.map_cons, List.map_nil]); first | done | rfl | (simp only [List.length_drop, List.length_take]; rfl)) : P := h
theorem qf2_ {P : Prop} (h : P := by repeat (first | (with_reducible first | exact HB.out | apply below_alloc | apply pw_below_drewN | apply below_drew1 | refine below_set ?_ GE2248.out | refine below_set ?_ GE2249.out) | exact HB.out)) : P := h
theorem qf3_ {P : Prop} (h : P := by repeat (first | (with_reducible first | exact HB.out | apply below_alloc | apply pw_below_drewN | apply below_drew1 | refine below_set ?_ (IsS_l1Cur.ge HI2196.out) | refine below_set ?_ GE2192.out | refine below_set ?_ GE2204.out) | exact HB.out)) : P := h
theorem qf4_ {P : Prop} (h : P := by first | rfl | (simp [errW_none, errW_some] <;> rfl) | (simp [*, errW_none, errW_some] <;> rfl)) : P := h
theorem qf5_ {P : Prop} (h : P := by repeat (first | (with_reducible first | exact HB.out | apply below_alloc | apply pw_below_drewN | apply below_drew1 | refine below_set ?_ GE2252.out) | exact HB.out)) : P := h
theorem qf6_ {P : Prop} (h : P := by repeat (first | (with_reducible first | exact HB.out | apply below_alloc | apply pw_below_drewN | apply below_drew1 | refine below_set ?_ GE2248.out) | exact HB.out)) : P := h
theorem qf7_ {P : Prop} (h : P := by repeat (first | (with_reducible first | exact HB.out | apply below_alloc | apply pw_below_drewN | apply below_drew1 | refine below_set ?_ GE2252.out | refine below_set ?_ GE2253.out) | exact HB.out)) : P := h
theorem qf8_ {P : Prop} (h : P := by repeat (first | (with_reducible first | exact HB.out | apply below_alloc | apply pw_below_drewN | apply below_drew1 | refine below_set ?_ (IsS_l1Cur.ge HI2260.out) | refine below_set ?_ GE2256.out) | exact HB.out)) : P := h
theorem qf9_ {P : Prop} (h : P := by repeat (first | (with_reducible first | exact HB.out | apply below_alloc | apply pw_below_drewN | apply below_drew1 | refine below_set ?_ (IsS_l1Cur.ge HI2236.out) | refine below_set ?_ GE2232.out) | exact HB.out)) : P := h
theorem qf10_ {P : Prop} (h : P := by repeat (first | (with_reducible first | exact HB.out | apply below_alloc | apply pw_below_drewN | apply below_drew1 | refine below_set ?_ (IsS_l1Cur.ge HI2196.out) | refine below_set ?_ GE2192.out) | exact HB.out)) : P := h
theorem qf11_ {P : Prop} (h : P := by (with_reducible repeat (first | apply Kd.R_alloc | apply Kd.R_drewN | apply Kd.R_drew)); exact HO2201.out) : P := h
theorem qf12_ {P : Prop} (h : P := by repeat (first | (with_reducible first | exact HB.out | apply below_alloc | apply pw_below_drewN | apply below_drew1 | refine below_set ?_ GE2276.out | refine below_set ?_ GE2277.out) | exact HB.out)) : P := h
theorem qf13_ {P : Prop} (h : P := by repeat (first | (with_reducible first | exact HB.out | apply below_alloc | apply pw_below_drewN | apply below_drew1 | refine below_set ?_ GE2272.out | refine below_set ?_ GE2273.out) | exact HB.out)) : P := h
theorem qf14_ {P : Prop} (h : P := by (with_reducible repeat (first | apply Kd.R_alloc | apply Kd.R_drewN | apply Kd.R_drew)); exact HO2207.out) : P := h
theorem qf15_ {P : Prop} (h : P := by repeat (first | (with_reducible first | exact HK.out | apply KeepBut.set_ | apply keep_drewN | apply keep_drew | apply keep_alloc) | exact HK.out)) : P := h
theorem qf16_ {P : Prop} (h : P := by repeat (first | (with_reducible first | exact HB.out | apply below_alloc | apply pw_below_drewN | apply below_drew1 | refine below_set ?_ GE2276.out) | exact HB.out)) : P := h
theorem qf17_ {P : Prop} (h : P := by repeat (first | (with_reducible first | exact HB.out | apply below_alloc | apply pw_below_drewN | apply below_drew1 | refine below_set ?_ GE2272.out) | exact HB.out)) : P := h
theorem qf18_ {P : Prop} (h : P := by (with_reducible repeat (first | apply Kd.R_alloc | apply Kd.R_drewN | apply Kd.R_drew)); exact HO2216.out) : P := h
theorem qf19_ {P : Prop} (h : P := by first | rfl | (simp; done) | (simp [*]; done)) : P := h
theorem qf20_ {P : Prop} (h : P := by repeat (first | (with_reducible first | exact HI2196.out | apply IsS_l1Cur.alloc | apply IsS_l1Cur.drewN | apply IsS_l1Cur.drew | apply IsS_l1Cur.set_1 | apply IsS_l1Cur.set_2 | refine IsS_l1Cur.far ?_ NB2196_2192.out _ | refine IsS_l1Cur.far ?_ NB2196_2204.out _) | exact HI2196.out)) : P := h
theorem qf21_ {P : Prop} (h : P := by repeat (first | (with_reducible first | exact HB.out | apply below_alloc | apply pw_below_drewN | apply below_drew1 | refine below_set ?_ GE2248.out | refine below_set ?_ GE2249.out | refine below_set ?_ GE2251.out) | exact HB.out)) : P := h
theorem qf22_ {P : Prop} (h : P := by repeat (first | (with_reducible first | exact HI0.out | apply IsS_l1Cur.alloc | apply IsS_l1Cur.drewN | apply IsS_l1Cur.drew | apply IsS_l1Cur.set_1 | apply IsS_l1Cur.set_2) | exact HI0.out)) : P := h
theorem qf23_ {P : Prop} (h : P := by repeat (first | (with_reducible first | exact HB.out | apply below_alloc | apply pw_below_drewN | apply below_drew1 | refine below_set ?_ (IsS_l1Cur.ge HI0.out)) | exact HB.out)) : P := h
theorem qfh0_ {P : Prop} (h : P := by repeat' first | (with_reducible exact spec_l1New.mono _ _) | (with_reducible exact spec_l3Draw.mono _ _ _ _) | (with_reducible exact LeO.refl _) | (with_reducible exact LeO.none _) | (with_reducible refine LeO.ite ?_ ?_) | (with_reducible refine LeO.bind ?_ (fun _ => ?_)) | exact spec_l1New.mono _ _ | exact spec_l3Draw.mono _ _ _ _ | exact LeO.none _ | refine LeO.ite ?_ ?_ | refine LeO.bind ?_ (fun _ => ?_)) : P := h
theorem qfh1_ {P : Prop} (h : P := by repeat' first | (with_reducible exact ih0 _ _ _ _) | (with_reducible exact LeO.refl _) | (with_reducible exact LeO.none _) | (with_reducible refine LeO.ite ?_ ?_) | (with_reducible refine LeO.bind ?_ (fun _ => ?_)) | exact ih0 _ _ _ _ | exact LeO.none _ | refine LeO.ite ?_ ?_ | refine LeO.bind ?_ (fun _ => ?_)) : P := h
theorem qfh2_ {P : Prop} (h : P := by repeat' first | (with_reducible exact ih0 _ _ _ _ _) | (with_reducible exact LeO.refl _) | (with_reducible exact LeO.none _) | (with_reducible refine LeO.ite ?_ ?_) | (with_reducible refine LeO.bind ?_ (fun _ => ?_)) | exact ih0 _ _ _ _ _ | exact LeO.none _ | refine LeO.ite ?_ ?_ | refine LeO.bind ?_ (fun _ => ?_)) : P := h

/-! ### spec_DrawRowPut: function 36 -/
def spec_DrawRowPut.f (k : Nat) (l0 : List Int) : Option (Int × Int × (List (S_Item)) × ByteArray × ByteArray × Int × Int) := (spec_l1New.f k l0).bind fun bt2193 => ((spec_l3Draw.f k bt2193.1 bt2193.2.1 bt2193.2.2).bind fun bt2197 => ((spec_l1Pick.f bt2193.1 bt2197.2.2.2.1 bt2197.2.2.2.2 (([(⟨#[97]⟩ : ByteArray), (⟨#[]⟩ : ByteArray), (⟨#[65]⟩ : ByteArray)] : List ByteArray))).bind fun bt2208 => ((spec_l2DrawText.f bt2193.1 bt2208.2.1 bt2208.2.2).bind fun bt2211 => ((spec_l1PickInt.f bt2193.1 bt2211.2.1 bt2211.2.2 (([0, 3, 4, (-1)] : List Int))).bind fun bt2217 => ((spec_l1PickInt.f bt2193.1 bt2217.2.1 bt2217.2.2 (([0, 5, 100001] : List Int))).bind fun bt2223 => (some (bt2197.1, bt2197.2.1, bt2197.2.2.1, bt2208.1, bt2211.1, bt2217.1, bt2223.1)))))))
theorem spec_DrawRowPut.mono : ∀ a0 k, LeO (spec_DrawRowPut.f k a0) (spec_DrawRowPut.f (k + 1) a0) := by
  intro a0 k
  unfold spec_DrawRowPut.f
  exact qfh0_
def spec_DrawRowPut.T6 : Bool × List (List Nat × List Nat) := (true, [([], []), ([], []), ([], []), ([], []), ([], []), ([], []), ([4, 5], [4, 5]), ([0, 6, 0], [0]), ([1, 7, 0, 1, 7], [1]), ([2, 8, 0, 1, 2, 7, 8], [2]), ([3, 9, 0, 1, 2, 3, 7, 8, 9], [3]), ([6, 10, 0, 1, 2, 3, 4, 5, 6, 7, 8, 9, 10], [6])])
def spec_DrawRowPut.B6 : List Nat := [0, 0, 0, 0, 0, 0, 48, 113, 243, 503, 1023, 2047]
theorem spec_DrawRowPut.tab6 : rtab .any (opsOf Try.f36 6) = spec_DrawRowPut.T6 := by kernel_rfl
theorem spec_DrawRowPut.bits6 : waitsOk spec_DrawRowPut.T6.2 spec_DrawRowPut.B6 = true := by kernel_rfl
set_option maxHeartbeats 8000000 in
set_option maxRecDepth 100000 in
theorem spec_DrawRowPut.calls (k : Nat) (A0 : Option Addr) (c0 : Nat) (l0 : List Int) (r1 : Int) (r2 : Int) (r3 : List (S_Item)) (r4 : ByteArray) (r5 : ByteArray) (r6 : Int) (r7 : Int) (w : World) (hr0 : Kd.C (Kd.int .u8) w A0 l0.length l0) (hc0 : l0.length ≤ c0) (h : spec_DrawRowPut.f k l0 = some (r1, r2, r3, r4, r5, r6, r7)) :
    Calls Try.prog 36 #[.slice A0 l0.length c0] w fun e w' => ∃ v2_ : Value, e = .returned (.tuple #[.agg #[.int .i64 r1, .int .i64 r2, v2_], .string r4, .string r5, .int .i64 r6, .int .i64 r7]) ∧ Kd.R k_Item 69 w' w.heap.size (fun _ => True) v2_ r3 ∧ Below w.heap.size w w' := by
  have hu57 := Try.underlying57
  have HR0 := Aside0.mk hr0
  have HC0 := Aside0.mk hc0
  clear hr0 hc0
  have HB := Aside0.mk (Below.refl w.heap.size w)
  have H : ((spec_l1New.f k l0).bind fun bt2193 => ((spec_l3Draw.f k bt2193.1 bt2193.2.1 bt2193.2.2).bind fun bt2197 => ((spec_l1Pick.f bt2193.1 bt2197.2.2.2.1 bt2197.2.2.2.2 (([(⟨#[97]⟩ : ByteArray), (⟨#[]⟩ : ByteArray), (⟨#[65]⟩ : ByteArray)] : List ByteArray))).bind fun bt2208 => ((spec_l2DrawText.f bt2193.1 bt2208.2.1 bt2208.2.2).bind fun bt2211 => ((spec_l1PickInt.f bt2193.1 bt2211.2.1 bt2211.2.2 (([0, 3, 4, (-1)] : List Int))).bind fun bt2217 => ((spec_l1PickInt.f bt2193.1 bt2217.2.1 bt2217.2.2 (([0, 5, 100001] : List Int))).bind fun bt2223 => (some (bt2197.1, bt2197.2.1, bt2197.2.2.1, bt2208.1, bt2211.1, bt2217.1, bt2223.1)))))))) = some (r1, r2, r3, r4, r5, r6, r7) := h
  clear h
  replace H := Option.bind_eq_some_iff.mp H
  obtain ⟨⟨t2193, t2194, t2195⟩, A20, H⟩ := H
  replace H : ((spec_l3Draw.f k t2193 t2194 t2195).bind fun bt2197 => ((spec_l1Pick.f t2193 bt2197.2.2.2.1 bt2197.2.2.2.2 (([(⟨#[97]⟩ : ByteArray), (⟨#[]⟩ : ByteArray), (⟨#[65]⟩ : ByteArray)] : List ByteArray))).bind fun bt2208 => ((spec_l2DrawText.f t2193 bt2208.2.1 bt2208.2.2).bind fun bt2211 => ((spec_l1PickInt.f t2193 bt2211.2.1 bt2211.2.2 (([0, 3, 4, (-1)] : List Int))).bind fun bt2217 => ((spec_l1PickInt.f t2193 bt2217.2.1 bt2217.2.2 (([0, 5, 100001] : List Int))).bind fun bt2223 => (some (bt2197.1, bt2197.2.1, bt2197.2.2.1, bt2208.1, bt2211.1, bt2217.1, bt2223.1))))))) = some (r1, r2, r3, r4, r5, r6, r7) := H
  have A2 := Aside0.mk A20
  clear A20
  replace H := Option.bind_eq_some_iff.mp H
  obtain ⟨⟨t2197, t2198, t2199, t2202, t2203⟩, A30, H⟩ := H
  replace H : ((spec_l1Pick.f t2193 t2202 t2203 (([(⟨#[97]⟩ : ByteArray), (⟨#[]⟩ : ByteArray), (⟨#[65]⟩ : ByteArray)] : List ByteArray))).bind fun bt2208 => ((spec_l2DrawText.f t2193 bt2208.2.1 bt2208.2.2).bind fun bt2211 => ((spec_l1PickInt.f t2193 bt2211.2.1 bt2211.2.2 (([0, 3, 4, (-1)] : List Int))).bind fun bt2217 => ((spec_l1PickInt.f t2193 bt2217.2.1 bt2217.2.2 (([0, 5, 100001] : List Int))).bind fun bt2223 => (some (t2197, t2198, t2199, bt2208.1, bt2211.1, bt2217.1, bt2223.1)))))) = some (r1, r2, r3, r4, r5, r6, r7) := H
  have A3 := Aside0.mk A30
  clear A30
  obtain ⟨y2205, hy2205⟩ : ∃ y_ : List ByteArray, y_ = (([(⟨#[97]⟩ : ByteArray), (⟨#[]⟩ : ByteArray), (⟨#[65]⟩ : ByteArray)] : List ByteArray)) := ⟨_, rfl⟩
  replace H : ((spec_l1Pick.f t2193 t2202 t2203 y2205).bind fun bt2208 => ((spec_l2DrawText.f t2193 bt2208.2.1 bt2208.2.2).bind fun bt2211 => ((spec_l1PickInt.f t2193 bt2211.2.1 bt2211.2.2 (([0, 3, 4, (-1)] : List Int))).bind fun bt2217 => ((spec_l1PickInt.f t2193 bt2217.2.1 bt2217.2.2 (([0, 5, 100001] : List Int))).bind fun bt2223 => (some (t2197, t2198, t2199, bt2208.1, bt2211.1, bt2217.1, bt2223.1)))))) = some (r1, r2, r3, r4, r5, r6, r7) := by first | (rw [hy2205]; with_reducible exact H) | (have H2_ := (Option.bind_some _ _).symm.trans H; rw [hy2205]; with_reducible exact H2_) | (have H2_ := (Option.bind_some _ _).symm.trans H; with_reducible exact H2_) | with_reducible exact H | (rw [hy2205]; exact H) | exact H
  have Ny2205 := Aside0.mk hy2205
  clear hy2205
  replace H := Option.bind_eq_some_iff.mp H
  obtain ⟨⟨t2208, t2209, t2210⟩, A40, H⟩ := H
  replace H : ((spec_l2DrawText.f t2193 t2209 t2210).bind fun bt2211 => ((spec_l1PickInt.f t2193 bt2211.2.1 bt2211.2.2 (([0, 3, 4, (-1)] : List Int))).bind fun bt2217 => ((spec_l1PickInt.f t2193 bt2217.2.1 bt2217.2.2 (([0, 5, 100001] : List Int))).bind fun bt2223 => (some (t2197, t2198, t2199, t2208, bt2211.1, bt2217.1, bt2223.1))))) = some (r1, r2, r3, r4, r5, r6, r7) := H
  have A4 := Aside0.mk A40
  clear A40
  replace H := Option.bind_eq_some_iff.mp H
  obtain ⟨⟨t2211, t2212, t2213⟩, A50, H⟩ := H
  replace H : ((spec_l1PickInt.f t2193 t2212 t2213 (([0, 3, 4, (-1)] : List Int))).bind fun bt2217 => ((spec_l1PickInt.f t2193 bt2217.2.1 bt2217.2.2 (([0, 5, 100001] : List Int))).bind fun bt2223 => (some (t2197, t2198, t2199, t2208, t2211, bt2217.1, bt2223.1)))) = some (r1, r2, r3, r4, r5, r6, r7) := H
  have A5 := Aside0.mk A50
  clear A50
  obtain ⟨y2214, hy2214⟩ : ∃ y_ : List Int, y_ = (([0, 3, 4, (-1)] : List Int)) := ⟨_, rfl⟩
  replace H : ((spec_l1PickInt.f t2193 t2212 t2213 y2214).bind fun bt2217 => ((spec_l1PickInt.f t2193 bt2217.2.1 bt2217.2.2 (([0, 5, 100001] : List Int))).bind fun bt2223 => (some (t2197, t2198, t2199, t2208, t2211, bt2217.1, bt2223.1)))) = some (r1, r2, r3, r4, r5, r6, r7) := by first | (rw [hy2214]; with_reducible exact H) | (have H2_ := (Option.bind_some _ _).symm.trans H; rw [hy2214]; with_reducible exact H2_) | (have H2_ := (Option.bind_some _ _).symm.trans H; with_reducible exact H2_) | with_reducible exact H | (rw [hy2214]; exact H) | exact H
  have Ny2214 := Aside0.mk hy2214
  clear hy2214
  replace H := Option.bind_eq_some_iff.mp H
  obtain ⟨⟨t2217, t2218, t2219⟩, A60, H⟩ := H
  replace H : ((spec_l1PickInt.f t2193 t2218 t2219 (([0, 5, 100001] : List Int))).bind fun bt2223 => (some (t2197, t2198, t2199, t2208, t2211, t2217, bt2223.1))) = some (r1, r2, r3, r4, r5, r6, r7) := H
  have A6 := Aside0.mk A60
  clear A60
  obtain ⟨y2220, hy2220⟩ : ∃ y_ : List Int, y_ = (([0, 5, 100001] : List Int)) := ⟨_, rfl⟩
  replace H : ((spec_l1PickInt.f t2193 t2218 t2219 y2220).bind fun bt2223 => (some (t2197, t2198, t2199, t2208, t2211, t2217, bt2223.1))) = some (r1, r2, r3, r4, r5, r6, r7) := by first | (rw [hy2220]; with_reducible exact H) | (have H2_ := (Option.bind_some _ _).symm.trans H; rw [hy2220]; with_reducible exact H2_) | (have H2_ := (Option.bind_some _ _).symm.trans H; with_reducible exact H2_) | with_reducible exact H | (rw [hy2220]; exact H) | exact H
  have Ny2220 := Aside0.mk hy2220
  clear hy2220
  replace H := Option.bind_eq_some_iff.mp H
  obtain ⟨⟨t2223, t2224, t2225⟩, A70, H⟩ := H
  replace H : (some (t2197, t2198, t2199, t2208, t2211, t2217, t2223)) = some (r1, r2, r3, r4, r5, r6, r7) := H
  have A7 := Aside0.mk A70
  clear A70
  simp only [Option.some.injEq, Prod.mk.injEq] at H
  obtain ⟨rfl, rfl, rfl, rfl, rfl, rfl, rfl⟩ := H
  go_enter Try.func36, Try.ntmps36
  try go_wp2_with (first | ((with_reducible refine gate_dst (N := 2) rfl ?_); refine box_event ?hg (N := 2) ?hd (cs := #[.int .i64 0, .int .i64 0, .slice none 0 0]) (t := 57) ?hr ?_; (case hd => rfl); (case hg => rfl); (case hr => first | (go_simp; done) | (go_simp; rfl)); intro gb2192 hg w8 hbox hb; have BK2192 := Aside0.mk (hbox); have GW2192 := Aside0.mk ((by rw [hg]; exact (below_size (qf0_)) : w.heap.size ≤ gb2192)); have GE2192 := Aside0.mk ((by rw [hg]; exact (below_size (qf0_)) : w.heap.size ≤ gb2192)); replace HB := Aside0.mk (below_step (qf0_) hb); clear hb hbox hg) | ((with_reducible refine gate_callee (f := 76) rfl ?_); refine goesL_ (some 13) rfl rfl Try.func76 (by kernel_rfl) rfl #[.slice A0 l0.length c0] rfl (qf1_) ?_; (with_reducible refine (spec_l1New.calls k _ _ l0 t2193 t2194 t2195 w _ ?side1 ?side2 ?side3 A2.out).mono ?_); (case side1 => repeat (first | (with_reducible first | exact HB.out | apply below_alloc | apply pw_below_drewN | apply below_drew1 | refine below_set ?_ GE2192.out) | exact HB.out)); (case side2 => exact HR0.out); (case side3 => exact HC0.out); rintro e w9 ⟨g2196, rfl, hi, hb, hb2⟩; refine ⟨_, rfl, ?_⟩; have HI2196 := Aside0.mk (hi); have NB2196_2192 := Aside0.mk (IsS_l1Cur.ne_blk hi (blk_below (g := gb2192) (o := .cells #[.int .i64 0, .int .i64 0, .slice none 0 0] 57 (0, 0)) (bq_ BK2192.out) hb2) (by decide)); have NB2192_2196 := Aside0.mk (Ne.symm (IsS_l1Cur.ne_blk hi (blk_below (g := gb2192) (o := .cells #[.int .i64 0, .int .i64 0, .slice none 0 0] 57 (0, 0)) (bq_ BK2192.out) hb2) (by decide))); replace BK2192 := Aside0.mk (blk_below (g := gb2192) (o := .cells #[.int .i64 0, .int .i64 0, .slice none 0 0] 57 (0, 0)) (bq_ BK2192.out) hb2); replace HB := Aside0.mk (hb); (try clear hb); (try clear hb2); (try clear hk); (try clear hi)) | ((with_reducible refine gate_callee (f := 101) rfl ?_); refine goesL_ (some 15) rfl rfl Try.func101 (by kernel_rfl) rfl #[.pointer (some ⟨g2196, 0, none⟩)] rfl (qf1_) ?_; (with_reducible refine (spec_l3Draw.calls k g2196 t2193 t2194 t2195 t2197 t2198 t2199 t2202 t2203 w _ ?side1 ?side2 A3.out).mono ?_); (case side1 => repeat (first | (with_reducible first | exact HI2196.out | apply IsS_l1Cur.alloc | apply IsS_l1Cur.drewN | apply IsS_l1Cur.drew | apply IsS_l1Cur.set_1 | apply IsS_l1Cur.set_2 | refine IsS_l1Cur.far ?_ NB2196_2192.out _) | exact HI2196.out)); (case side2 => repeat (first | (with_reducible first | exact HB.out | apply below_alloc | apply pw_below_drewN | apply below_drew1 | refine below_set ?_ (IsS_l1Cur.ge HI2196.out) | refine below_set ?_ GE2192.out) | exact HB.out)); rintro e w10 ⟨v2200, rfl, ho0, hi, hb, hk⟩; refine ⟨_, rfl, ?_⟩; have HO2201 := Aside0.mk (Kd.R_lower ho0 (below_size (qf10_))); replace BK2192 := Aside0.mk (KeepBut.blk hk (g' := gb2192) (o := .cells #[.int .i64 0, .int .i64 0, .slice none 0 0] 57 (0, 0)) (bq_ BK2192.out) NB2192_2196.out (by simp)); replace HB := Aside0.mk (hb); replace HI2196 := Aside0.mk (hi); (try clear hb); (try clear hb2); (try clear hk); (try clear hi); (try clear ho0)) | ((with_reducible refine gate_dst (N := 8) rfl ?_); refine box_event ?hg (N := 8) ?hd (cs := #[.int .i64 0, .int .i64 0, .slice none 0 0]) (t := 57) ?hr ?_; (case hd => rfl); (case hg => rfl); (case hr => first | (go_simp; done) | (go_simp; rfl)); intro gb2204 hg w11 hbox hb; have BK2204 := Aside0.mk (hbox); have GW2204 := Aside0.mk ((by rw [hg]; exact (below_size (qf10_)) : w.heap.size ≤ gb2204)); have GE2204 := Aside0.mk ((by rw [hg]; exact (below_size (qf10_)) : w.heap.size ≤ gb2204)); have NB2192_2204 := Aside0.mk ((by rw [hg]; exact Nat.ne_of_lt (blk_lt (g := gb2192) (o := .cells #[.int .i64 0, .int .i64 0, .slice none 0 0] 57 (0, 0)) (bq_ BK2192.out)) : gb2192 ≠ gb2204)); have NB2204_2192 := Aside0.mk ((by rw [hg]; exact Nat.ne_of_gt (blk_lt (g := gb2192) (o := .cells #[.int .i64 0, .int .i64 0, .slice none 0 0] 57 (0, 0)) (bq_ BK2192.out)) : gb2204 ≠ gb2192)); have NB2196_2204 := Aside0.mk ((by rw [hg]; exact Nat.ne_of_lt (IsS_l1Cur.lt (show IsS_l1Cur w _ g2196 t2193 t2202 t2203 from by repeat (first | (with_reducible first | exact HI2196.out | apply IsS_l1Cur.alloc | apply IsS_l1Cur.drewN | apply IsS_l1Cur.drew | apply IsS_l1Cur.set_1 | apply IsS_l1Cur.set_2 | refine IsS_l1Cur.far ?_ NB2196_2192.out _) | exact HI2196.out))) : g2196 ≠ gb2204)); have NB2204_2196 := Aside0.mk ((by rw [hg]; exact Nat.ne_of_gt (IsS_l1Cur.lt (show IsS_l1Cur w _ g2196 t2193 t2202 t2203 from by repeat (first | (with_reducible first | exact HI2196.out | apply IsS_l1Cur.alloc | apply IsS_l1Cur.drewN | apply IsS_l1Cur.drew | apply IsS_l1Cur.set_1 | apply IsS_l1Cur.set_2 | refine IsS_l1Cur.far ?_ NB2196_2192.out _) | exact HI2196.out))) : gb2204 ≠ g2196)); replace HO2201 := Aside0.mk (Kd.R_below (qf11_) hb); replace BK2192 := Aside0.mk (blk_below (g := gb2192) (o := .cells #[.int .i64 0, .int .i64 0, .slice none 0 0] 57 (0, 0)) (bq_ BK2192.out) hb); replace HB := Aside0.mk (below_step (qf10_) hb); replace HI2196 := Aside0.mk (IsS_l1Cur.below (by repeat (first | (with_reducible first | exact HI2196.out | apply IsS_l1Cur.alloc | apply IsS_l1Cur.drewN | apply IsS_l1Cur.drew | apply IsS_l1Cur.set_1 | apply IsS_l1Cur.set_2 | refine IsS_l1Cur.far ?_ NB2196_2192.out _) | exact HI2196.out)) hb); clear hb hbox hg; have hnb12 := NB2204_2192.out; have hnc12 := NB2192_2204.out; have hnb13 := NB2204_2196.out; have hnc13 := NB2196_2204.out; have hcz14_0 : w11.cell? ⟨gb2204, 0, none⟩ = some (.int .i64 0) := bc_ BK2204 0; have hcz14_1 : w11.cell? ⟨gb2204, 1, none⟩ = some (.int .i64 0) := bc_ BK2204 1; have hcz14_2 : w11.cell? ⟨gb2204, 2, none⟩ = some (.slice none 0 0) := bc_ BK2204 2; have hfz14_0 := blk_frozen BK2204.out 0; have hfz14_1 := blk_frozen BK2204.out 1; have hfz14_2 := blk_frozen BK2204.out 2; obtain ⟨Ao15, co15, eo15⟩ := Kd.R_slice HO2201.out; subst eo15) | ((with_reducible refine gate_dst (N := 17) rfl ?_); refine Kd.R_lit Kd.string _ 9 ?hg (N := 17) ?hd (xs := ([(⟨#[97]⟩ : ByteArray), (⟨#[]⟩ : ByteArray), (⟨#[65]⟩ : ByteArray)] : List ByteArray)) (inner := [.string (⟨#[97]⟩ : ByteArray), .string (⟨#[]⟩ : ByteArray), .string (⟨#[65]⟩ : ByteArray)]) (ok := fun _ => True) (okp := fun _ => True) ?hr ?hp (fun _ hk => hk) trivial (Below.refl _ _) (Nat.le_refl _) (by simp) ?_; (case hd => rfl); (case hg => rfl); (case hr => first | (go_simp; done) | (go_simp; rfl)); (case hp => exact (Reps.one (show Kd.M Kd.string _ _ _ (⟨#[97]⟩ : ByteArray) [.string (⟨#[97]⟩ : ByteArray)] from rfl) (Reps.one (show Kd.M Kd.string _ _ _ (⟨#[]⟩ : ByteArray) [.string (⟨#[]⟩ : ByteArray)] from rfl) (Reps.one (show Kd.M Kd.string _ _ _ (⟨#[65]⟩ : ByteArray) [.string (⟨#[65]⟩ : ByteArray)] from rfl) (Reps.none _ _))))); intro v2206 w16 ho17 hb hg_ hnew_; clear hg_ hnew_; (first | rw [← Ny2205.out] at ho17 | (simp only [Int.reduceToNat] at ho17; rw [← Ny2205.out] at ho17)); have HO2207 := Aside0.mk (Kd.R_lower ho17 (below_size (qf3_))); replace HO2201 := Aside0.mk (Kd.R_below (by (with_reducible repeat (first | apply Kd.R_alloc | apply Kd.R_drewN | apply Kd.R_drew)); exact (Kd.R_mono (Kd.R_far (p := ⟨gb2204, 2, none⟩) (Kd.R_far (p := ⟨gb2204, 1, none⟩) (Kd.R_far (p := ⟨gb2204, 0, none⟩) (Kd.R_types HO2201.out BK2204.out (by decide)) (fun _ hk => hk.2) (.int .i64 t2197)) (fun _ hk => hk.2) (.int .i64 t2198)) (fun _ hk => hk.2) (.slice Ao15 t2199.length co15)) (fun _ h_ => h_.1))) hb); replace BK2192 := Aside0.mk (blk_below (g := gb2192) (o := .cells #[.int .i64 0, .int .i64 0, .slice none 0 0] 57 (0, 0)) (bf_ NB2192_2204.out BK2192.out) hb); replace BK2204 := Aside0.mk (blk_below (g := gb2204) (o := .cells #[.int .i64 t2197, .int .i64 t2198, .slice Ao15 t2199.length co15] 57 (0, 0)) (bp_ BK2204.out) hb); replace HB := Aside0.mk (below_step (qf3_) hb); replace HI2196 := Aside0.mk (IsS_l1Cur.below (show IsS_l1Cur w (((w11.setCell ⟨gb2204, 0, none⟩ (.int .i64 t2197)).setCell ⟨gb2204, 1, none⟩ (.int .i64 t2198)).setCell ⟨gb2204, 2, none⟩ (.slice Ao15 t2199.length co15)) g2196 t2193 t2202 t2203 from by repeat (first | (with_reducible first | exact HI2196.out | apply IsS_l1Cur.alloc | apply IsS_l1Cur.drewN | apply IsS_l1Cur.drew | apply IsS_l1Cur.set_1 | apply IsS_l1Cur.set_2 | refine IsS_l1Cur.far ?_ NB2196_2192.out _ | refine IsS_l1Cur.far ?_ NB2196_2204.out _) | exact HI2196.out)) hb); clear hb ho17; obtain ⟨Ao18, co18, eo18⟩ := Kd.R_slice HO2207.out; subst eo18) | ((with_reducible refine gate_callee (f := 102) rfl ?_); refine goesL_ (some 18) rfl rfl Try.func102 (by kernel_rfl) rfl #[.pointer (some ⟨g2196, 0, none⟩), .slice Ao18 y2205.length co18] rfl (qf1_) ?_; (with_reducible refine (spec_l1Pick.calls g2196 t2193 t2202 t2203 _ _ y2205 t2208 t2209 t2210 w _ ?side1 ?side2 ?side3 ?side4 ?side5 A4.out).mono ?_); (case side1 => repeat (first | (with_reducible first | exact HI2196.out | apply IsS_l1Cur.alloc | apply IsS_l1Cur.drewN | apply IsS_l1Cur.drew | apply IsS_l1Cur.set_1 | apply IsS_l1Cur.set_2 | refine IsS_l1Cur.far ?_ NB2196_2192.out _ | refine IsS_l1Cur.far ?_ NB2196_2204.out _) | exact HI2196.out)); (case side2 => repeat (first | (with_reducible first | exact HB.out | apply below_alloc | apply pw_below_drewN | apply below_drew1 | refine below_set ?_ (IsS_l1Cur.ge HI2196.out) | refine below_set ?_ GE2192.out | refine below_set ?_ GE2204.out) | exact HB.out)); (case side3 => repeat (first | exact (Kd.R_reads' HO2207.out).2.2 | (with_reducible refine Kd.C_alloc ?_ _) | (with_reducible refine Kd.C_drewN ?_ _) | (with_reducible refine Kd.C_drew ?_))); (case side4 => exact (Kd.R_reads' HO2207.out).2.1); (case side5 => exact far_slice (IsS_l1Cur.own_ne HI2196.out HO2207.out (by decide))); rintro e w19 ⟨rfl, hi, hb, hk⟩; refine ⟨_, rfl, ?_⟩; replace BK2192 := Aside0.mk (KeepBut.blk hk (g' := gb2192) (o := .cells #[.int .i64 0, .int .i64 0, .slice none 0 0] 57 (0, 0)) (bq_ BK2192.out) NB2192_2196.out (by simp)); replace HO2201 := Aside0.mk (Kd.R_mono (Kd.R_keep (IsS_l1Cur.apart (show IsS_l1Cur w _ g2196 t2193 t2202 t2203 from by repeat (first | (with_reducible first | exact HI2196.out | apply IsS_l1Cur.alloc | apply IsS_l1Cur.drewN | apply IsS_l1Cur.drew | apply IsS_l1Cur.set_1 | apply IsS_l1Cur.set_2 | refine IsS_l1Cur.far ?_ NB2196_2192.out _ | refine IsS_l1Cur.far ?_ NB2196_2204.out _) | exact HI2196.out)) (qf11_) (by decide)) hk (fun _ h => h.2)) (fun _ h => h.1)); replace BK2204 := Aside0.mk (KeepBut.blk hk (g' := gb2204) (o := .cells #[.int .i64 t2197, .int .i64 t2198, .slice Ao15 t2199.length co15] 57 (0, 0)) (bq_ BK2204.out) NB2204_2196.out (by simp)); replace HO2207 := Aside0.mk (Kd.R_mono (Kd.R_keep (IsS_l1Cur.apart (show IsS_l1Cur w _ g2196 t2193 t2202 t2203 from by repeat (first | (with_reducible first | exact HI2196.out | apply IsS_l1Cur.alloc | apply IsS_l1Cur.drewN | apply IsS_l1Cur.drew | apply IsS_l1Cur.set_1 | apply IsS_l1Cur.set_2 | refine IsS_l1Cur.far ?_ NB2196_2192.out _ | refine IsS_l1Cur.far ?_ NB2196_2204.out _) | exact HI2196.out)) (qf14_) (by decide)) hk (fun _ h => h.2)) (fun _ h => h.1)); replace HB := Aside0.mk (hb); replace HI2196 := Aside0.mk (hi); (try clear hb); (try clear hb2); (try clear hk); (try clear hi)) | ((with_reducible refine gate_callee (f := 103) rfl ?_); refine goesL_ (some 20) rfl rfl Try.func103 (by kernel_rfl) rfl #[.pointer (some ⟨g2196, 0, none⟩)] rfl (qf1_) ?_; (with_reducible refine (spec_l2DrawText.calls g2196 t2193 t2209 t2210 t2211 t2212 t2213 w _ ?side1 ?side2 A5.out).mono ?_); (case side1 => repeat (first | (with_reducible first | exact HI2196.out | apply IsS_l1Cur.alloc | apply IsS_l1Cur.drewN | apply IsS_l1Cur.drew | apply IsS_l1Cur.set_1 | apply IsS_l1Cur.set_2 | refine IsS_l1Cur.far ?_ NB2196_2192.out _ | refine IsS_l1Cur.far ?_ NB2196_2204.out _) | exact HI2196.out)); (case side2 => repeat (first | (with_reducible first | exact HB.out | apply below_alloc | apply pw_below_drewN | apply below_drew1 | refine below_set ?_ (IsS_l1Cur.ge HI2196.out) | refine below_set ?_ GE2192.out | refine below_set ?_ GE2204.out) | exact HB.out)); rintro e w20 ⟨rfl, hi, hb, hk⟩; refine ⟨_, rfl, ?_⟩; replace BK2192 := Aside0.mk (KeepBut.blk hk (g' := gb2192) (o := .cells #[.int .i64 0, .int .i64 0, .slice none 0 0] 57 (0, 0)) (bq_ BK2192.out) NB2192_2196.out (by simp)); replace HO2201 := Aside0.mk (Kd.R_mono (Kd.R_keep (IsS_l1Cur.apart (show IsS_l1Cur w _ g2196 t2193 t2209 t2210 from by repeat (first | (with_reducible first | exact HI2196.out | apply IsS_l1Cur.alloc | apply IsS_l1Cur.drewN | apply IsS_l1Cur.drew | apply IsS_l1Cur.set_1 | apply IsS_l1Cur.set_2 | refine IsS_l1Cur.far ?_ NB2196_2192.out _ | refine IsS_l1Cur.far ?_ NB2196_2204.out _) | exact HI2196.out)) (qf11_) (by decide)) hk (fun _ h => h.2)) (fun _ h => h.1)); replace BK2204 := Aside0.mk (KeepBut.blk hk (g' := gb2204) (o := .cells #[.int .i64 t2197, .int .i64 t2198, .slice Ao15 t2199.length co15] 57 (0, 0)) (bq_ BK2204.out) NB2204_2196.out (by simp)); replace HO2207 := Aside0.mk (Kd.R_mono (Kd.R_keep (IsS_l1Cur.apart (show IsS_l1Cur w _ g2196 t2193 t2209 t2210 from by repeat (first | (with_reducible first | exact HI2196.out | apply IsS_l1Cur.alloc | apply IsS_l1Cur.drewN | apply IsS_l1Cur.drew | apply IsS_l1Cur.set_1 | apply IsS_l1Cur.set_2 | refine IsS_l1Cur.far ?_ NB2196_2192.out _ | refine IsS_l1Cur.far ?_ NB2196_2204.out _) | exact HI2196.out)) (qf14_) (by decide)) hk (fun _ h => h.2)) (fun _ h => h.1)); replace HB := Aside0.mk (hb); replace HI2196 := Aside0.mk (hi); (try clear hb); (try clear hb2); (try clear hk); (try clear hi)) | ((with_reducible refine gate_dst (N := 22) rfl ?_); refine Kd.R_lit (Kd.int .i64) _ 3 ?hg (N := 22) ?hd (xs := ([0, 3, 4, (-1)] : List Int)) (inner := [.int .i64 0, .int .i64 3, .int .i64 4, .int .i64 (-1)]) (ok := fun _ => True) (okp := fun _ => True) ?hr ?hp (fun _ hk => hk) trivial (Below.refl _ _) (Nat.le_refl _) (by simp) ?_; (case hd => rfl); (case hg => rfl); (case hr => first | (go_simp; done) | (go_simp; rfl)); (case hp => exact (Reps.one (show Kd.M (Kd.int .i64) _ _ _ 0 [.int .i64 0] from rfl) (Reps.one (show Kd.M (Kd.int .i64) _ _ _ 3 [.int .i64 3] from rfl) (Reps.one (show Kd.M (Kd.int .i64) _ _ _ 4 [.int .i64 4] from rfl) (Reps.one (show Kd.M (Kd.int .i64) _ _ _ (-1) [.int .i64 (-1)] from rfl) (Reps.none _ _)))))); intro v2215 w21 ho22 hb hg_ hnew_; clear hg_ hnew_; (first | rw [← Ny2214.out] at ho22 | (simp only [Int.reduceToNat] at ho22; rw [← Ny2214.out] at ho22)); have HO2216 := Aside0.mk (Kd.R_lower ho22 (below_size (qf3_))); replace HO2201 := Aside0.mk (Kd.R_below (qf11_) hb); replace HO2207 := Aside0.mk (Kd.R_below (qf14_) hb); replace BK2192 := Aside0.mk (blk_below (g := gb2192) (o := .cells #[.int .i64 0, .int .i64 0, .slice none 0 0] 57 (0, 0)) (bq_ BK2192.out) hb); replace BK2204 := Aside0.mk (blk_below (g := gb2204) (o := .cells #[.int .i64 t2197, .int .i64 t2198, .slice Ao15 t2199.length co15] 57 (0, 0)) (bq_ BK2204.out) hb); replace HB := Aside0.mk (below_step (qf3_) hb); replace HI2196 := Aside0.mk (IsS_l1Cur.below (qf20_) hb); clear hb ho22; obtain ⟨Ao23, co23, eo23⟩ := Kd.R_slice HO2216.out; subst eo23) | ((with_reducible refine gate_callee (f := 104) rfl ?_); refine goesL_ (some 23) rfl rfl Try.func104 (by kernel_rfl) rfl #[.pointer (some ⟨g2196, 0, none⟩), .slice Ao23 y2214.length co23] rfl (qf1_) ?_; (with_reducible refine (spec_l1PickInt.calls g2196 t2193 t2212 t2213 _ _ y2214 t2217 t2218 t2219 w _ ?side1 ?side2 ?side3 ?side4 ?side5 A6.out).mono ?_); (case side1 => repeat (first | (with_reducible first | exact HI2196.out | apply IsS_l1Cur.alloc | apply IsS_l1Cur.drewN | apply IsS_l1Cur.drew | apply IsS_l1Cur.set_1 | apply IsS_l1Cur.set_2 | refine IsS_l1Cur.far ?_ NB2196_2192.out _ | refine IsS_l1Cur.far ?_ NB2196_2204.out _) | exact HI2196.out)); (case side2 => repeat (first | (with_reducible first | exact HB.out | apply below_alloc | apply pw_below_drewN | apply below_drew1 | refine below_set ?_ (IsS_l1Cur.ge HI2196.out) | refine below_set ?_ GE2192.out | refine below_set ?_ GE2204.out) | exact HB.out)); (case side3 => repeat (first | exact (Kd.R_reads' HO2216.out).2.2 | (with_reducible refine Kd.C_alloc ?_ _) | (with_reducible refine Kd.C_drewN ?_ _) | (with_reducible refine Kd.C_drew ?_))); (case side4 => exact (Kd.R_reads' HO2216.out).2.1); (case side5 => exact far_slice (IsS_l1Cur.own_ne HI2196.out HO2216.out (by decide))); rintro e w24 ⟨rfl, hi, hb, hk⟩; refine ⟨_, rfl, ?_⟩; replace BK2192 := Aside0.mk (KeepBut.blk hk (g' := gb2192) (o := .cells #[.int .i64 0, .int .i64 0, .slice none 0 0] 57 (0, 0)) (bq_ BK2192.out) NB2192_2196.out (by simp)); replace HO2201 := Aside0.mk (Kd.R_mono (Kd.R_keep (IsS_l1Cur.apart (show IsS_l1Cur w _ g2196 t2193 t2212 t2213 from by repeat (first | (with_reducible first | exact HI2196.out | apply IsS_l1Cur.alloc | apply IsS_l1Cur.drewN | apply IsS_l1Cur.drew | apply IsS_l1Cur.set_1 | apply IsS_l1Cur.set_2 | refine IsS_l1Cur.far ?_ NB2196_2192.out _ | refine IsS_l1Cur.far ?_ NB2196_2204.out _) | exact HI2196.out)) (qf11_) (by decide)) hk (fun _ h => h.2)) (fun _ h => h.1)); replace BK2204 := Aside0.mk (KeepBut.blk hk (g' := gb2204) (o := .cells #[.int .i64 t2197, .int .i64 t2198, .slice Ao15 t2199.length co15] 57 (0, 0)) (bq_ BK2204.out) NB2204_2196.out (by simp)); replace HO2207 := Aside0.mk (Kd.R_mono (Kd.R_keep (IsS_l1Cur.apart (show IsS_l1Cur w _ g2196 t2193 t2212 t2213 from by repeat (first | (with_reducible first | exact HI2196.out | apply IsS_l1Cur.alloc | apply IsS_l1Cur.drewN | apply IsS_l1Cur.drew | apply IsS_l1Cur.set_1 | apply IsS_l1Cur.set_2 | refine IsS_l1Cur.far ?_ NB2196_2192.out _ | refine IsS_l1Cur.far ?_ NB2196_2204.out _) | exact HI2196.out)) (qf14_) (by decide)) hk (fun _ h => h.2)) (fun _ h => h.1)); replace HO2216 := Aside0.mk (Kd.R_mono (Kd.R_keep (IsS_l1Cur.apart (show IsS_l1Cur w _ g2196 t2193 t2212 t2213 from by repeat (first | (with_reducible first | exact HI2196.out | apply IsS_l1Cur.alloc | apply IsS_l1Cur.drewN | apply IsS_l1Cur.drew | apply IsS_l1Cur.set_1 | apply IsS_l1Cur.set_2 | refine IsS_l1Cur.far ?_ NB2196_2192.out _ | refine IsS_l1Cur.far ?_ NB2196_2204.out _) | exact HI2196.out)) (qf18_) (by decide)) hk (fun _ h => h.2)) (fun _ h => h.1)); replace HB := Aside0.mk (hb); replace HI2196 := Aside0.mk (hi); (try clear hb); (try clear hb2); (try clear hk); (try clear hi)))
  replace HO2201 := Aside0.mk (Kd.R_drew HO2201.out)
  replace HO2207 := Aside0.mk (Kd.R_drew HO2207.out)
  replace HO2216 := Aside0.mk (Kd.R_drew HO2216.out)
  replace BK2192 := Aside0.mk (blk_drew BK2192.out)
  replace BK2204 := Aside0.mk (blk_drew BK2204.out)
  replace HI2196 := Aside0.mk (IsS_l1Cur.drew HI2196.out)
  replace HB := Aside0.mk (below_drew1 HB.out)
  refine start_ (n := 12) (S := fun w' => w'.cell? ⟨gb2204, 0, none⟩ = some (.int .i64 t2197) ∧ w'.cell? ⟨gb2204, 1, none⟩ = some (.int .i64 t2198) ∧ w'.cell? ⟨gb2204, 2, none⟩ = some (.slice Ao15 t2199.length co15)) (ds := []) #[false, false, false, false, false, false, false, false, false, false, false, false] (by kernel_rfl) rfl rfl ⟨bc_ BK2204 0, bc_ BK2204 1, bc_ BK2204 2⟩ (fun hHeld => ?_); refine with_tabW spec_DrawRowPut.tab6 spec_DrawRowPut.bits6 (fun HT_ HW_ => ?_)
  generalize w24.drew = w25 at HO2201 HO2207 HO2216 BK2192 BK2204 HI2196 HB hHeld ⊢
  refine pure_ (i := 1) (N := some 25) (v := ?_) (a' := ?_) #[false, true, false, false, false, false, false, false, false, false, false, false] rfl rfl (any_of HT_.out (by kernel_rfl)) (fun _ _ _ h => h) (Or.inl ⟨by rfl, ?_⟩) ?_ ?_
  rotate_left
  · intro w'
    go_simp
    with_reducible rfl
  rotate_left
  · simp only [Act.put, List.setIfInBounds_toArray, List.set_cons_zero, List.set_cons_succ, i64_w, i32_w]
    rfl
  refine pure_ (i := 2) (N := some 26) (v := ?_) (a' := ?_) #[false, true, true, false, false, false, false, false, false, false, false, false] rfl rfl (any_of HT_.out (by kernel_rfl)) (fun _ _ _ h => h) (Or.inl ⟨by rfl, ?_⟩) ?_ ?_
  rotate_left
  · intro w'
    go_simp
    with_reducible rfl
  rotate_left
  · simp only [Act.put, List.setIfInBounds_toArray, List.set_cons_zero, List.set_cons_succ, i64_w, i32_w]
    rfl
  refine pure_ (i := 3) (N := some 27) (v := ?_) (a' := ?_) #[false, true, true, true, false, false, false, false, false, false, false, false] rfl rfl (any_of HT_.out (by kernel_rfl)) (fun _ _ _ h => h) (Or.inl ⟨by rfl, ?_⟩) ?_ ?_
  rotate_left
  · intro w'
    go_simp
    with_reducible rfl
  rotate_left
  · simp only [Act.put, List.setIfInBounds_toArray, List.set_cons_zero, List.set_cons_succ, i64_w, i32_w]
    rfl
  refine pure_ (i := 4) (N := some 28) (v := ?_) (a' := ?_) #[false, true, true, true, true, false, false, false, false, false, false, false] rfl rfl (any_of HT_.out (by kernel_rfl)) (fun _ _ _ h => h) (Or.inl ⟨by rfl, ?_⟩) ?_ ?_
  rotate_left
  · intro w'
    go_simp
    with_reducible rfl
  rotate_left
  · simp only [Act.put, List.setIfInBounds_toArray, List.set_cons_zero, List.set_cons_succ, i64_w, i32_w]
    rfl
  refine take_ (i := 0) (N := some 24) (v := ?_) (a' := ?_) #[true, true, true, true, true, false, false, false, false, false, false, false] rfl rfl (take_ofW HT_.out HW_.out (by kernel_rfl)) (fun _ _ _ h => h) (Or.inl ⟨by rfl, ?_⟩) hHeld ?_ ?_
  rotate_left
  · rintro w' ⟨s0, s1, s2⟩
    go_simp
    with_reducible rfl
  rotate_left
  · simp only [Act.put, List.setIfInBounds_toArray, List.set_cons_zero, List.set_cons_succ, i64_w, i32_w]
    rfl
  refine on_ 5 29 HT_ #[true, true, true, true, true, true, false, false, false, false, false, false] rfl rfl (fun K hK => ?_)
  refine Kd.R_lit_step (Kd.int .i64) _ 3 ?hg (N := 29) ?hd (xs := ([0, 5, 100001] : List Int)) (inner := [.int .i64 0, .int .i64 5, .int .i64 100001]) (ok := fun _ => True) (okp := fun _ => True) ?hr ?hp (fun _ hk => hk) trivial (Below.refl _ _) (Nat.le_refl _) (by simp) ?_; (case hd => rfl); (case hg => rfl); (case hr => first | (go_simp; done) | (go_simp; rfl)); (case hp => exact (Reps.one (show Kd.M (Kd.int .i64) _ _ _ 0 [.int .i64 0] from rfl) (Reps.one (show Kd.M (Kd.int .i64) _ _ _ 5 [.int .i64 5] from rfl) (Reps.one (show Kd.M (Kd.int .i64) _ _ _ 100001 [.int .i64 100001] from rfl) (Reps.none _ _)))))
  intro v2221 w26 ho27 hb hg_ hnew_
  clear hg_ hnew_
  (first | rw [← Ny2220.out] at ho27 | (simp only [Int.reduceToNat] at ho27; rw [← Ny2220.out] at ho27))
  have HO2222 := Aside0.mk (Kd.R_lower (Kd.R_new' ho27 (Kd.R_lt (qf18_))) (below_size (qf3_)))
  replace HO2201 := Aside0.mk (Kd.R_below (qf11_) hb)
  replace HO2207 := Aside0.mk (Kd.R_below (qf14_) hb)
  replace HO2216 := Aside0.mk (Kd.R_elder' (qf18_) (Kd.R_base ho27) hb)
  replace BK2192 := Aside0.mk (blk_below (g := gb2192) (o := .cells #[.int .i64 0, .int .i64 0, .slice none 0 0] 57 (0, 0)) (bq_ BK2192.out) hb)
  replace BK2204 := Aside0.mk (blk_below (g := gb2204) (o := .cells #[.int .i64 t2197, .int .i64 t2198, .slice Ao15 t2199.length co15] 57 (0, 0)) (bq_ BK2204.out) hb)
  replace HB := Aside0.mk (below_step (qf3_) hb)
  replace HI2196 := Aside0.mk (IsS_l1Cur.below (qf20_) hb)
  clear hb ho27
  obtain ⟨Ao28, co28, eo28⟩ := Kd.R_slice HO2222.out
  (first | subst eo28 | (injection eo28 with f1_ f2_ f3_; have f4_ := f1_.symm; have f5_ := f3_.symm; clear f1_ f2_ f3_; subst f4_; subst f5_))
  refine hK.out _ _ ⟨bc_ BK2204 0, bc_ BK2204 1, bc_ BK2204 2⟩ (fun hHeld => ?_)
  clear hK K
  refine norm_ (a' := ?_) ?_ ?_
  rotate_left
  · show Act.put _ (some 29) _ = _
    simp only [Act.put, List.setIfInBounds_toArray, List.set_cons_zero, List.set_cons_succ, i64_w, i32_w]
    rfl
  refine on_ 6 30 HT_ #[true, true, true, true, true, true, true, false, false, false, false, false] rfl rfl (fun K hK => ?_)
  refine goes_ Try.func104 (by kernel_rfl) rfl #[.pointer (some ⟨g2196, 0, none⟩), .slice Ao28 y2220.length co28] (by rfl) rfl rfl (qf1_) ?_
  with_reducible refine (spec_l1PickInt.calls g2196 t2193 t2218 t2219 _ _ y2220 t2223 t2224 t2225 w _ ?side1 ?side2 ?side3 ?side4 ?side5 A7.out).mono ?_
  (case side1 => repeat (first | (with_reducible first | exact HI2196.out | apply IsS_l1Cur.alloc | apply IsS_l1Cur.drewN | apply IsS_l1Cur.drew | apply IsS_l1Cur.set_1 | apply IsS_l1Cur.set_2 | refine IsS_l1Cur.far ?_ NB2196_2192.out _ | refine IsS_l1Cur.far ?_ NB2196_2204.out _) | exact HI2196.out))
  (case side2 => repeat (first | (with_reducible first | exact HB.out | apply below_alloc | apply pw_below_drewN | apply below_drew1 | refine below_set ?_ (IsS_l1Cur.ge HI2196.out) | refine below_set ?_ GE2192.out | refine below_set ?_ GE2204.out) | exact HB.out))
  (case side3 => repeat (first | exact (Kd.R_reads' HO2222.out).2.2 | (with_reducible refine Kd.C_alloc ?_ _) | (with_reducible refine Kd.C_drewN ?_ _) | (with_reducible refine Kd.C_drew ?_)))
  (case side4 => exact (Kd.R_reads' HO2222.out).2.1)
  (case side5 => exact far_slice (IsS_l1Cur.own_ne HI2196.out HO2222.out (by decide)))
  rintro e w29 ⟨rfl, hi, hb, hk⟩
  refine ⟨_, rfl, ?_⟩
  replace BK2192 := Aside0.mk (KeepBut.blk hk (g' := gb2192) (o := .cells #[.int .i64 0, .int .i64 0, .slice none 0 0] 57 (0, 0)) (bq_ BK2192.out) NB2192_2196.out (by simp))
  replace HO2201 := Aside0.mk (Kd.R_mono (Kd.R_keep (IsS_l1Cur.apart (show IsS_l1Cur w _ g2196 t2193 t2218 t2219 from by repeat (first | (with_reducible first | exact HI2196.out | apply IsS_l1Cur.alloc | apply IsS_l1Cur.drewN | apply IsS_l1Cur.drew | apply IsS_l1Cur.set_1 | apply IsS_l1Cur.set_2 | refine IsS_l1Cur.far ?_ NB2196_2192.out _ | refine IsS_l1Cur.far ?_ NB2196_2204.out _) | exact HI2196.out)) (qf11_) (by decide)) hk (fun _ h => h.2)) (fun _ h => h.1))
  replace BK2204 := Aside0.mk (KeepBut.blk hk (g' := gb2204) (o := .cells #[.int .i64 t2197, .int .i64 t2198, .slice Ao15 t2199.length co15] 57 (0, 0)) (bq_ BK2204.out) NB2204_2196.out (by simp))
  replace HO2207 := Aside0.mk (Kd.R_mono (Kd.R_keep (IsS_l1Cur.apart (show IsS_l1Cur w _ g2196 t2193 t2218 t2219 from by repeat (first | (with_reducible first | exact HI2196.out | apply IsS_l1Cur.alloc | apply IsS_l1Cur.drewN | apply IsS_l1Cur.drew | apply IsS_l1Cur.set_1 | apply IsS_l1Cur.set_2 | refine IsS_l1Cur.far ?_ NB2196_2192.out _ | refine IsS_l1Cur.far ?_ NB2196_2204.out _) | exact HI2196.out)) (qf14_) (by decide)) hk (fun _ h => h.2)) (fun _ h => h.1))
  replace HO2216 := Aside0.mk (Kd.R_mono (Kd.R_keep (IsS_l1Cur.apart (show IsS_l1Cur w _ g2196 t2193 t2218 t2219 from by repeat (first | (with_reducible first | exact HI2196.out | apply IsS_l1Cur.alloc | apply IsS_l1Cur.drewN | apply IsS_l1Cur.drew | apply IsS_l1Cur.set_1 | apply IsS_l1Cur.set_2 | refine IsS_l1Cur.far ?_ NB2196_2192.out _ | refine IsS_l1Cur.far ?_ NB2196_2204.out _) | exact HI2196.out)) (qf18_) (by decide)) hk (fun _ h => h.2)) (fun _ h => h.1))
  replace HO2222 := Aside0.mk (Kd.R_mono (Kd.R_keep (IsS_l1Cur.apart (show IsS_l1Cur w _ g2196 t2193 t2218 t2219 from by repeat (first | (with_reducible first | exact HI2196.out | apply IsS_l1Cur.alloc | apply IsS_l1Cur.drewN | apply IsS_l1Cur.drew | apply IsS_l1Cur.set_1 | apply IsS_l1Cur.set_2 | refine IsS_l1Cur.far ?_ NB2196_2192.out _ | refine IsS_l1Cur.far ?_ NB2196_2204.out _) | exact HI2196.out)) (by (with_reducible repeat (first | apply Kd.R_alloc | apply Kd.R_drewN | apply Kd.R_drew)); exact HO2222.out) (by decide)) hk (fun _ h => h.2)) (fun _ h => h.1))
  replace HB := Aside0.mk (hb)
  replace HI2196 := Aside0.mk (hi)
  (try clear hb); (try clear hb2); (try clear hk); (try clear hi)
  refine hK.out _ _ ⟨bc_ BK2204 0, bc_ BK2204 1, bc_ BK2204 2⟩ (fun hHeld => ?_)
  clear hK K
  refine norm_ (a' := ?_) ?_ ?_
  rotate_left
  · show Act.put _ (some 30) _ = _
    simp only [Act.put, List.setIfInBounds_toArray, List.set_cons_zero, List.set_cons_succ, i64_w, i32_w]
    rfl
  refine one_ (i := 7) (N := none) #[true, true, true, true, true, true, true, true, false, false, false, false] rfl rfl (one_of HT_.out (by kernel_rfl)) (by decide) (fun K hK => ?_)
  have hs30 : w29.cell? ⟨gb2192, 0, none⟩ = some (.int .i64 0) := bc_ BK2192 0
  have hfs30 := blk_frozen BK2192.out 0
  have hns30_1 := NB2204_2192.out
  have hms30_1 := NB2192_2204.out
  have hs31 : w29.cell? ⟨gb2192, 1, none⟩ = some (.int .i64 0) := bc_ BK2192 1
  have hfs31 := blk_frozen BK2192.out 1
  have hns31_1 := NB2204_2192.out
  have hms31_1 := NB2192_2204.out
  have hs32 : w29.cell? ⟨gb2192, 2, none⟩ = some (.slice none 0 0) := bc_ BK2192 2
  have hfs32 := blk_frozen BK2192.out 2
  have hns32_1 := NB2204_2192.out
  have hms32_1 := NB2192_2204.out
  refine skip_ (w1 := ?_) (by rfl) rfl ?_ ?_
  rotate_left
  · go_simp
    rfl
  refine hK.out _ _ ⟨(cfs_ NB2204_2192.out (hHeld.1)), (cfs_ NB2204_2192.out (hHeld.2.1)), (cfs_ NB2204_2192.out (hHeld.2.2))⟩ (fun hHeld => ?_)
  clear hK K
  refine pure_ (i := 8) (N := some 3) (v := ?_) (a' := ?_) #[true, true, true, true, true, true, true, true, true, false, false, false] rfl rfl (any_of HT_.out (by kernel_rfl)) (fun _ _ _ h => h) (Or.inl ⟨by rfl, ?_⟩) ?_ ?_
  rotate_left
  · intro w'
    go_simp
    with_reducible rfl
  rotate_left
  · simp only [Act.put, List.setIfInBounds_toArray, List.set_cons_zero, List.set_cons_succ, i64_w, i32_w]
    rfl
  refine pure_ (i := 9) (N := some 4) (v := ?_) (a' := ?_) #[true, true, true, true, true, true, true, true, true, true, false, false] rfl rfl (any_of HT_.out (by kernel_rfl)) (fun _ _ _ h => h) (Or.inl ⟨by rfl, ?_⟩) ?_ ?_
  rotate_left
  · intro w'
    go_simp
    with_reducible rfl
  rotate_left
  · simp only [Act.put, List.setIfInBounds_toArray, List.set_cons_zero, List.set_cons_succ, i64_w, i32_w]
    rfl
  refine pure_ (i := 10) (N := some 5) (v := ?_) (a' := ?_) #[true, true, true, true, true, true, true, true, true, true, true, false] rfl rfl (any_of HT_.out (by kernel_rfl)) (fun _ _ _ h => h) (Or.inl ⟨by rfl, ?_⟩) ?_ ?_
  rotate_left
  · intro w'
    go_simp
    with_reducible rfl
  rotate_left
  · simp only [Act.put, List.setIfInBounds_toArray, List.set_cons_zero, List.set_cons_succ, i64_w, i32_w]
    rfl
  refine pure_ (i := 11) (N := some 6) (v := ?_) (a' := ?_) #[true, true, true, true, true, true, true, true, true, true, true, true] rfl rfl (any_of HT_.out (by kernel_rfl)) (fun _ _ _ h => h) (Or.inl ⟨by rfl, ?_⟩) ?_ ?_
  rotate_left
  · intro w'
    go_simp
    with_reducible rfl
  rotate_left
  · simp only [Act.put, List.setIfInBounds_toArray, List.set_cons_zero, List.set_cons_succ, i64_w, i32_w]
    rfl
  refine done_ (done_of HT_.out (by kernel_rfl)) ?_
  try go_wp2
  refine bodyPost_ret (results_list (rs := [.cell 2 57, .tmp 3, .tmp 4, .tmp 5, .tmp 6]) rfl (by simp) (.cell gb2192 57 #[.int .i64 t2197, .int .i64 t2198, .slice Ao15 t2199.length co15] (0, 0) _ rfl (bp_ BK2192.out) Try.underlying57 rfl (by kernel_rfl) (.tmp (.tmp (.tmp (.tmp .nil)))))) rfl ?_
  exact ⟨_, qf4_, by (with_reducible repeat (first | apply Kd.R_alloc | apply Kd.R_drewN | apply Kd.R_drew)); exact Kd.R_mono (Kd.R_far (p := ⟨gb2192, 2, none⟩) (Kd.R_far (p := ⟨gb2192, 1, none⟩) (Kd.R_far (p := ⟨gb2192, 0, none⟩) (Kd.R_types HO2201.out BK2192.out (by decide)) (fun _ hk => hk.2) (.int .i64 t2197)) (fun _ hk => hk.2) (.int .i64 t2198)) (fun _ hk => hk.2) (.slice Ao15 t2199.length co15)) (fun _ hk => trivial), qf3_⟩
/-! ### spec_l3DrawOff: function 105 -/
def spec_l3DrawOff.f (s0_0 : List Int) (s0_1 : Int) (s0_2 : Int) : Option (Int × Int × Int) := (spec_l1PickInt.f s0_0 s0_1 s0_2 (([0, 1, 2, 5, 9, 13, (-1), 9223372036854775807, (-9223372036854775808)] : List Int))).bind fun bt2229 => (some (bt2229.1, bt2229.2.1, bt2229.2.2))
set_option maxHeartbeats 8000000 in
set_option maxRecDepth 100000 in
theorem spec_l3DrawOff.calls (g : Nat) (s0_0 : List Int) (s0_1 : Int) (s0_2 : Int) (r1 : Int) (r2 : Int) (r3 : Int) (w0 w : World) (hI : IsS_l1Cur w0 w g s0_0 s0_1 s0_2) (hB : Below w0.heap.size w0 w) (h : spec_l3DrawOff.f s0_0 s0_1 s0_2 = some (r1, r2, r3)) :
    Calls Try.prog 105 #[.pointer (some ⟨g, 0, none⟩)] w fun e w' => e = .returned (.int .i64 r1) ∧ IsS_l1Cur w0 w' g s0_0 r2 r3 ∧ Below w0.heap.size w0 w' ∧ KeepBut w w' g none := by
  have HI0 := Aside0.mk hI
  have HK := Aside0.mk (KeepBut.refl w g none)
  have HL := Aside0.mk hB.size
  clear hI
  have HW0 := Aside0.mk hB.size
  have HB := Aside0.mk hB
  clear hB
  have H : ((spec_l1PickInt.f s0_0 s0_1 s0_2 (([0, 1, 2, 5, 9, 13, (-1), 9223372036854775807, (-9223372036854775808)] : List Int))).bind fun bt2229 => (some (bt2229.1, bt2229.2.1, bt2229.2.2))) = some (r1, r2, r3) := h
  clear h
  obtain ⟨y2226, hy2226⟩ : ∃ y_ : List Int, y_ = (([0, 1, 2, 5, 9, 13, (-1), 9223372036854775807, (-9223372036854775808)] : List Int)) := ⟨_, rfl⟩
  replace H : ((spec_l1PickInt.f s0_0 s0_1 s0_2 y2226).bind fun bt2229 => (some (bt2229.1, bt2229.2.1, bt2229.2.2))) = some (r1, r2, r3) := by first | (rw [hy2226]; with_reducible exact H) | (have H2_ := (Option.bind_some _ _).symm.trans H; rw [hy2226]; with_reducible exact H2_) | (have H2_ := (Option.bind_some _ _).symm.trans H; with_reducible exact H2_) | with_reducible exact H | (rw [hy2226]; exact H) | exact H
  have Ny2226 := Aside0.mk hy2226
  clear hy2226
  replace H := Option.bind_eq_some_iff.mp H
  obtain ⟨⟨t2229, t2230, t2231⟩, A20, H⟩ := H
  replace H : (some (t2229, t2230, t2231)) = some (r1, r2, r3) := H
  have A2 := Aside0.mk A20
  clear A20
  simp only [Option.some.injEq, Prod.mk.injEq] at H
  obtain ⟨rfl, rfl, rfl⟩ := H
  go_enter Try.func105, Try.ntmps105
  go_wp2_with (first | ((with_reducible refine gate_dst (N := 4) rfl ?_); refine Kd.R_lit (Kd.int .i64) _ 3 ?hg (N := 4) ?hd (xs := ([0, 1, 2, 5, 9, 13, (-1), 9223372036854775807, (-9223372036854775808)] : List Int)) (inner := [.int .i64 0, .int .i64 1, .int .i64 2, .int .i64 5, .int .i64 9, .int .i64 13, .int .i64 (-1), .int .i64 9223372036854775807, .int .i64 (-9223372036854775808)]) (ok := fun _ => True) (okp := fun _ => True) ?hr ?hp (fun _ hk => hk) trivial (Below.refl _ _) (Nat.le_refl _) (by simp) ?_; (case hd => rfl); (case hg => rfl); (case hr => first | (go_simp; done) | (go_simp; rfl)); (case hp => exact (Reps.one (show Kd.M (Kd.int .i64) _ _ _ 0 [.int .i64 0] from rfl) (Reps.one (show Kd.M (Kd.int .i64) _ _ _ 1 [.int .i64 1] from rfl) (Reps.one (show Kd.M (Kd.int .i64) _ _ _ 2 [.int .i64 2] from rfl) (Reps.one (show Kd.M (Kd.int .i64) _ _ _ 5 [.int .i64 5] from rfl) (Reps.one (show Kd.M (Kd.int .i64) _ _ _ 9 [.int .i64 9] from rfl) (Reps.one (show Kd.M (Kd.int .i64) _ _ _ 13 [.int .i64 13] from rfl) (Reps.one (show Kd.M (Kd.int .i64) _ _ _ (-1) [.int .i64 (-1)] from rfl) (Reps.one (show Kd.M (Kd.int .i64) _ _ _ 9223372036854775807 [.int .i64 9223372036854775807] from rfl) (Reps.one (show Kd.M (Kd.int .i64) _ _ _ (-9223372036854775808) [.int .i64 (-9223372036854775808)] from rfl) (Reps.none _ _))))))))))); intro v2227 w3 ho4 hb hg_ hnew_; clear hg_ hnew_; (first | rw [← Ny2226.out] at ho4 | (simp only [Int.reduceToNat] at ho4; rw [← Ny2226.out] at ho4)); have HO2228 := Aside0.mk (Kd.R_lower ho4 (keep_size (w := w) (g := g) (row := none) (qf15_))); replace HK := Aside0.mk (KeepBut.trans (qf15_) (KeepBut.of_below hb g none) (.inl rfl)); replace HB := Aside0.mk (below_step (qf23_) hb); replace HI0 := Aside0.mk (IsS_l1Cur.below (qf22_) hb); clear hb ho4; obtain ⟨Ao5, co5, eo5⟩ := Kd.R_slice HO2228.out; subst eo5) | ((with_reducible refine gate_callee (f := 104) rfl ?_); refine goesL_ (some 5) rfl rfl Try.func104 (by kernel_rfl) rfl #[.pointer (some ⟨g, 0, none⟩), .slice Ao5 y2226.length co5] rfl (qf1_) ?_; (with_reducible refine (spec_l1PickInt.calls g s0_0 s0_1 s0_2 _ _ y2226 t2229 t2230 t2231 w0 _ ?side1 ?side2 ?side3 ?side4 ?side5 A2.out).mono ?_); (case side1 => repeat (first | (with_reducible first | exact HI0.out | apply IsS_l1Cur.alloc | apply IsS_l1Cur.drewN | apply IsS_l1Cur.drew | apply IsS_l1Cur.set_1 | apply IsS_l1Cur.set_2) | exact HI0.out)); (case side2 => repeat (first | (with_reducible first | exact HB.out | apply below_alloc | apply pw_below_drewN | apply below_drew1 | refine below_set ?_ (IsS_l1Cur.ge HI0.out)) | exact HB.out)); (case side3 => repeat (first | exact (Kd.R_reads' HO2228.out).2.2 | (with_reducible refine Kd.C_alloc ?_ _) | (with_reducible refine Kd.C_drewN ?_ _) | (with_reducible refine Kd.C_drew ?_))); (case side4 => exact (Kd.R_reads' HO2228.out).2.1); (case side5 => exact far_slice (IsS_l1Cur.own_ne HI0.out HO2228.out (by decide))); rintro e w6 ⟨rfl, hi, hb, hk⟩; refine ⟨_, rfl, ?_⟩; replace HO2228 := Aside0.mk (Kd.R_mono (Kd.R_keep (IsS_l1Cur.apart (show IsS_l1Cur w0 _ g s0_0 s0_1 s0_2 from by repeat (first | (with_reducible first | exact HI0.out | apply IsS_l1Cur.alloc | apply IsS_l1Cur.drewN | apply IsS_l1Cur.drew | apply IsS_l1Cur.set_1 | apply IsS_l1Cur.set_2) | exact HI0.out)) (by (with_reducible repeat (first | apply Kd.R_alloc | apply Kd.R_drewN | apply Kd.R_drew)); exact HO2228.out) (by decide)) hk (fun _ h => h.2)) (fun _ h => h.1)); replace HK := Aside0.mk (KeepBut.trans (qf15_) hk (.inl rfl)); replace HB := Aside0.mk (hb); replace HI0 := Aside0.mk (hi); (try clear hb); (try clear hb2); (try clear hk); (try clear hi)))
  go_ret
  exact ⟨qf4_, qf22_, qf23_, qf15_⟩

/-! ### spec_DrawRowGet: function 37 -/
def spec_DrawRowGet.f (k : Nat) (l0 : List Int) : Option (Int × Int × (List (S_Item)) × Int) := (spec_l1New.f k l0).bind fun bt2233 => ((spec_l3Draw.f k bt2233.1 bt2233.2.1 bt2233.2.2).bind fun bt2237 => ((spec_l3DrawOff.f bt2233.1 bt2237.2.2.2.1 bt2237.2.2.2.2).bind fun bt2245 => (some (bt2237.1, bt2237.2.1, bt2237.2.2.1, bt2245.1))))
theorem spec_DrawRowGet.mono : ∀ a0 k, LeO (spec_DrawRowGet.f k a0) (spec_DrawRowGet.f (k + 1) a0) := by
  intro a0 k
  unfold spec_DrawRowGet.f
  exact qfh0_
set_option maxHeartbeats 8000000 in
set_option maxRecDepth 100000 in
theorem spec_DrawRowGet.calls (k : Nat) (A0 : Option Addr) (c0 : Nat) (l0 : List Int) (r1 : Int) (r2 : Int) (r3 : List (S_Item)) (r4 : Int) (w : World) (hr0 : Kd.C (Kd.int .u8) w A0 l0.length l0) (hc0 : l0.length ≤ c0) (h : spec_DrawRowGet.f k l0 = some (r1, r2, r3, r4)) :
    Calls Try.prog 37 #[.slice A0 l0.length c0] w fun e w' => ∃ v2_ : Value, e = .returned (.tuple #[.agg #[.int .i64 r1, .int .i64 r2, v2_], .int .i64 r4]) ∧ Kd.R k_Item 69 w' w.heap.size (fun _ => True) v2_ r3 ∧ Below w.heap.size w w' := by
  have hu57 := Try.underlying57
  have HR0 := Aside0.mk hr0
  have HC0 := Aside0.mk hc0
  clear hr0 hc0
  have HB := Aside0.mk (Below.refl w.heap.size w)
  have H : ((spec_l1New.f k l0).bind fun bt2233 => ((spec_l3Draw.f k bt2233.1 bt2233.2.1 bt2233.2.2).bind fun bt2237 => ((spec_l3DrawOff.f bt2233.1 bt2237.2.2.2.1 bt2237.2.2.2.2).bind fun bt2245 => (some (bt2237.1, bt2237.2.1, bt2237.2.2.1, bt2245.1))))) = some (r1, r2, r3, r4) := h
  clear h
  replace H := Option.bind_eq_some_iff.mp H
  obtain ⟨⟨t2233, t2234, t2235⟩, A20, H⟩ := H
  replace H : ((spec_l3Draw.f k t2233 t2234 t2235).bind fun bt2237 => ((spec_l3DrawOff.f t2233 bt2237.2.2.2.1 bt2237.2.2.2.2).bind fun bt2245 => (some (bt2237.1, bt2237.2.1, bt2237.2.2.1, bt2245.1)))) = some (r1, r2, r3, r4) := H
  have A2 := Aside0.mk A20
  clear A20
  replace H := Option.bind_eq_some_iff.mp H
  obtain ⟨⟨t2237, t2238, t2239, t2242, t2243⟩, A30, H⟩ := H
  replace H : ((spec_l3DrawOff.f t2233 t2242 t2243).bind fun bt2245 => (some (t2237, t2238, t2239, bt2245.1))) = some (r1, r2, r3, r4) := H
  have A3 := Aside0.mk A30
  clear A30
  replace H := Option.bind_eq_some_iff.mp H
  obtain ⟨⟨t2245, t2246, t2247⟩, A40, H⟩ := H
  replace H : (some (t2237, t2238, t2239, t2245)) = some (r1, r2, r3, r4) := H
  have A4 := Aside0.mk A40
  clear A40
  simp only [Option.some.injEq, Prod.mk.injEq] at H
  obtain ⟨rfl, rfl, rfl, rfl⟩ := H
  go_enter Try.func37, Try.ntmps37
  try go_wp2_with (first | ((with_reducible refine gate_dst (N := 2) rfl ?_); refine box_event ?hg (N := 2) ?hd (cs := #[.int .i64 0, .int .i64 0, .slice none 0 0]) (t := 57) ?hr ?_; (case hd => rfl); (case hg => rfl); (case hr => first | (go_simp; done) | (go_simp; rfl)); intro gb2232 hg w5 hbox hb; have BK2232 := Aside0.mk (hbox); have GW2232 := Aside0.mk ((by rw [hg]; exact (below_size (qf0_)) : w.heap.size ≤ gb2232)); have GE2232 := Aside0.mk ((by rw [hg]; exact (below_size (qf0_)) : w.heap.size ≤ gb2232)); replace HB := Aside0.mk (below_step (qf0_) hb); clear hb hbox hg) | ((with_reducible refine gate_callee (f := 76) rfl ?_); refine goesL_ (some 7) rfl rfl Try.func76 (by kernel_rfl) rfl #[.slice A0 l0.length c0] rfl (qf1_) ?_; (with_reducible refine (spec_l1New.calls k _ _ l0 t2233 t2234 t2235 w _ ?side1 ?side2 ?side3 A2.out).mono ?_); (case side1 => repeat (first | (with_reducible first | exact HB.out | apply below_alloc | apply pw_below_drewN | apply below_drew1 | refine below_set ?_ GE2232.out) | exact HB.out)); (case side2 => exact HR0.out); (case side3 => exact HC0.out); rintro e w6 ⟨g2236, rfl, hi, hb, hb2⟩; refine ⟨_, rfl, ?_⟩; have HI2236 := Aside0.mk (hi); have NB2236_2232 := Aside0.mk (IsS_l1Cur.ne_blk hi (blk_below (g := gb2232) (o := .cells #[.int .i64 0, .int .i64 0, .slice none 0 0] 57 (0, 0)) (bq_ BK2232.out) hb2) (by decide)); have NB2232_2236 := Aside0.mk (Ne.symm (IsS_l1Cur.ne_blk hi (blk_below (g := gb2232) (o := .cells #[.int .i64 0, .int .i64 0, .slice none 0 0] 57 (0, 0)) (bq_ BK2232.out) hb2) (by decide))); replace BK2232 := Aside0.mk (blk_below (g := gb2232) (o := .cells #[.int .i64 0, .int .i64 0, .slice none 0 0] 57 (0, 0)) (bq_ BK2232.out) hb2); replace HB := Aside0.mk (hb); (try clear hb); (try clear hb2); (try clear hk); (try clear hi)) | ((with_reducible refine gate_callee (f := 101) rfl ?_); refine goesL_ (some 9) rfl rfl Try.func101 (by kernel_rfl) rfl #[.pointer (some ⟨g2236, 0, none⟩)] rfl (qf1_) ?_; (with_reducible refine (spec_l3Draw.calls k g2236 t2233 t2234 t2235 t2237 t2238 t2239 t2242 t2243 w _ ?side1 ?side2 A3.out).mono ?_); (case side1 => repeat (first | (with_reducible first | exact HI2236.out | apply IsS_l1Cur.alloc | apply IsS_l1Cur.drewN | apply IsS_l1Cur.drew | apply IsS_l1Cur.set_1 | apply IsS_l1Cur.set_2 | refine IsS_l1Cur.far ?_ NB2236_2232.out _) | exact HI2236.out)); (case side2 => repeat (first | (with_reducible first | exact HB.out | apply below_alloc | apply pw_below_drewN | apply below_drew1 | refine below_set ?_ (IsS_l1Cur.ge HI2236.out) | refine below_set ?_ GE2232.out) | exact HB.out)); rintro e w7 ⟨v2240, rfl, ho0, hi, hb, hk⟩; refine ⟨_, rfl, ?_⟩; have HO2241 := Aside0.mk (Kd.R_lower ho0 (below_size (qf9_))); replace BK2232 := Aside0.mk (KeepBut.blk hk (g' := gb2232) (o := .cells #[.int .i64 0, .int .i64 0, .slice none 0 0] 57 (0, 0)) (bq_ BK2232.out) NB2232_2236.out (by simp)); replace HB := Aside0.mk (hb); replace HI2236 := Aside0.mk (hi); (try clear hb); (try clear hb2); (try clear hk); (try clear hi); (try clear ho0)) | ((with_reducible refine gate_dst (N := 5) rfl ?_); refine box_event ?hg (N := 5) ?hd (cs := #[.int .i64 0, .int .i64 0, .slice none 0 0]) (t := 57) ?hr ?_; (case hd => rfl); (case hg => rfl); (case hr => first | (go_simp; done) | (go_simp; rfl)); intro gb2244 hg w8 hbox hb; have BK2244 := Aside0.mk (hbox); have GW2244 := Aside0.mk ((by rw [hg]; exact (below_size (qf9_)) : w.heap.size ≤ gb2244)); have GE2244 := Aside0.mk ((by rw [hg]; exact (below_size (qf9_)) : w.heap.size ≤ gb2244)); have NB2232_2244 := Aside0.mk ((by rw [hg]; exact Nat.ne_of_lt (blk_lt (g := gb2232) (o := .cells #[.int .i64 0, .int .i64 0, .slice none 0 0] 57 (0, 0)) (bq_ BK2232.out)) : gb2232 ≠ gb2244)); have NB2244_2232 := Aside0.mk ((by rw [hg]; exact Nat.ne_of_gt (blk_lt (g := gb2232) (o := .cells #[.int .i64 0, .int .i64 0, .slice none 0 0] 57 (0, 0)) (bq_ BK2232.out)) : gb2244 ≠ gb2232)); have NB2236_2244 := Aside0.mk ((by rw [hg]; exact Nat.ne_of_lt (IsS_l1Cur.lt (show IsS_l1Cur w _ g2236 t2233 t2242 t2243 from by repeat (first | (with_reducible first | exact HI2236.out | apply IsS_l1Cur.alloc | apply IsS_l1Cur.drewN | apply IsS_l1Cur.drew | apply IsS_l1Cur.set_1 | apply IsS_l1Cur.set_2 | refine IsS_l1Cur.far ?_ NB2236_2232.out _) | exact HI2236.out))) : g2236 ≠ gb2244)); have NB2244_2236 := Aside0.mk ((by rw [hg]; exact Nat.ne_of_gt (IsS_l1Cur.lt (show IsS_l1Cur w _ g2236 t2233 t2242 t2243 from by repeat (first | (with_reducible first | exact HI2236.out | apply IsS_l1Cur.alloc | apply IsS_l1Cur.drewN | apply IsS_l1Cur.drew | apply IsS_l1Cur.set_1 | apply IsS_l1Cur.set_2 | refine IsS_l1Cur.far ?_ NB2236_2232.out _) | exact HI2236.out))) : gb2244 ≠ g2236)); replace HO2241 := Aside0.mk (Kd.R_below (by (with_reducible repeat (first | apply Kd.R_alloc | apply Kd.R_drewN | apply Kd.R_drew)); exact HO2241.out) hb); replace BK2232 := Aside0.mk (blk_below (g := gb2232) (o := .cells #[.int .i64 0, .int .i64 0, .slice none 0 0] 57 (0, 0)) (bq_ BK2232.out) hb); replace HB := Aside0.mk (below_step (qf9_) hb); replace HI2236 := Aside0.mk (IsS_l1Cur.below (by repeat (first | (with_reducible first | exact HI2236.out | apply IsS_l1Cur.alloc | apply IsS_l1Cur.drewN | apply IsS_l1Cur.drew | apply IsS_l1Cur.set_1 | apply IsS_l1Cur.set_2 | refine IsS_l1Cur.far ?_ NB2236_2232.out _) | exact HI2236.out)) hb); clear hb hbox hg; have hnb9 := NB2244_2232.out; have hnc9 := NB2232_2244.out; have hnb10 := NB2244_2236.out; have hnc10 := NB2236_2244.out; have hcz11_0 : w8.cell? ⟨gb2244, 0, none⟩ = some (.int .i64 0) := bc_ BK2244 0; have hcz11_1 : w8.cell? ⟨gb2244, 1, none⟩ = some (.int .i64 0) := bc_ BK2244 1; have hcz11_2 : w8.cell? ⟨gb2244, 2, none⟩ = some (.slice none 0 0) := bc_ BK2244 2; have hfz11_0 := blk_frozen BK2244.out 0; have hfz11_1 := blk_frozen BK2244.out 1; have hfz11_2 := blk_frozen BK2244.out 2; obtain ⟨Ao12, co12, eo12⟩ := Kd.R_slice HO2241.out; subst eo12))
  obtain ⟨w13, qe_⟩ : ∃ x_, x_ = (((w8.setCell ⟨gb2244, 0, none⟩ (.int .i64 t2237)).setCell ⟨gb2244, 1, none⟩ (.int .i64 t2238)).setCell ⟨gb2244, 2, none⟩ (.slice Ao12 t2239.length co12)) := ⟨_, rfl⟩
  rw [← qe_]
  replace HO2241 : Aside0 (Kd.R k_Item 69 w13 w.heap.size (fun _ => True) (.slice Ao12 t2239.length co12) t2239) := ⟨by rw [qe_]; exact by (with_reducible repeat (first | apply Kd.R_alloc | apply Kd.R_drewN | apply Kd.R_drew)); exact Kd.R_mono (Kd.R_far (p := ⟨gb2244, 2, none⟩) (Kd.R_far (p := ⟨gb2244, 1, none⟩) (Kd.R_far (p := ⟨gb2244, 0, none⟩) (Kd.R_types HO2241.out BK2244.out (by decide)) (fun _ hk => hk.2) (.int .i64 t2237)) (fun _ hk => hk.2) (.int .i64 t2238)) (fun _ hk => hk.2) (.slice Ao12 t2239.length co12)) (fun _ hk => trivial)⟩
  replace BK2232 := fl_ qe_ BK2232
  replace BK2244 : Aside0 (w13.heap[gb2244]? = some (.cells #[.int .i64 t2237, .int .i64 t2238, .slice Ao12 t2239.length co12] 57 (0, 0))) := ⟨by rw [qe_]; exact bp_ BK2244.out⟩
  replace HB : Aside0 (Below w.heap.size w w13) := ⟨by rw [qe_]; exact by repeat (first | (with_reducible first | exact HB.out | apply below_alloc | apply pw_below_drewN | apply below_drew1 | refine below_set ?_ (IsS_l1Cur.ge HI2236.out) | refine below_set ?_ GE2232.out | refine below_set ?_ GE2244.out) | exact HB.out)⟩
  replace HI2236 : Aside0 (IsS_l1Cur w w13 g2236 t2233 t2242 t2243) := ⟨by rw [qe_]; exact by repeat (first | (with_reducible first | exact HI2236.out | apply IsS_l1Cur.alloc | apply IsS_l1Cur.drewN | apply IsS_l1Cur.drew | apply IsS_l1Cur.set_1 | apply IsS_l1Cur.set_2 | refine IsS_l1Cur.far ?_ NB2236_2232.out _ | refine IsS_l1Cur.far ?_ NB2236_2244.out _) | exact HI2236.out)⟩
  clear qe_
  replace HO2241 := Aside0.mk (Kd.R_drew HO2241.out)
  replace BK2232 := Aside0.mk (blk_drew BK2232.out)
  replace BK2244 := Aside0.mk (blk_drew BK2244.out)
  replace HI2236 := Aside0.mk (IsS_l1Cur.drew HI2236.out)
  replace HB := Aside0.mk (below_drew1 HB.out)
  refine start_ (n := 5) (S := fun w' => w'.cell? ⟨gb2244, 0, none⟩ = some (.int .i64 t2237) ∧ w'.cell? ⟨gb2244, 1, none⟩ = some (.int .i64 t2238) ∧ w'.cell? ⟨gb2244, 2, none⟩ = some (.slice Ao12 t2239.length co12)) (ds := []) #[false, false, false, false, false] (by kernel_rfl) rfl rfl ⟨bc_ BK2244 0, bc_ BK2244 1, bc_ BK2244 2⟩ (fun hHeld => ?_)
  generalize w13.drew = w14 at HO2241 BK2232 BK2244 HI2236 HB hHeld ⊢
  refine pure_ (i := 1) (N := some 11) (v := ?_) (a' := ?_) #[false, true, false, false, false] rfl rfl (by kernel_rfl) (fun _ _ _ h => h) (Or.inl ⟨by rfl, ?_⟩) ?_ ?_
  rotate_left
  · intro w'
    go_simp
    with_reducible rfl
  rotate_left
  · simp only [Act.put, List.setIfInBounds_toArray, List.set_cons_zero, List.set_cons_succ, i64_w, i32_w]
    rfl
  refine take_ (i := 0) (N := some 10) (v := ?_) (a' := ?_) #[true, true, false, false, false] rfl rfl (by kernel_rfl) (fun _ _ _ h => h) (Or.inl ⟨by rfl, ?_⟩) hHeld ?_ ?_
  rotate_left
  · rintro w' ⟨s0, s1, s2⟩
    go_simp
    with_reducible rfl
  rotate_left
  · simp only [Act.put, List.setIfInBounds_toArray, List.set_cons_zero, List.set_cons_succ, i64_w, i32_w]
    rfl
  refine one_ (i := 2) (N := some 12) #[true, true, true, false, false] rfl rfl (by kernel_rfl) (by decide) (fun K hK => ?_)
  refine goes_ Try.func105 (by kernel_rfl) rfl #[.pointer (some ⟨g2236, 0, none⟩)] (by rfl) rfl rfl (qf1_) ?_
  with_reducible refine (spec_l3DrawOff.calls g2236 t2233 t2242 t2243 t2245 t2246 t2247 w _ ?side1 ?side2 A4.out).mono ?_
  (case side1 => repeat (first | (with_reducible first | exact HI2236.out | apply IsS_l1Cur.alloc | apply IsS_l1Cur.drewN | apply IsS_l1Cur.drew | apply IsS_l1Cur.set_1 | apply IsS_l1Cur.set_2 | refine IsS_l1Cur.far ?_ NB2236_2232.out _ | refine IsS_l1Cur.far ?_ NB2236_2244.out _) | exact HI2236.out))
  (case side2 => repeat (first | (with_reducible first | exact HB.out | apply below_alloc | apply pw_below_drewN | apply below_drew1 | refine below_set ?_ (IsS_l1Cur.ge HI2236.out) | refine below_set ?_ GE2232.out | refine below_set ?_ GE2244.out) | exact HB.out))
  rintro e w15 ⟨rfl, hi, hb, hk⟩
  refine ⟨_, rfl, ?_⟩
  replace BK2232 := Aside0.mk (KeepBut.blk hk (g' := gb2232) (o := .cells #[.int .i64 0, .int .i64 0, .slice none 0 0] 57 (0, 0)) (bq_ BK2232.out) NB2232_2236.out (by simp))
  replace HO2241 := Aside0.mk (Kd.R_mono (Kd.R_keep (IsS_l1Cur.apart (show IsS_l1Cur w _ g2236 t2233 t2242 t2243 from by repeat (first | (with_reducible first | exact HI2236.out | apply IsS_l1Cur.alloc | apply IsS_l1Cur.drewN | apply IsS_l1Cur.drew | apply IsS_l1Cur.set_1 | apply IsS_l1Cur.set_2 | refine IsS_l1Cur.far ?_ NB2236_2232.out _ | refine IsS_l1Cur.far ?_ NB2236_2244.out _) | exact HI2236.out)) (by (with_reducible repeat (first | apply Kd.R_alloc | apply Kd.R_drewN | apply Kd.R_drew)); exact HO2241.out) (by decide)) hk (fun _ h => h.2)) (fun _ h => h.1))
  replace BK2244 := Aside0.mk (KeepBut.blk hk (g' := gb2244) (o := .cells #[.int .i64 t2237, .int .i64 t2238, .slice Ao12 t2239.length co12] 57 (0, 0)) (bq_ BK2244.out) NB2244_2236.out (by simp))
  replace HB := Aside0.mk (hb)
  replace HI2236 := Aside0.mk (hi)
  (try clear hb); (try clear hb2); (try clear hk); (try clear hi)
  refine hK.out _ _ ⟨bc_ BK2244 0, bc_ BK2244 1, bc_ BK2244 2⟩ (fun hHeld => ?_)
  clear hK K
  refine norm_ (a' := ?_) ?_ ?_
  rotate_left
  · show Act.put _ (some 12) _ = _
    simp only [Act.put, List.setIfInBounds_toArray, List.set_cons_zero, List.set_cons_succ, i64_w, i32_w]
    rfl
  refine one_ (i := 3) (N := none) #[true, true, true, true, false] rfl rfl (by kernel_rfl) (by decide) (fun K hK => ?_)
  have hs16 : w15.cell? ⟨gb2232, 0, none⟩ = some (.int .i64 0) := bc_ BK2232 0
  have hfs16 := blk_frozen BK2232.out 0
  have hns16_1 := NB2244_2232.out
  have hms16_1 := NB2232_2244.out
  have hs17 : w15.cell? ⟨gb2232, 1, none⟩ = some (.int .i64 0) := bc_ BK2232 1
  have hfs17 := blk_frozen BK2232.out 1
  have hns17_1 := NB2244_2232.out
  have hms17_1 := NB2232_2244.out
  have hs18 : w15.cell? ⟨gb2232, 2, none⟩ = some (.slice none 0 0) := bc_ BK2232 2
  have hfs18 := blk_frozen BK2232.out 2
  have hns18_1 := NB2244_2232.out
  have hms18_1 := NB2232_2244.out
  refine skip_ (w1 := ?_) (by rfl) rfl ?_ ?_
  rotate_left
  · go_simp
    rfl
  refine hK.out _ _ ⟨(cfs_ NB2244_2232.out (hHeld.1)), (cfs_ NB2244_2232.out (hHeld.2.1)), (cfs_ NB2244_2232.out (hHeld.2.2))⟩ (fun hHeld => ?_)
  clear hK K
  refine pure_ (i := 4) (N := some 3) (v := ?_) (a' := ?_) #[true, true, true, true, true] rfl rfl (by kernel_rfl) (fun _ _ _ h => h) (Or.inl ⟨by rfl, ?_⟩) ?_ ?_
  rotate_left
  · intro w'
    go_simp
    with_reducible rfl
  rotate_left
  · simp only [Act.put, List.setIfInBounds_toArray, List.set_cons_zero, List.set_cons_succ, i64_w, i32_w]
    rfl
  refine done_ (by kernel_rfl) ?_
  try go_wp2
  refine bodyPost_ret (results_ct rfl _ _ gb2232 57 #[.int .i64 t2237, .int .i64 t2238, .slice Ao12 t2239.length co12] (0, 0) _ rfl (bp_ BK2232.out) Try.underlying57 rfl (by kernel_rfl)) rfl ?_
  exact ⟨_, qf4_, by (with_reducible repeat (first | apply Kd.R_alloc | apply Kd.R_drewN | apply Kd.R_drew)); exact Kd.R_mono (Kd.R_far (p := ⟨gb2232, 2, none⟩) (Kd.R_far (p := ⟨gb2232, 1, none⟩) (Kd.R_far (p := ⟨gb2232, 0, none⟩) (Kd.R_types HO2241.out BK2232.out (by decide)) (fun _ hk => hk.2) (.int .i64 t2237)) (fun _ hk => hk.2) (.int .i64 t2238)) (fun _ hk => hk.2) (.slice Ao12 t2239.length co12)) (fun _ hk => trivial), by repeat (first | (with_reducible first | exact HB.out | apply below_alloc | apply pw_below_drewN | apply below_drew1 | refine below_set ?_ (IsS_l1Cur.ge HI2236.out) | refine below_set ?_ GE2232.out | refine below_set ?_ GE2244.out) | exact HB.out)⟩
/-! ### impl_RowGet: function 38 -/
def impl_RowGet.l0 : Nat → Int → List (S_Item) → Int → Int → Option (Int × ByteArray × ByteArray × Int × Int × Int)
  | 0, _, _, _, _ => none
  | k + 1, x1, x14, x15, x16 => if x16 < x15 then (if 0 ≤ x16 then (if x16 < (x14.length : Int) then (if ((rd_Item x14 x16).f0) ≥ x1 then (some ((rd_Item x14 x16).f0, (rd_Item x14 x16).f1, (rd_Item x14 x16).f2, (rd_Item x14 x16).f3, (rd_Item x14 x16).f4, 0)) else (impl_RowGet.l0 k x1 x14 x15 (wrap64 (x16 + 1)))) else (none)) else (none)) else (some (0, (⟨#[]⟩ : ByteArray), (⟨#[]⟩ : ByteArray), 0, 0, 2))
def impl_RowGet.f (k : Nat) (a0_0 : Int) (a0_1 : Int) (l0_2 : List (S_Item)) (a1 : Int) : Option (Int × ByteArray × ByteArray × Int × Int × Int) := if a1 < a0_0 then (some (0, (⟨#[]⟩ : ByteArray), (⟨#[]⟩ : ByteArray), 0, 0, 1)) else (impl_RowGet.l0 k a1 l0_2 (l0_2.length : Int) 0)
theorem impl_RowGet.mono_l : ∀ k, (∀ y0 y1 y2 y3, LeO (impl_RowGet.l0 k y0 y1 y2 y3) (impl_RowGet.l0 (k + 1) y0 y1 y2 y3))
  | 0 => fun _ _ _ _ r h => by simp [impl_RowGet.l0] at h
  | k + 1 => by
    have ih0 := impl_RowGet.mono_l k
    · intro y0 y1 y2 y3
      unfold impl_RowGet.l0
      exact qfh1_
theorem impl_RowGet.mono : ∀ a0 a1 a2 a3 k, LeO (impl_RowGet.f k a0 a1 a2 a3) (impl_RowGet.f (k + 1) a0 a1 a2 a3) := by
  intro a0 a1 a2 a3 k
  have ih0 := impl_RowGet.mono_l k
  unfold impl_RowGet.f
  exact qfh1_
set_option maxHeartbeats 8000000 in
set_option maxRecDepth 100000 in
theorem impl_RowGet.calls (k : Nat) (a0_0 : Int) (a0_1 : Int) (A0_2 : Option Addr) (c0_2 : Nat) (l0_2 : List (S_Item)) (a1 : Int) (r1 : Int) (r2 : ByteArray) (r3 : ByteArray) (r4 : Int) (r5 : Int) (r6 : Int) (w : World) (hr0_2 : Kd.C k_Item w A0_2 l0_2.length l0_2) (hc0_2 : l0_2.length ≤ c0_2) (h : impl_RowGet.f k a0_0 a0_1 l0_2 a1 = some (r1, r2, r3, r4, r5, r6)) :
    Calls Try.prog 38 #[.agg #[.int .i64 a0_0, .int .i64 a0_1, .slice A0_2 l0_2.length c0_2], .int .i64 a1] w fun e w' => e = .returned (.tuple #[.agg #[.int .i64 r1, .string r2, .string r3, .int .i64 r4, .int .i64 r5], .int .i64 r6]) ∧ Below w.heap.size w w' := by
  have hu57 := Try.underlying57
  have hu69 := Try.underlying69
  have HR0_2 := Aside0.mk hr0_2
  have HC0_2 := Aside0.mk hc0_2
  clear hr0_2 hc0_2
  have HB := Aside0.mk (Below.refl w.heap.size w)
  have H : (if a1 < a0_0 then (some (0, (⟨#[]⟩ : ByteArray), (⟨#[]⟩ : ByteArray), 0, 0, 1)) else (impl_RowGet.l0 k a1 l0_2 (l0_2.length : Int) 0)) = some (r1, r2, r3, r4, r5, r6) := h
  clear h
  by_cases c3 : a1 < a0_0
  · rw [if_pos c3] at H
    have c3b0 : decide (a1 < a0_0) = true := decide_eq_true c3
    clear c3
    simp only [Option.some.injEq, Prod.mk.injEq] at H
    obtain ⟨rfl, rfl, rfl, rfl, rfl, rfl⟩ := H
    go_enter Try.func38, Try.ntmps38
    go_wp2_with (first | ((with_reducible refine gate_dst (N := 2) rfl ?_); refine box_event ?hg (N := 2) ?hd (cs := #[.int .i64 a0_0, .int .i64 a0_1, .slice A0_2 l0_2.length c0_2]) (t := 57) ?hr ?_; (case hd => rfl); (case hg => rfl); (case hr => first | (go_simp; done) | (go_simp; rfl)); intro gb2248 hg w4 hbox hb; have BK2248 := Aside0.mk (hbox); have GW2248 := Aside0.mk ((by rw [hg]; exact (below_size (qf0_)) : w.heap.size ≤ gb2248)); have GE2248 := Aside0.mk ((by rw [hg]; exact (below_size (qf0_)) : w.heap.size ≤ gb2248)); replace HB := Aside0.mk (below_step (qf0_) hb); clear hb hbox hg) | ((with_reducible refine gate_dst (N := 4) rfl ?_); refine box_event ?hg (N := 4) ?hd (cs := #[.int .i64 0, .string (⟨#[]⟩ : ByteArray), .string (⟨#[]⟩ : ByteArray), .int .i64 0, .int .i64 0]) (t := 69) ?hr ?_; (case hd => rfl); (case hg => rfl); (case hr => first | (go_simp; done) | (go_simp; rfl)); intro gb2249 hg w5 hbox hb; have BK2249 := Aside0.mk (hbox); have GW2249 := Aside0.mk ((by rw [hg]; exact (below_size (qf6_)) : w.heap.size ≤ gb2249)); have GE2249 := Aside0.mk ((by rw [hg]; exact (below_size (qf6_)) : w.heap.size ≤ gb2249)); have NB2248_2249 := Aside0.mk ((by rw [hg]; exact Nat.ne_of_lt (blk_lt (g := gb2248) (o := .cells #[.int .i64 a0_0, .int .i64 a0_1, .slice A0_2 l0_2.length c0_2] 57 (0, 0)) (bq_ BK2248.out)) : gb2248 ≠ gb2249)); have NB2249_2248 := Aside0.mk ((by rw [hg]; exact Nat.ne_of_gt (blk_lt (g := gb2248) (o := .cells #[.int .i64 a0_0, .int .i64 a0_1, .slice A0_2 l0_2.length c0_2] 57 (0, 0)) (bq_ BK2248.out)) : gb2249 ≠ gb2248)); replace BK2248 := Aside0.mk (blk_below (g := gb2248) (o := .cells #[.int .i64 a0_0, .int .i64 a0_1, .slice A0_2 l0_2.length c0_2] 57 (0, 0)) (bq_ BK2248.out) hb); replace HB := Aside0.mk (below_step (qf6_) hb); clear hb hbox hg; have hnb6 := NB2248_2249.out; have hnc6 := NB2249_2248.out; have hcz7_0 : w5.cell? ⟨gb2248, 0, none⟩ = some (.int .i64 a0_0) := bc_ BK2248 0; have hcz7_1 : w5.cell? ⟨gb2248, 1, none⟩ = some (.int .i64 a0_1) := bc_ BK2248 1; have hcz7_2 : w5.cell? ⟨gb2248, 2, none⟩ = some (.slice A0_2 l0_2.length c0_2) := bc_ BK2248 2; have hfz7_0 := blk_frozen BK2248.out 0; have hfz7_1 := blk_frozen BK2248.out 1; have hfz7_2 := blk_frozen BK2248.out 2; have hcz8_0 : w5.cell? ⟨gb2249, 0, none⟩ = some (.int .i64 0) := bc_ BK2249 0; have hcz8_1 : w5.cell? ⟨gb2249, 1, none⟩ = some (.string (⟨#[]⟩ : ByteArray)) := bc_ BK2249 1; have hcz8_2 : w5.cell? ⟨gb2249, 2, none⟩ = some (.string (⟨#[]⟩ : ByteArray)) := bc_ BK2249 2; have hcz8_3 : w5.cell? ⟨gb2249, 3, none⟩ = some (.int .i64 0) := bc_ BK2249 3; have hcz8_4 : w5.cell? ⟨gb2249, 4, none⟩ = some (.int .i64 0) := bc_ BK2249 4; have hfz8_0 := blk_frozen BK2249.out 0; have hfz8_1 := blk_frozen BK2249.out 1; have hfz8_2 := blk_frozen BK2249.out 2; have hfz8_3 := blk_frozen BK2249.out 3; have hfz8_4 := blk_frozen BK2249.out 4))
    refine bodyPost_ret (results_ct rfl _ _ gb2249 69 #[.int .i64 0, .string (⟨#[]⟩ : ByteArray), .string (⟨#[]⟩ : ByteArray), .int .i64 0, .int .i64 0] (0, 0) _ rfl (bp_ BK2249.out) Try.underlying69 rfl (by kernel_rfl)) rfl ?_
    exact ⟨qf4_, qf2_⟩
  · rw [if_neg c3] at H
    have c3b0 : decide (a1 < a0_0) = false := decide_eq_false c3
    clear c3
    have H' := Aside0.mk H
    clear H
    go_enter Try.func38, Try.ntmps38
    go_wp2_with (first | ((with_reducible refine gate_dst (N := 2) rfl ?_); refine box_event ?hg (N := 2) ?hd (cs := #[.int .i64 a0_0, .int .i64 a0_1, .slice A0_2 l0_2.length c0_2]) (t := 57) ?hr ?_; (case hd => rfl); (case hg => rfl); (case hr => first | (go_simp; done) | (go_simp; rfl)); intro gb2248 hg w9 hbox hb; have BK2248 := Aside0.mk (hbox); have GW2248 := Aside0.mk ((by rw [hg]; exact (below_size (qf0_)) : w.heap.size ≤ gb2248)); have GE2248 := Aside0.mk ((by rw [hg]; exact (below_size (qf0_)) : w.heap.size ≤ gb2248)); replace HB := Aside0.mk (below_step (qf0_) hb); clear hb hbox hg) | ((with_reducible refine gate_dst (N := 4) rfl ?_); refine box_event ?hg (N := 4) ?hd (cs := #[.int .i64 0, .string (⟨#[]⟩ : ByteArray), .string (⟨#[]⟩ : ByteArray), .int .i64 0, .int .i64 0]) (t := 69) ?hr ?_; (case hd => rfl); (case hg => rfl); (case hr => first | (go_simp; done) | (go_simp; rfl)); intro gb2249 hg w10 hbox hb; have BK2249 := Aside0.mk (hbox); have GW2249 := Aside0.mk ((by rw [hg]; exact (below_size (qf6_)) : w.heap.size ≤ gb2249)); have GE2249 := Aside0.mk ((by rw [hg]; exact (below_size (qf6_)) : w.heap.size ≤ gb2249)); have NB2248_2249 := Aside0.mk ((by rw [hg]; exact Nat.ne_of_lt (blk_lt (g := gb2248) (o := .cells #[.int .i64 a0_0, .int .i64 a0_1, .slice A0_2 l0_2.length c0_2] 57 (0, 0)) (bq_ BK2248.out)) : gb2248 ≠ gb2249)); have NB2249_2248 := Aside0.mk ((by rw [hg]; exact Nat.ne_of_gt (blk_lt (g := gb2248) (o := .cells #[.int .i64 a0_0, .int .i64 a0_1, .slice A0_2 l0_2.length c0_2] 57 (0, 0)) (bq_ BK2248.out)) : gb2249 ≠ gb2248)); replace BK2248 := Aside0.mk (blk_below (g := gb2248) (o := .cells #[.int .i64 a0_0, .int .i64 a0_1, .slice A0_2 l0_2.length c0_2] 57 (0, 0)) (bq_ BK2248.out) hb); replace HB := Aside0.mk (below_step (qf6_) hb); clear hb hbox hg; have hnb11 := NB2248_2249.out; have hnc11 := NB2249_2248.out; have hcz12_0 : w10.cell? ⟨gb2248, 0, none⟩ = some (.int .i64 a0_0) := bc_ BK2248 0; have hcz12_1 : w10.cell? ⟨gb2248, 1, none⟩ = some (.int .i64 a0_1) := bc_ BK2248 1; have hcz12_2 : w10.cell? ⟨gb2248, 2, none⟩ = some (.slice A0_2 l0_2.length c0_2) := bc_ BK2248 2; have hfz12_0 := blk_frozen BK2248.out 0; have hfz12_1 := blk_frozen BK2248.out 1; have hfz12_2 := blk_frozen BK2248.out 2))
    go_loopg [16] k (fun kq v16 w' => ∃ (x16_1 : Int) (x2250000_1 : Int) (x2250001_1 : ByteArray) (x2250002_1 : ByteArray) (x2250003_1 : Int) (x2250004_1 : Int), v16 = .int .i64 x16_1 ∧ Aside0 (impl_RowGet.l0 kq a1 l0_2 (l0_2.length : Int) x16_1 = some (r1, r2, r3, r4, r5, r6)) ∧ Aside0 (kq ≤ k) ∧ Aside0 (w'.heap[gb2248]? = some (.cells #[.int .i64 a0_0, .int .i64 a0_1, (.slice A0_2 l0_2.length c0_2)] 57 (0, 0))) ∧ Aside0 (w'.heap[gb2249]? = some (.cells #[.int .i64 x2250000_1, .string x2250001_1, .string x2250002_1, .int .i64 x2250003_1, .int .i64 x2250004_1] 69 (0, 0))) ∧ Aside0 (Below w.heap.size w w'))
    case atStart => exact ⟨(0), (0), ((⟨#[]⟩ : ByteArray)), ((⟨#[]⟩ : ByteArray)), (0), (0), (qf19_), H', ⟨Nat.le_refl _⟩, ⟨bq_ BK2248.out⟩, ⟨bq_ BK2249.out⟩, ⟨qf2_⟩⟩
    case round =>
      clear H'
      try clear c1
      try clear p2
      try clear c3
      try clear c3b0
      try clear c6
      try clear c11
      try clear hcz12_0
      try clear hcz12_1
      try clear hcz12_2
      try clear hcz7_0
      try clear hcz7_1
      try clear hcz7_2
      try clear hcz8_0
      try clear hcz8_1
      try clear hcz8_2
      try clear hcz8_3
      try clear hcz8_4
      try clear hfz12_0
      try clear hfz12_1
      try clear hfz12_2
      try clear hfz7_0
      try clear hfz7_1
      try clear hfz7_2
      try clear hfz8_0
      try clear hfz8_1
      try clear hfz8_2
      try clear hfz8_3
      try clear hfz8_4
      obtain ⟨x16_1, x2250000_1, x2250001_1, x2250002_1, x2250003_1, x2250004_1, rfl, HA, HK1, BK2248, BK2249, HB⟩ := hrel
      cases gk with
      | zero => exact absurd HA.out (by simp [impl_RowGet.l0])
      | succ k1 =>
        have H := HA.out
        clear HA
        simp only [impl_RowGet.l0] at H
        by_cases c13 : x16_1 < (l0_2.length : Int)
        · rw [if_pos c13] at H
          have c13b0 : decide (x16_1 < (l0_2.length : Int)) = true := decide_eq_true c13
          clear c13
          by_cases c14 : 0 ≤ x16_1
          · rw [if_pos c14] at H
            have c14b0 : decide (0 ≤ x16_1) = true := decide_eq_true c14
            clear c14
            by_cases c15 : x16_1 < (l0_2.length : Int)
            · rw [if_pos c15] at H
              have c15b0 : decide (x16_1 < (l0_2.length : Int)) = true := decide_eq_true c15
              clear c15
              by_cases c16 : ((rd_Item l0_2 x16_1).f0) ≥ a1
              · rw [if_pos c16] at H
                have c16b0 : decide (a1 ≤ ((rd_Item l0_2 x16_1).f0)) = true := decide_eq_true c16
                clear c16
                simp only [Option.some.injEq, Prod.mk.injEq] at H
                obtain ⟨rfl, rfl, rfl, rfl, rfl, rfl⟩ := H
                have p2250 : 0 ≤ (x16_1 : Int) := of_decide_eq_true dt_
                have q2250 : x16_1 < (l0_2.length : Int) := of_decide_eq_true dt_
                obtain ⟨ad2250, e2250, hx2250_0, hx2250_1, hx2250_2, hx2250_3, hx2250_4⟩ := at_Item HR0_2.out x16_1 p2250 q2250
                cases e2250
                replace hx2250_0 := hc_ HB hx2250_0
                replace hx2250_1 := hc_ HB hx2250_1
                replace hx2250_2 := hc_ HB hx2250_2
                replace hx2250_3 := hc_ HB hx2250_3
                replace hx2250_4 := hc_ HB hx2250_4
                replace p2250 := eq_true p2250
                replace q2250 := eq_true q2250
                go_wp2_with (first | ((with_reducible refine gate_dst (N := 7) rfl ?_); refine box_event ?hg (N := 7) ?hd (cs := #[.int .i64 0, .string (⟨#[]⟩ : ByteArray), .string (⟨#[]⟩ : ByteArray), .int .i64 0, .int .i64 0]) (t := 69) ?hr ?_; (case hd => rfl); (case hg => rfl); (case hr => first | (go_simp; done) | (go_simp; rfl)); intro gb2251 hg w17 hbox hb; have BK2251 := Aside0.mk (hbox); have GW2251 := Aside0.mk ((by rw [hg]; exact (below_size (qf2_)) : w.heap.size ≤ gb2251)); have GE2251 := Aside0.mk ((by rw [hg]; exact (below_size (qf2_)) : w.heap.size ≤ gb2251)); have NB2248_2251 := Aside0.mk ((by rw [hg]; exact Nat.ne_of_lt (blk_lt (g := gb2248) (o := .cells #[.int .i64 a0_0, .int .i64 a0_1, .slice (some ad2250) l0_2.length c0_2] 57 (0, 0)) (bq_ BK2248.out)) : gb2248 ≠ gb2251)); have NB2251_2248 := Aside0.mk ((by rw [hg]; exact Nat.ne_of_gt (blk_lt (g := gb2248) (o := .cells #[.int .i64 a0_0, .int .i64 a0_1, .slice (some ad2250) l0_2.length c0_2] 57 (0, 0)) (bq_ BK2248.out)) : gb2251 ≠ gb2248)); have NB2249_2251 := Aside0.mk ((by rw [hg]; exact Nat.ne_of_lt (blk_lt (g := gb2249) (o := .cells #[.int .i64 x2250000_1, .string x2250001_1, .string x2250002_1, .int .i64 x2250003_1, .int .i64 x2250004_1] 69 (0, 0)) (bq_ BK2249.out)) : gb2249 ≠ gb2251)); have NB2251_2249 := Aside0.mk ((by rw [hg]; exact Nat.ne_of_gt (blk_lt (g := gb2249) (o := .cells #[.int .i64 x2250000_1, .string x2250001_1, .string x2250002_1, .int .i64 x2250003_1, .int .i64 x2250004_1] 69 (0, 0)) (bq_ BK2249.out)) : gb2251 ≠ gb2249)); replace BK2248 := Aside0.mk (blk_below (g := gb2248) (o := .cells #[.int .i64 a0_0, .int .i64 a0_1, .slice (some ad2250) l0_2.length c0_2] 57 (0, 0)) (bq_ BK2248.out) hb); replace BK2249 := Aside0.mk (blk_below (g := gb2249) (o := .cells #[.int .i64 x2250000_1, .string x2250001_1, .string x2250002_1, .int .i64 x2250003_1, .int .i64 x2250004_1] 69 (0, 0)) (bq_ BK2249.out) hb); replace HB := Aside0.mk (below_step (qf2_) hb); clear hb hbox hg; have hnb18 := NB2251_2248.out; have hnc18 := NB2248_2251.out; have hnb19 := NB2251_2249.out; have hnc19 := NB2249_2251.out; have hcz20_0 : w17.cell? ⟨gb2251, 0, none⟩ = some (.int .i64 0) := bc_ BK2251 0; have hcz20_1 : w17.cell? ⟨gb2251, 1, none⟩ = some (.string (⟨#[]⟩ : ByteArray)) := bc_ BK2251 1; have hcz20_2 : w17.cell? ⟨gb2251, 2, none⟩ = some (.string (⟨#[]⟩ : ByteArray)) := bc_ BK2251 2; have hcz20_3 : w17.cell? ⟨gb2251, 3, none⟩ = some (.int .i64 0) := bc_ BK2251 3; have hcz20_4 : w17.cell? ⟨gb2251, 4, none⟩ = some (.int .i64 0) := bc_ BK2251 4; have hfz20_0 := blk_frozen BK2251.out 0; have hfz20_1 := blk_frozen BK2251.out 1; have hfz20_2 := blk_frozen BK2251.out 2; have hfz20_3 := blk_frozen BK2251.out 3; have hfz20_4 := blk_frozen BK2251.out 4; have hnb21 := NB2249_2248.out; have hnc21 := NB2248_2249.out; have hcz22_0 : w17.cell? ⟨gb2249, 0, none⟩ = some (.int .i64 x2250000_1) := bc_ BK2249 0; have hcz22_1 : w17.cell? ⟨gb2249, 1, none⟩ = some (.string x2250001_1) := bc_ BK2249 1; have hcz22_2 : w17.cell? ⟨gb2249, 2, none⟩ = some (.string x2250002_1) := bc_ BK2249 2; have hcz22_3 : w17.cell? ⟨gb2249, 3, none⟩ = some (.int .i64 x2250003_1) := bc_ BK2249 3; have hcz22_4 : w17.cell? ⟨gb2249, 4, none⟩ = some (.int .i64 x2250004_1) := bc_ BK2249 4; have hfz22_0 := blk_frozen BK2249.out 0; have hfz22_1 := blk_frozen BK2249.out 1; have hfz22_2 := blk_frozen BK2249.out 2; have hfz22_3 := blk_frozen BK2249.out 3; have hfz22_4 := blk_frozen BK2249.out 4))
                refine bodyPost_ret (results_ct rfl _ _ gb2249 69 #[.int .i64 ((rd_Item l0_2 x16_1).f0), .string ((rd_Item l0_2 x16_1).f1), .string ((rd_Item l0_2 x16_1).f2), .int .i64 ((rd_Item l0_2 x16_1).f3), .int .i64 ((rd_Item l0_2 x16_1).f4)] (0, 0) _ rfl (by_ BK2249.out) Try.underlying69 rfl (by kernel_rfl)) rfl ?_
                exact ⟨qf4_, qf21_⟩
              · rw [if_neg c16] at H
                have c16b0 : decide (a1 ≤ ((rd_Item l0_2 x16_1).f0)) = false := decide_eq_false c16
                clear c16
                have H' := Aside0.mk H
                clear H
                have p2250 : 0 ≤ (x16_1 : Int) := of_decide_eq_true dt_
                have q2250 : x16_1 < (l0_2.length : Int) := of_decide_eq_true dt_
                obtain ⟨ad2250, e2250, hx2250_0, hx2250_1, hx2250_2, hx2250_3, hx2250_4⟩ := at_Item HR0_2.out x16_1 p2250 q2250
                cases e2250
                replace hx2250_0 := hc_ HB hx2250_0
                replace hx2250_1 := hc_ HB hx2250_1
                replace hx2250_2 := hc_ HB hx2250_2
                replace hx2250_3 := hc_ HB hx2250_3
                replace hx2250_4 := hc_ HB hx2250_4
                replace p2250 := eq_true p2250
                replace q2250 := eq_true q2250
                go_wp2_with (first | ((with_reducible refine gate_dst (N := 7) rfl ?_); refine box_event ?hg (N := 7) ?hd (cs := #[.int .i64 0, .string (⟨#[]⟩ : ByteArray), .string (⟨#[]⟩ : ByteArray), .int .i64 0, .int .i64 0]) (t := 69) ?hr ?_; (case hd => rfl); (case hg => rfl); (case hr => first | (go_simp; done) | (go_simp; rfl)); intro gb2251 hg w23 hbox hb; have BK2251 := Aside0.mk (hbox); have GW2251 := Aside0.mk ((by rw [hg]; exact (below_size (qf2_)) : w.heap.size ≤ gb2251)); have GE2251 := Aside0.mk ((by rw [hg]; exact (below_size (qf2_)) : w.heap.size ≤ gb2251)); have NB2248_2251 := Aside0.mk ((by rw [hg]; exact Nat.ne_of_lt (blk_lt (g := gb2248) (o := .cells #[.int .i64 a0_0, .int .i64 a0_1, .slice (some ad2250) l0_2.length c0_2] 57 (0, 0)) (bq_ BK2248.out)) : gb2248 ≠ gb2251)); have NB2251_2248 := Aside0.mk ((by rw [hg]; exact Nat.ne_of_gt (blk_lt (g := gb2248) (o := .cells #[.int .i64 a0_0, .int .i64 a0_1, .slice (some ad2250) l0_2.length c0_2] 57 (0, 0)) (bq_ BK2248.out)) : gb2251 ≠ gb2248)); have NB2249_2251 := Aside0.mk ((by rw [hg]; exact Nat.ne_of_lt (blk_lt (g := gb2249) (o := .cells #[.int .i64 x2250000_1, .string x2250001_1, .string x2250002_1, .int .i64 x2250003_1, .int .i64 x2250004_1] 69 (0, 0)) (bq_ BK2249.out)) : gb2249 ≠ gb2251)); have NB2251_2249 := Aside0.mk ((by rw [hg]; exact Nat.ne_of_gt (blk_lt (g := gb2249) (o := .cells #[.int .i64 x2250000_1, .string x2250001_1, .string x2250002_1, .int .i64 x2250003_1, .int .i64 x2250004_1] 69 (0, 0)) (bq_ BK2249.out)) : gb2251 ≠ gb2249)); replace BK2248 := Aside0.mk (blk_below (g := gb2248) (o := .cells #[.int .i64 a0_0, .int .i64 a0_1, .slice (some ad2250) l0_2.length c0_2] 57 (0, 0)) (bq_ BK2248.out) hb); replace BK2249 := Aside0.mk (blk_below (g := gb2249) (o := .cells #[.int .i64 x2250000_1, .string x2250001_1, .string x2250002_1, .int .i64 x2250003_1, .int .i64 x2250004_1] 69 (0, 0)) (bq_ BK2249.out) hb); replace HB := Aside0.mk (below_step (qf2_) hb); clear hb hbox hg; have hnb24 := NB2251_2248.out; have hnc24 := NB2248_2251.out; have hnb25 := NB2251_2249.out; have hnc25 := NB2249_2251.out; have hcz26_0 : w23.cell? ⟨gb2251, 0, none⟩ = some (.int .i64 0) := bc_ BK2251 0; have hcz26_1 : w23.cell? ⟨gb2251, 1, none⟩ = some (.string (⟨#[]⟩ : ByteArray)) := bc_ BK2251 1; have hcz26_2 : w23.cell? ⟨gb2251, 2, none⟩ = some (.string (⟨#[]⟩ : ByteArray)) := bc_ BK2251 2; have hcz26_3 : w23.cell? ⟨gb2251, 3, none⟩ = some (.int .i64 0) := bc_ BK2251 3; have hcz26_4 : w23.cell? ⟨gb2251, 4, none⟩ = some (.int .i64 0) := bc_ BK2251 4; have hfz26_0 := blk_frozen BK2251.out 0; have hfz26_1 := blk_frozen BK2251.out 1; have hfz26_2 := blk_frozen BK2251.out 2; have hfz26_3 := blk_frozen BK2251.out 3; have hfz26_4 := blk_frozen BK2251.out 4))
                go_roundg k1
                case measure => have := HK1.out; omega
                case rel => exact ⟨(wrap64 (x16_1 + 1)), (x2250000_1), (x2250001_1), (x2250002_1), (x2250003_1), (x2250004_1), (qf19_), H', ⟨by have := HK1.out; omega⟩, ⟨bf_ NB2248_2251.out BK2248.out⟩, ⟨bf_ NB2249_2251.out BK2249.out⟩, ⟨qf21_⟩⟩
            · rw [if_neg c15] at H
              exact absurd H (by simp)
          · rw [if_neg c14] at H
            exact absurd H (by simp)
        · rw [if_neg c13] at H
          have c13b0 : decide (x16_1 < (l0_2.length : Int)) = false := decide_eq_false c13
          clear c13
          simp only [Option.some.injEq, Prod.mk.injEq] at H
          obtain ⟨rfl, rfl, rfl, rfl, rfl, rfl⟩ := H
          have hnb27 := NB2249_2248.out
          have hnc27 := NB2248_2249.out
          have hcz28_0 : wr.cell? ⟨gb2249, 0, none⟩ = some (.int .i64 x2250000_1) := bc_ BK2249 0
          have hcz28_1 : wr.cell? ⟨gb2249, 1, none⟩ = some (.string x2250001_1) := bc_ BK2249 1
          have hcz28_2 : wr.cell? ⟨gb2249, 2, none⟩ = some (.string x2250002_1) := bc_ BK2249 2
          have hcz28_3 : wr.cell? ⟨gb2249, 3, none⟩ = some (.int .i64 x2250003_1) := bc_ BK2249 3
          have hcz28_4 : wr.cell? ⟨gb2249, 4, none⟩ = some (.int .i64 x2250004_1) := bc_ BK2249 4
          have hfz28_0 := blk_frozen BK2249.out 0
          have hfz28_1 := blk_frozen BK2249.out 1
          have hfz28_2 := blk_frozen BK2249.out 2
          have hfz28_3 := blk_frozen BK2249.out 3
          have hfz28_4 := blk_frozen BK2249.out 4
          go_wp2
          refine bodyPost_ret (results_ct rfl _ _ gb2249 69 #[.int .i64 0, .string (⟨#[]⟩ : ByteArray), .string (⟨#[]⟩ : ByteArray), .int .i64 0, .int .i64 0] (0, 0) _ rfl (bp_ BK2249.out) Try.underlying69 rfl (by kernel_rfl)) rfl ?_
          exact ⟨qf4_, qf2_⟩
/-! ### spec_RowGet: function 39 -/
def spec_RowGet.l0 : Nat → Int → Int → Int → Int → List (S_Item) → Option (Int × ByteArray × ByteArray × Int × Int × Int)
  | 0, _, _, _, _, _ => none
  | k + 1, x1, x6, x2253000, x2253001, x2253002 => if x6 < (x2253002.length : Int) then (if 0 ≤ x6 then (if ((rd_Item x2253002 x6).f0) ≥ x1 then (some ((rd_Item x2253002 x6).f0, (rd_Item x2253002 x6).f1, (rd_Item x2253002 x6).f2, (rd_Item x2253002 x6).f3, (rd_Item x2253002 x6).f4, 0)) else (spec_RowGet.l0 k x1 (wrap64 (x6 + 1)) x2253000 x2253001 x2253002)) else (none)) else (some (0, (⟨#[]⟩ : ByteArray), (⟨#[]⟩ : ByteArray), 0, 0, 2))
def spec_RowGet.f (k : Nat) (a0_0 : Int) (a0_1 : Int) (l0_2 : List (S_Item)) (a1 : Int) : Option (Int × ByteArray × ByteArray × Int × Int × Int) := if a1 < a0_0 then (some (0, (⟨#[]⟩ : ByteArray), (⟨#[]⟩ : ByteArray), 0, 0, 1)) else (spec_RowGet.l0 k a1 0 a0_0 a0_1 l0_2)
theorem spec_RowGet.mono_l : ∀ k, (∀ y0 y1 y2 y3 y4, LeO (spec_RowGet.l0 k y0 y1 y2 y3 y4) (spec_RowGet.l0 (k + 1) y0 y1 y2 y3 y4))
  | 0 => fun _ _ _ _ _ r h => by simp [spec_RowGet.l0] at h
  | k + 1 => by
    have ih0 := spec_RowGet.mono_l k
    · intro y0 y1 y2 y3 y4
      unfold spec_RowGet.l0
      exact qfh2_
theorem spec_RowGet.mono : ∀ a0 a1 a2 a3 k, LeO (spec_RowGet.f k a0 a1 a2 a3) (spec_RowGet.f (k + 1) a0 a1 a2 a3) := by
  intro a0 a1 a2 a3 k
  have ih0 := spec_RowGet.mono_l k
  unfold spec_RowGet.f
  exact qfh2_
set_option maxHeartbeats 8000000 in
set_option maxRecDepth 100000 in
theorem spec_RowGet.calls (k : Nat) (a0_0 : Int) (a0_1 : Int) (A0_2 : Option Addr) (c0_2 : Nat) (l0_2 : List (S_Item)) (a1 : Int) (r1 : Int) (r2 : ByteArray) (r3 : ByteArray) (r4 : Int) (r5 : Int) (r6 : Int) (w : World) (hr0_2 : Kd.C k_Item w A0_2 l0_2.length l0_2) (hc0_2 : l0_2.length ≤ c0_2) (h : spec_RowGet.f k a0_0 a0_1 l0_2 a1 = some (r1, r2, r3, r4, r5, r6)) :
    Calls Try.prog 39 #[.agg #[.int .i64 a0_0, .int .i64 a0_1, .slice A0_2 l0_2.length c0_2], .int .i64 a1] w fun e w' => e = .returned (.tuple #[.agg #[.int .i64 r1, .string r2, .string r3, .int .i64 r4, .int .i64 r5], .int .i64 r6]) ∧ Below w.heap.size w w' := by
  have hu57 := Try.underlying57
  have hu69 := Try.underlying69
  have HR0_2 := Aside0.mk hr0_2
  have HC0_2 := Aside0.mk hc0_2
  clear hr0_2 hc0_2
  have HB := Aside0.mk (Below.refl w.heap.size w)
  have H : (if a1 < a0_0 then (some (0, (⟨#[]⟩ : ByteArray), (⟨#[]⟩ : ByteArray), 0, 0, 1)) else (spec_RowGet.l0 k a1 0 a0_0 a0_1 l0_2)) = some (r1, r2, r3, r4, r5, r6) := h
  clear h
  by_cases c3 : a1 < a0_0
  · rw [if_pos c3] at H
    have c3b0 : decide (a1 < a0_0) = true := decide_eq_true c3
    clear c3
    simp only [Option.some.injEq, Prod.mk.injEq] at H
    obtain ⟨rfl, rfl, rfl, rfl, rfl, rfl⟩ := H
    go_enter Try.func39, Try.ntmps39
    go_wp2_with (first | ((with_reducible refine gate_dst (N := 2) rfl ?_); refine box_event ?hg (N := 2) ?hd (cs := #[.int .i64 a0_0, .int .i64 a0_1, .slice A0_2 l0_2.length c0_2]) (t := 57) ?hr ?_; (case hd => rfl); (case hg => rfl); (case hr => first | (go_simp; done) | (go_simp; rfl)); intro gb2252 hg w4 hbox hb; have BK2252 := Aside0.mk (hbox); have GW2252 := Aside0.mk ((by rw [hg]; exact (below_size (qf0_)) : w.heap.size ≤ gb2252)); have GE2252 := Aside0.mk ((by rw [hg]; exact (below_size (qf0_)) : w.heap.size ≤ gb2252)); replace HB := Aside0.mk (below_step (qf0_) hb); clear hb hbox hg) | ((with_reducible refine gate_dst (N := 4) rfl ?_); refine box_event ?hg (N := 4) ?hd (cs := #[.int .i64 0, .string (⟨#[]⟩ : ByteArray), .string (⟨#[]⟩ : ByteArray), .int .i64 0, .int .i64 0]) (t := 69) ?hr ?_; (case hd => rfl); (case hg => rfl); (case hr => first | (go_simp; done) | (go_simp; rfl)); intro gb2253 hg w5 hbox hb; have BK2253 := Aside0.mk (hbox); have GW2253 := Aside0.mk ((by rw [hg]; exact (below_size (qf5_)) : w.heap.size ≤ gb2253)); have GE2253 := Aside0.mk ((by rw [hg]; exact (below_size (qf5_)) : w.heap.size ≤ gb2253)); have NB2252_2253 := Aside0.mk ((by rw [hg]; exact Nat.ne_of_lt (blk_lt (g := gb2252) (o := .cells #[.int .i64 a0_0, .int .i64 a0_1, .slice A0_2 l0_2.length c0_2] 57 (0, 0)) (bq_ BK2252.out)) : gb2252 ≠ gb2253)); have NB2253_2252 := Aside0.mk ((by rw [hg]; exact Nat.ne_of_gt (blk_lt (g := gb2252) (o := .cells #[.int .i64 a0_0, .int .i64 a0_1, .slice A0_2 l0_2.length c0_2] 57 (0, 0)) (bq_ BK2252.out)) : gb2253 ≠ gb2252)); replace BK2252 := Aside0.mk (blk_below (g := gb2252) (o := .cells #[.int .i64 a0_0, .int .i64 a0_1, .slice A0_2 l0_2.length c0_2] 57 (0, 0)) (bq_ BK2252.out) hb); replace HB := Aside0.mk (below_step (qf5_) hb); clear hb hbox hg; have hnb6 := NB2252_2253.out; have hnc6 := NB2253_2252.out; have hcz7_0 : w5.cell? ⟨gb2252, 0, none⟩ = some (.int .i64 a0_0) := bc_ BK2252 0; have hcz7_1 : w5.cell? ⟨gb2252, 1, none⟩ = some (.int .i64 a0_1) := bc_ BK2252 1; have hcz7_2 : w5.cell? ⟨gb2252, 2, none⟩ = some (.slice A0_2 l0_2.length c0_2) := bc_ BK2252 2; have hfz7_0 := blk_frozen BK2252.out 0; have hfz7_1 := blk_frozen BK2252.out 1; have hfz7_2 := blk_frozen BK2252.out 2; have hcz8_0 : w5.cell? ⟨gb2253, 0, none⟩ = some (.int .i64 0) := bc_ BK2253 0; have hcz8_1 : w5.cell? ⟨gb2253, 1, none⟩ = some (.string (⟨#[]⟩ : ByteArray)) := bc_ BK2253 1; have hcz8_2 : w5.cell? ⟨gb2253, 2, none⟩ = some (.string (⟨#[]⟩ : ByteArray)) := bc_ BK2253 2; have hcz8_3 : w5.cell? ⟨gb2253, 3, none⟩ = some (.int .i64 0) := bc_ BK2253 3; have hcz8_4 : w5.cell? ⟨gb2253, 4, none⟩ = some (.int .i64 0) := bc_ BK2253 4; have hfz8_0 := blk_frozen BK2253.out 0; have hfz8_1 := blk_frozen BK2253.out 1; have hfz8_2 := blk_frozen BK2253.out 2; have hfz8_3 := blk_frozen BK2253.out 3; have hfz8_4 := blk_frozen BK2253.out 4))
    refine bodyPost_ret (results_ct rfl _ _ gb2253 69 #[.int .i64 0, .string (⟨#[]⟩ : ByteArray), .string (⟨#[]⟩ : ByteArray), .int .i64 0, .int .i64 0] (0, 0) _ rfl (bp_ BK2253.out) Try.underlying69 rfl (by kernel_rfl)) rfl ?_
    exact ⟨qf4_, qf7_⟩
  · rw [if_neg c3] at H
    have c3b0 : decide (a1 < a0_0) = false := decide_eq_false c3
    clear c3
    have H' := Aside0.mk H
    clear H
    go_enter Try.func39, Try.ntmps39
    go_wp2_with (first | ((with_reducible refine gate_dst (N := 2) rfl ?_); refine box_event ?hg (N := 2) ?hd (cs := #[.int .i64 a0_0, .int .i64 a0_1, .slice A0_2 l0_2.length c0_2]) (t := 57) ?hr ?_; (case hd => rfl); (case hg => rfl); (case hr => first | (go_simp; done) | (go_simp; rfl)); intro gb2252 hg w9 hbox hb; have BK2252 := Aside0.mk (hbox); have GW2252 := Aside0.mk ((by rw [hg]; exact (below_size (qf0_)) : w.heap.size ≤ gb2252)); have GE2252 := Aside0.mk ((by rw [hg]; exact (below_size (qf0_)) : w.heap.size ≤ gb2252)); replace HB := Aside0.mk (below_step (qf0_) hb); clear hb hbox hg) | ((with_reducible refine gate_dst (N := 4) rfl ?_); refine box_event ?hg (N := 4) ?hd (cs := #[.int .i64 0, .string (⟨#[]⟩ : ByteArray), .string (⟨#[]⟩ : ByteArray), .int .i64 0, .int .i64 0]) (t := 69) ?hr ?_; (case hd => rfl); (case hg => rfl); (case hr => first | (go_simp; done) | (go_simp; rfl)); intro gb2253 hg w10 hbox hb; have BK2253 := Aside0.mk (hbox); have GW2253 := Aside0.mk ((by rw [hg]; exact (below_size (qf5_)) : w.heap.size ≤ gb2253)); have GE2253 := Aside0.mk ((by rw [hg]; exact (below_size (qf5_)) : w.heap.size ≤ gb2253)); have NB2252_2253 := Aside0.mk ((by rw [hg]; exact Nat.ne_of_lt (blk_lt (g := gb2252) (o := .cells #[.int .i64 a0_0, .int .i64 a0_1, .slice A0_2 l0_2.length c0_2] 57 (0, 0)) (bq_ BK2252.out)) : gb2252 ≠ gb2253)); have NB2253_2252 := Aside0.mk ((by rw [hg]; exact Nat.ne_of_gt (blk_lt (g := gb2252) (o := .cells #[.int .i64 a0_0, .int .i64 a0_1, .slice A0_2 l0_2.length c0_2] 57 (0, 0)) (bq_ BK2252.out)) : gb2253 ≠ gb2252)); replace BK2252 := Aside0.mk (blk_below (g := gb2252) (o := .cells #[.int .i64 a0_0, .int .i64 a0_1, .slice A0_2 l0_2.length c0_2] 57 (0, 0)) (bq_ BK2252.out) hb); replace HB := Aside0.mk (below_step (qf5_) hb); clear hb hbox hg; have hnb11 := NB2252_2253.out; have hnc11 := NB2253_2252.out; have hcz12_0 : w10.cell? ⟨gb2252, 0, none⟩ = some (.int .i64 a0_0) := bc_ BK2252 0; have hcz12_1 : w10.cell? ⟨gb2252, 1, none⟩ = some (.int .i64 a0_1) := bc_ BK2252 1; have hcz12_2 : w10.cell? ⟨gb2252, 2, none⟩ = some (.slice A0_2 l0_2.length c0_2) := bc_ BK2252 2; have hfz12_0 := blk_frozen BK2252.out 0; have hfz12_1 := blk_frozen BK2252.out 1; have hfz12_2 := blk_frozen BK2252.out 2))
    go_loopg [6] k (fun kq v6 w' => ∃ (x6_1 : Int) (x2254000_1 : Int) (x2254001_1 : ByteArray) (x2254002_1 : ByteArray) (x2254003_1 : Int) (x2254004_1 : Int), v6 = .int .i64 x6_1 ∧ Aside0 (spec_RowGet.l0 kq a1 x6_1 a0_0 a0_1 l0_2 = some (r1, r2, r3, r4, r5, r6)) ∧ Aside0 (kq ≤ k) ∧ Aside0 (w'.heap[gb2252]? = some (.cells #[.int .i64 a0_0, .int .i64 a0_1, (.slice A0_2 l0_2.length c0_2)] 57 (0, 0))) ∧ Aside0 (w'.heap[gb2253]? = some (.cells #[.int .i64 x2254000_1, .string x2254001_1, .string x2254002_1, .int .i64 x2254003_1, .int .i64 x2254004_1] 69 (0, 0))) ∧ Aside0 (Below w.heap.size w w'))
    case atStart => exact ⟨(0), (0), ((⟨#[]⟩ : ByteArray)), ((⟨#[]⟩ : ByteArray)), (0), (0), (qf19_), H', ⟨Nat.le_refl _⟩, ⟨bq_ BK2252.out⟩, ⟨bq_ BK2253.out⟩, ⟨qf7_⟩⟩
    case round =>
      clear H'
      try clear c1
      try clear p2
      try clear c3
      try clear c3b0
      try clear c6
      try clear c11
      try clear hcz12_0
      try clear hcz12_1
      try clear hcz12_2
      try clear hcz7_0
      try clear hcz7_1
      try clear hcz7_2
      try clear hcz8_0
      try clear hcz8_1
      try clear hcz8_2
      try clear hcz8_3
      try clear hcz8_4
      try clear hfz12_0
      try clear hfz12_1
      try clear hfz12_2
      try clear hfz7_0
      try clear hfz7_1
      try clear hfz7_2
      try clear hfz8_0
      try clear hfz8_1
      try clear hfz8_2
      try clear hfz8_3
      try clear hfz8_4
      obtain ⟨x6_1, x2254000_1, x2254001_1, x2254002_1, x2254003_1, x2254004_1, rfl, HA, HK1, BK2252, BK2253, HB⟩ := hrel
      cases gk with
      | zero => exact absurd HA.out (by simp [spec_RowGet.l0])
      | succ k1 =>
        have H := HA.out
        clear HA
        simp only [spec_RowGet.l0] at H
        by_cases c13 : x6_1 < (l0_2.length : Int)
        · rw [if_pos c13] at H
          have c13b0 : decide (x6_1 < (l0_2.length : Int)) = true := decide_eq_true c13
          clear c13
          by_cases c14 : 0 ≤ x6_1
          · rw [if_pos c14] at H
            have c14b0 : decide (0 ≤ x6_1) = true := decide_eq_true c14
            clear c14
            by_cases c15 : ((rd_Item l0_2 x6_1).f0) ≥ a1
            · rw [if_pos c15] at H
              have c15b0 : decide (a1 ≤ ((rd_Item l0_2 x6_1).f0)) = true := decide_eq_true c15
              clear c15
              simp only [Option.some.injEq, Prod.mk.injEq] at H
              obtain ⟨rfl, rfl, rfl, rfl, rfl, rfl⟩ := H
              have hnb16 := NB2252_2253.out
              have hnc16 := NB2253_2252.out
              have hcz17_0 : wr.cell? ⟨gb2252, 0, none⟩ = some (.int .i64 a0_0) := bc_ BK2252 0
              have hcz17_1 : wr.cell? ⟨gb2252, 1, none⟩ = some (.int .i64 a0_1) := bc_ BK2252 1
              have hcz17_2 : wr.cell? ⟨gb2252, 2, none⟩ = some (.slice A0_2 l0_2.length c0_2) := bc_ BK2252 2
              have hfz17_0 := blk_frozen BK2252.out 0
              have hfz17_1 := blk_frozen BK2252.out 1
              have hfz17_2 := blk_frozen BK2252.out 2
              have p2254 : 0 ≤ (x6_1 : Int) := of_decide_eq_true dt_
              have q2254 : x6_1 < (l0_2.length : Int) := of_decide_eq_true dt_
              obtain ⟨ad2254, e2254, hx2254_0, hx2254_1, hx2254_2, hx2254_3, hx2254_4⟩ := at_Item HR0_2.out x6_1 p2254 q2254
              cases e2254
              replace hx2254_0 := hc_ HB hx2254_0
              replace hx2254_1 := hc_ HB hx2254_1
              replace hx2254_2 := hc_ HB hx2254_2
              replace hx2254_3 := hc_ HB hx2254_3
              replace hx2254_4 := hc_ HB hx2254_4
              replace p2254 := eq_true p2254
              replace q2254 := eq_true q2254
              have p2255 : 0 ≤ (x6_1 : Int) := of_decide_eq_true dt_
              have q2255 : x6_1 < (l0_2.length : Int) := of_decide_eq_true dt_
              obtain ⟨ad2255, e2255, hx2255_0, hx2255_1, hx2255_2, hx2255_3, hx2255_4⟩ := at_Item HR0_2.out x6_1 p2255 q2255
              obtain rfl : ad2254 = ad2255 := (by injection e2255)
              replace hx2255_0 := hc_ HB hx2255_0
              replace hx2255_1 := hc_ HB hx2255_1
              replace hx2255_2 := hc_ HB hx2255_2
              replace hx2255_3 := hc_ HB hx2255_3
              replace hx2255_4 := hc_ HB hx2255_4
              replace p2255 := eq_true p2255
              replace q2255 := eq_true q2255
              have hcz18_0 : wr.cell? ⟨gb2253, 0, none⟩ = some (.int .i64 x2254000_1) := bc_ BK2253 0
              have hcz18_1 : wr.cell? ⟨gb2253, 1, none⟩ = some (.string x2254001_1) := bc_ BK2253 1
              have hcz18_2 : wr.cell? ⟨gb2253, 2, none⟩ = some (.string x2254002_1) := bc_ BK2253 2
              have hcz18_3 : wr.cell? ⟨gb2253, 3, none⟩ = some (.int .i64 x2254003_1) := bc_ BK2253 3
              have hcz18_4 : wr.cell? ⟨gb2253, 4, none⟩ = some (.int .i64 x2254004_1) := bc_ BK2253 4
              have hfz18_0 := blk_frozen BK2253.out 0
              have hfz18_1 := blk_frozen BK2253.out 1
              have hfz18_2 := blk_frozen BK2253.out 2
              have hfz18_3 := blk_frozen BK2253.out 3
              have hfz18_4 := blk_frozen BK2253.out 4
              go_wp2
              refine bodyPost_ret (results_ct rfl _ _ gb2253 69 #[.int .i64 ((rd_Item l0_2 x6_1).f0), .string ((rd_Item l0_2 x6_1).f1), .string ((rd_Item l0_2 x6_1).f2), .int .i64 ((rd_Item l0_2 x6_1).f3), .int .i64 ((rd_Item l0_2 x6_1).f4)] (0, 0) _ rfl (bp_ BK2253.out) Try.underlying69 rfl (by kernel_rfl)) rfl ?_
              exact ⟨qf4_, qf7_⟩
            · rw [if_neg c15] at H
              have c15b0 : decide (a1 ≤ ((rd_Item l0_2 x6_1).f0)) = false := decide_eq_false c15
              clear c15
              have H' := Aside0.mk H
              clear H
              have hnb19 := NB2252_2253.out
              have hnc19 := NB2253_2252.out
              have hcz20_0 : wr.cell? ⟨gb2252, 0, none⟩ = some (.int .i64 a0_0) := bc_ BK2252 0
              have hcz20_1 : wr.cell? ⟨gb2252, 1, none⟩ = some (.int .i64 a0_1) := bc_ BK2252 1
              have hcz20_2 : wr.cell? ⟨gb2252, 2, none⟩ = some (.slice A0_2 l0_2.length c0_2) := bc_ BK2252 2
              have hfz20_0 := blk_frozen BK2252.out 0
              have hfz20_1 := blk_frozen BK2252.out 1
              have hfz20_2 := blk_frozen BK2252.out 2
              have p2254 : 0 ≤ (x6_1 : Int) := of_decide_eq_true dt_
              have q2254 : x6_1 < (l0_2.length : Int) := of_decide_eq_true dt_
              obtain ⟨ad2254, e2254, hx2254_0, hx2254_1, hx2254_2, hx2254_3, hx2254_4⟩ := at_Item HR0_2.out x6_1 p2254 q2254
              cases e2254
              replace hx2254_0 := hc_ HB hx2254_0
              replace hx2254_1 := hc_ HB hx2254_1
              replace hx2254_2 := hc_ HB hx2254_2
              replace hx2254_3 := hc_ HB hx2254_3
              replace hx2254_4 := hc_ HB hx2254_4
              replace p2254 := eq_true p2254
              replace q2254 := eq_true q2254
              go_wp2
              go_roundg k1
              case measure => have := HK1.out; omega
              case rel => exact ⟨(wrap64 (x6_1 + 1)), (x2254000_1), (x2254001_1), (x2254002_1), (x2254003_1), (x2254004_1), (qf19_), H', ⟨by have := HK1.out; omega⟩, ⟨bq_ BK2252.out⟩, ⟨bq_ BK2253.out⟩, ⟨qf7_⟩⟩
          · rw [if_neg c14] at H
            exact absurd H (by simp)
        · rw [if_neg c13] at H
          have c13b0 : decide (x6_1 < (l0_2.length : Int)) = false := decide_eq_false c13
          clear c13
          simp only [Option.some.injEq, Prod.mk.injEq] at H
          obtain ⟨rfl, rfl, rfl, rfl, rfl, rfl⟩ := H
          have hnb21 := NB2252_2253.out
          have hnc21 := NB2253_2252.out
          have hcz22_0 : wr.cell? ⟨gb2252, 0, none⟩ = some (.int .i64 a0_0) := bc_ BK2252 0
          have hcz22_1 : wr.cell? ⟨gb2252, 1, none⟩ = some (.int .i64 a0_1) := bc_ BK2252 1
          have hcz22_2 : wr.cell? ⟨gb2252, 2, none⟩ = some (.slice A0_2 l0_2.length c0_2) := bc_ BK2252 2
          have hfz22_0 := blk_frozen BK2252.out 0
          have hfz22_1 := blk_frozen BK2252.out 1
          have hfz22_2 := blk_frozen BK2252.out 2
          have hcz23_0 : wr.cell? ⟨gb2253, 0, none⟩ = some (.int .i64 x2254000_1) := bc_ BK2253 0
          have hcz23_1 : wr.cell? ⟨gb2253, 1, none⟩ = some (.string x2254001_1) := bc_ BK2253 1
          have hcz23_2 : wr.cell? ⟨gb2253, 2, none⟩ = some (.string x2254002_1) := bc_ BK2253 2
          have hcz23_3 : wr.cell? ⟨gb2253, 3, none⟩ = some (.int .i64 x2254003_1) := bc_ BK2253 3
          have hcz23_4 : wr.cell? ⟨gb2253, 4, none⟩ = some (.int .i64 x2254004_1) := bc_ BK2253 4
          have hfz23_0 := blk_frozen BK2253.out 0
          have hfz23_1 := blk_frozen BK2253.out 1
          have hfz23_2 := blk_frozen BK2253.out 2
          have hfz23_3 := blk_frozen BK2253.out 3
          have hfz23_4 := blk_frozen BK2253.out 4
          go_wp2
          refine bodyPost_ret (results_ct rfl _ _ gb2253 69 #[.int .i64 0, .string (⟨#[]⟩ : ByteArray), .string (⟨#[]⟩ : ByteArray), .int .i64 0, .int .i64 0] (0, 0) _ rfl (bp_ BK2253.out) Try.underlying69 rfl (by kernel_rfl)) rfl ?_
          exact ⟨qf4_, qf7_⟩

/-! ### spec_DrawLatest: function 40 -/
def spec_DrawLatest.f (k : Nat) (l0 : List Int) : Option (Int × Int × (List (S_Item)) × ByteArray) := (spec_l1New.f k l0).bind fun bt2257 => ((spec_l3Draw.f k bt2257.1 bt2257.2.1 bt2257.2.2).bind fun bt2261 => ((spec_l2DrawText.f bt2257.1 bt2261.2.2.2.1 bt2261.2.2.2.2).bind fun bt2269 => (some (bt2261.1, bt2261.2.1, bt2261.2.2.1, bt2269.1))))
theorem spec_DrawLatest.mono : ∀ a0 k, LeO (spec_DrawLatest.f k a0) (spec_DrawLatest.f (k + 1) a0) := by
  intro a0 k
  unfold spec_DrawLatest.f
  exact qfh0_
set_option maxHeartbeats 8000000 in
set_option maxRecDepth 100000 in
theorem spec_DrawLatest.calls (k : Nat) (A0 : Option Addr) (c0 : Nat) (l0 : List Int) (r1 : Int) (r2 : Int) (r3 : List (S_Item)) (r4 : ByteArray) (w : World) (hr0 : Kd.C (Kd.int .u8) w A0 l0.length l0) (hc0 : l0.length ≤ c0) (h : spec_DrawLatest.f k l0 = some (r1, r2, r3, r4)) :
    Calls Try.prog 40 #[.slice A0 l0.length c0] w fun e w' => ∃ v2_ : Value, e = .returned (.tuple #[.agg #[.int .i64 r1, .int .i64 r2, v2_], .string r4]) ∧ Kd.R k_Item 69 w' w.heap.size (fun _ => True) v2_ r3 ∧ Below w.heap.size w w' := by
  have hu57 := Try.underlying57
  have HR0 := Aside0.mk hr0
  have HC0 := Aside0.mk hc0
  clear hr0 hc0
  have HB := Aside0.mk (Below.refl w.heap.size w)
  have H : ((spec_l1New.f k l0).bind fun bt2257 => ((spec_l3Draw.f k bt2257.1 bt2257.2.1 bt2257.2.2).bind fun bt2261 => ((spec_l2DrawText.f bt2257.1 bt2261.2.2.2.1 bt2261.2.2.2.2).bind fun bt2269 => (some (bt2261.1, bt2261.2.1, bt2261.2.2.1, bt2269.1))))) = some (r1, r2, r3, r4) := h
  clear h
  replace H := Option.bind_eq_some_iff.mp H
  obtain ⟨⟨t2257, t2258, t2259⟩, A20, H⟩ := H
  replace H : ((spec_l3Draw.f k t2257 t2258 t2259).bind fun bt2261 => ((spec_l2DrawText.f t2257 bt2261.2.2.2.1 bt2261.2.2.2.2).bind fun bt2269 => (some (bt2261.1, bt2261.2.1, bt2261.2.2.1, bt2269.1)))) = some (r1, r2, r3, r4) := H
  have A2 := Aside0.mk A20
  clear A20
  replace H := Option.bind_eq_some_iff.mp H
  obtain ⟨⟨t2261, t2262, t2263, t2266, t2267⟩, A30, H⟩ := H
  replace H : ((spec_l2DrawText.f t2257 t2266 t2267).bind fun bt2269 => (some (t2261, t2262, t2263, bt2269.1))) = some (r1, r2, r3, r4) := H
  have A3 := Aside0.mk A30
  clear A30
  replace H := Option.bind_eq_some_iff.mp H
  obtain ⟨⟨t2269, t2270, t2271⟩, A40, H⟩ := H
  replace H : (some (t2261, t2262, t2263, t2269)) = some (r1, r2, r3, r4) := H
  have A4 := Aside0.mk A40
  clear A40
  simp only [Option.some.injEq, Prod.mk.injEq] at H
  obtain ⟨rfl, rfl, rfl, rfl⟩ := H
  go_enter Try.func40, Try.ntmps40
  try go_wp2_with (first | ((with_reducible refine gate_dst (N := 2) rfl ?_); refine box_event ?hg (N := 2) ?hd (cs := #[.int .i64 0, .int .i64 0, .slice none 0 0]) (t := 57) ?hr ?_; (case hd => rfl); (case hg => rfl); (case hr => first | (go_simp; done) | (go_simp; rfl)); intro gb2256 hg w5 hbox hb; have BK2256 := Aside0.mk (hbox); have GW2256 := Aside0.mk ((by rw [hg]; exact (below_size (qf0_)) : w.heap.size ≤ gb2256)); have GE2256 := Aside0.mk ((by rw [hg]; exact (below_size (qf0_)) : w.heap.size ≤ gb2256)); replace HB := Aside0.mk (below_step (qf0_) hb); clear hb hbox hg) | ((with_reducible refine gate_callee (f := 76) rfl ?_); refine goesL_ (some 7) rfl rfl Try.func76 (by kernel_rfl) rfl #[.slice A0 l0.length c0] rfl (qf1_) ?_; (with_reducible refine (spec_l1New.calls k _ _ l0 t2257 t2258 t2259 w _ ?side1 ?side2 ?side3 A2.out).mono ?_); (case side1 => repeat (first | (with_reducible first | exact HB.out | apply below_alloc | apply pw_below_drewN | apply below_drew1 | refine below_set ?_ GE2256.out) | exact HB.out)); (case side2 => exact HR0.out); (case side3 => exact HC0.out); rintro e w6 ⟨g2260, rfl, hi, hb, hb2⟩; refine ⟨_, rfl, ?_⟩; have HI2260 := Aside0.mk (hi); have NB2260_2256 := Aside0.mk (IsS_l1Cur.ne_blk hi (blk_below (g := gb2256) (o := .cells #[.int .i64 0, .int .i64 0, .slice none 0 0] 57 (0, 0)) (bq_ BK2256.out) hb2) (by decide)); have NB2256_2260 := Aside0.mk (Ne.symm (IsS_l1Cur.ne_blk hi (blk_below (g := gb2256) (o := .cells #[.int .i64 0, .int .i64 0, .slice none 0 0] 57 (0, 0)) (bq_ BK2256.out) hb2) (by decide))); replace BK2256 := Aside0.mk (blk_below (g := gb2256) (o := .cells #[.int .i64 0, .int .i64 0, .slice none 0 0] 57 (0, 0)) (bq_ BK2256.out) hb2); replace HB := Aside0.mk (hb); (try clear hb); (try clear hb2); (try clear hk); (try clear hi)) | ((with_reducible refine gate_callee (f := 101) rfl ?_); refine goesL_ (some 9) rfl rfl Try.func101 (by kernel_rfl) rfl #[.pointer (some ⟨g2260, 0, none⟩)] rfl (qf1_) ?_; (with_reducible refine (spec_l3Draw.calls k g2260 t2257 t2258 t2259 t2261 t2262 t2263 t2266 t2267 w _ ?side1 ?side2 A3.out).mono ?_); (case side1 => repeat (first | (with_reducible first | exact HI2260.out | apply IsS_l1Cur.alloc | apply IsS_l1Cur.drewN | apply IsS_l1Cur.drew | apply IsS_l1Cur.set_1 | apply IsS_l1Cur.set_2 | refine IsS_l1Cur.far ?_ NB2260_2256.out _) | exact HI2260.out)); (case side2 => repeat (first | (with_reducible first | exact HB.out | apply below_alloc | apply pw_below_drewN | apply below_drew1 | refine below_set ?_ (IsS_l1Cur.ge HI2260.out) | refine below_set ?_ GE2256.out) | exact HB.out)); rintro e w7 ⟨v2264, rfl, ho0, hi, hb, hk⟩; refine ⟨_, rfl, ?_⟩; have HO2265 := Aside0.mk (Kd.R_lower ho0 (below_size (qf8_))); replace BK2256 := Aside0.mk (KeepBut.blk hk (g' := gb2256) (o := .cells #[.int .i64 0, .int .i64 0, .slice none 0 0] 57 (0, 0)) (bq_ BK2256.out) NB2256_2260.out (by simp)); replace HB := Aside0.mk (hb); replace HI2260 := Aside0.mk (hi); (try clear hb); (try clear hb2); (try clear hk); (try clear hi); (try clear ho0)) | ((with_reducible refine gate_dst (N := 5) rfl ?_); refine box_event ?hg (N := 5) ?hd (cs := #[.int .i64 0, .int .i64 0, .slice none 0 0]) (t := 57) ?hr ?_; (case hd => rfl); (case hg => rfl); (case hr => first | (go_simp; done) | (go_simp; rfl)); intro gb2268 hg w8 hbox hb; have BK2268 := Aside0.mk (hbox); have GW2268 := Aside0.mk ((by rw [hg]; exact (below_size (qf8_)) : w.heap.size ≤ gb2268)); have GE2268 := Aside0.mk ((by rw [hg]; exact (below_size (qf8_)) : w.heap.size ≤ gb2268)); have NB2256_2268 := Aside0.mk ((by rw [hg]; exact Nat.ne_of_lt (blk_lt (g := gb2256) (o := .cells #[.int .i64 0, .int .i64 0, .slice none 0 0] 57 (0, 0)) (bq_ BK2256.out)) : gb2256 ≠ gb2268)); have NB2268_2256 := Aside0.mk ((by rw [hg]; exact Nat.ne_of_gt (blk_lt (g := gb2256) (o := .cells #[.int .i64 0, .int .i64 0, .slice none 0 0] 57 (0, 0)) (bq_ BK2256.out)) : gb2268 ≠ gb2256)); have NB2260_2268 := Aside0.mk ((by rw [hg]; exact Nat.ne_of_lt (IsS_l1Cur.lt (show IsS_l1Cur w _ g2260 t2257 t2266 t2267 from by repeat (first | (with_reducible first | exact HI2260.out | apply IsS_l1Cur.alloc | apply IsS_l1Cur.drewN | apply IsS_l1Cur.drew | apply IsS_l1Cur.set_1 | apply IsS_l1Cur.set_2 | refine IsS_l1Cur.far ?_ NB2260_2256.out _) | exact HI2260.out))) : g2260 ≠ gb2268)); have NB2268_2260 := Aside0.mk ((by rw [hg]; exact Nat.ne_of_gt (IsS_l1Cur.lt (show IsS_l1Cur w _ g2260 t2257 t2266 t2267 from by repeat (first | (with_reducible first | exact HI2260.out | apply IsS_l1Cur.alloc | apply IsS_l1Cur.drewN | apply IsS_l1Cur.drew | apply IsS_l1Cur.set_1 | apply IsS_l1Cur.set_2 | refine IsS_l1Cur.far ?_ NB2260_2256.out _) | exact HI2260.out))) : gb2268 ≠ g2260)); replace HO2265 := Aside0.mk (Kd.R_below (by (with_reducible repeat (first | apply Kd.R_alloc | apply Kd.R_drewN | apply Kd.R_drew)); exact HO2265.out) hb); replace BK2256 := Aside0.mk (blk_below (g := gb2256) (o := .cells #[.int .i64 0, .int .i64 0, .slice none 0 0] 57 (0, 0)) (bq_ BK2256.out) hb); replace HB := Aside0.mk (below_step (qf8_) hb); replace HI2260 := Aside0.mk (IsS_l1Cur.below (by repeat (first | (with_reducible first | exact HI2260.out | apply IsS_l1Cur.alloc | apply IsS_l1Cur.drewN | apply IsS_l1Cur.drew | apply IsS_l1Cur.set_1 | apply IsS_l1Cur.set_2 | refine IsS_l1Cur.far ?_ NB2260_2256.out _) | exact HI2260.out)) hb); clear hb hbox hg; have hnb9 := NB2268_2256.out; have hnc9 := NB2256_2268.out; have hnb10 := NB2268_2260.out; have hnc10 := NB2260_2268.out; have hcz11_0 : w8.cell? ⟨gb2268, 0, none⟩ = some (.int .i64 0) := bc_ BK2268 0; have hcz11_1 : w8.cell? ⟨gb2268, 1, none⟩ = some (.int .i64 0) := bc_ BK2268 1; have hcz11_2 : w8.cell? ⟨gb2268, 2, none⟩ = some (.slice none 0 0) := bc_ BK2268 2; have hfz11_0 := blk_frozen BK2268.out 0; have hfz11_1 := blk_frozen BK2268.out 1; have hfz11_2 := blk_frozen BK2268.out 2; obtain ⟨Ao12, co12, eo12⟩ := Kd.R_slice HO2265.out; subst eo12))
  obtain ⟨w13, qe_⟩ : ∃ x_, x_ = (((w8.setCell ⟨gb2268, 0, none⟩ (.int .i64 t2261)).setCell ⟨gb2268, 1, none⟩ (.int .i64 t2262)).setCell ⟨gb2268, 2, none⟩ (.slice Ao12 t2263.length co12)) := ⟨_, rfl⟩
  rw [← qe_]
  replace HO2265 : Aside0 (Kd.R k_Item 69 w13 w.heap.size (fun _ => True) (.slice Ao12 t2263.length co12) t2263) := ⟨by rw [qe_]; exact by (with_reducible repeat (first | apply Kd.R_alloc | apply Kd.R_drewN | apply Kd.R_drew)); exact Kd.R_mono (Kd.R_far (p := ⟨gb2268, 2, none⟩) (Kd.R_far (p := ⟨gb2268, 1, none⟩) (Kd.R_far (p := ⟨gb2268, 0, none⟩) (Kd.R_types HO2265.out BK2268.out (by decide)) (fun _ hk => hk.2) (.int .i64 t2261)) (fun _ hk => hk.2) (.int .i64 t2262)) (fun _ hk => hk.2) (.slice Ao12 t2263.length co12)) (fun _ hk => trivial)⟩
  replace BK2256 := fl_ qe_ BK2256
  replace BK2268 : Aside0 (w13.heap[gb2268]? = some (.cells #[.int .i64 t2261, .int .i64 t2262, .slice Ao12 t2263.length co12] 57 (0, 0))) := ⟨by rw [qe_]; exact bp_ BK2268.out⟩
  replace HB : Aside0 (Below w.heap.size w w13) := ⟨by rw [qe_]; exact by repeat (first | (with_reducible first | exact HB.out | apply below_alloc | apply pw_below_drewN | apply below_drew1 | refine below_set ?_ (IsS_l1Cur.ge HI2260.out) | refine below_set ?_ GE2256.out | refine below_set ?_ GE2268.out) | exact HB.out)⟩
  replace HI2260 : Aside0 (IsS_l1Cur w w13 g2260 t2257 t2266 t2267) := ⟨by rw [qe_]; exact by repeat (first | (with_reducible first | exact HI2260.out | apply IsS_l1Cur.alloc | apply IsS_l1Cur.drewN | apply IsS_l1Cur.drew | apply IsS_l1Cur.set_1 | apply IsS_l1Cur.set_2 | refine IsS_l1Cur.far ?_ NB2260_2256.out _ | refine IsS_l1Cur.far ?_ NB2260_2268.out _) | exact HI2260.out)⟩
  clear qe_
  replace HO2265 := Aside0.mk (Kd.R_drew HO2265.out)
  replace BK2256 := Aside0.mk (blk_drew BK2256.out)
  replace BK2268 := Aside0.mk (blk_drew BK2268.out)
  replace HI2260 := Aside0.mk (IsS_l1Cur.drew HI2260.out)
  replace HB := Aside0.mk (below_drew1 HB.out)
  refine start_ (n := 5) (S := fun w' => w'.cell? ⟨gb2268, 0, none⟩ = some (.int .i64 t2261) ∧ w'.cell? ⟨gb2268, 1, none⟩ = some (.int .i64 t2262) ∧ w'.cell? ⟨gb2268, 2, none⟩ = some (.slice Ao12 t2263.length co12)) (ds := []) #[false, false, false, false, false] (by kernel_rfl) rfl rfl ⟨bc_ BK2268 0, bc_ BK2268 1, bc_ BK2268 2⟩ (fun hHeld => ?_)
  generalize w13.drew = w14 at HO2265 BK2256 BK2268 HI2260 HB hHeld ⊢
  refine pure_ (i := 1) (N := some 11) (v := ?_) (a' := ?_) #[false, true, false, false, false] rfl rfl (by kernel_rfl) (fun _ _ _ h => h) (Or.inl ⟨by rfl, ?_⟩) ?_ ?_
  rotate_left
  · intro w'
    go_simp
    with_reducible rfl
  rotate_left
  · simp only [Act.put, List.setIfInBounds_toArray, List.set_cons_zero, List.set_cons_succ, i64_w, i32_w]
    rfl
  refine take_ (i := 0) (N := some 10) (v := ?_) (a' := ?_) #[true, true, false, false, false] rfl rfl (by kernel_rfl) (fun _ _ _ h => h) (Or.inl ⟨by rfl, ?_⟩) hHeld ?_ ?_
  rotate_left
  · rintro w' ⟨s0, s1, s2⟩
    go_simp
    with_reducible rfl
  rotate_left
  · simp only [Act.put, List.setIfInBounds_toArray, List.set_cons_zero, List.set_cons_succ, i64_w, i32_w]
    rfl
  refine one_ (i := 2) (N := some 12) #[true, true, true, false, false] rfl rfl (by kernel_rfl) (by decide) (fun K hK => ?_)
  refine goes_ Try.func103 (by kernel_rfl) rfl #[.pointer (some ⟨g2260, 0, none⟩)] (by rfl) rfl rfl (qf1_) ?_
  with_reducible refine (spec_l2DrawText.calls g2260 t2257 t2266 t2267 t2269 t2270 t2271 w _ ?side1 ?side2 A4.out).mono ?_
  (case side1 => repeat (first | (with_reducible first | exact HI2260.out | apply IsS_l1Cur.alloc | apply IsS_l1Cur.drewN | apply IsS_l1Cur.drew | apply IsS_l1Cur.set_1 | apply IsS_l1Cur.set_2 | refine IsS_l1Cur.far ?_ NB2260_2256.out _ | refine IsS_l1Cur.far ?_ NB2260_2268.out _) | exact HI2260.out))
  (case side2 => repeat (first | (with_reducible first | exact HB.out | apply below_alloc | apply pw_below_drewN | apply below_drew1 | refine below_set ?_ (IsS_l1Cur.ge HI2260.out) | refine below_set ?_ GE2256.out | refine below_set ?_ GE2268.out) | exact HB.out))
  rintro e w15 ⟨rfl, hi, hb, hk⟩
  refine ⟨_, rfl, ?_⟩
  replace BK2256 := Aside0.mk (KeepBut.blk hk (g' := gb2256) (o := .cells #[.int .i64 0, .int .i64 0, .slice none 0 0] 57 (0, 0)) (bq_ BK2256.out) NB2256_2260.out (by simp))
  replace HO2265 := Aside0.mk (Kd.R_mono (Kd.R_keep (IsS_l1Cur.apart (show IsS_l1Cur w _ g2260 t2257 t2266 t2267 from by repeat (first | (with_reducible first | exact HI2260.out | apply IsS_l1Cur.alloc | apply IsS_l1Cur.drewN | apply IsS_l1Cur.drew | apply IsS_l1Cur.set_1 | apply IsS_l1Cur.set_2 | refine IsS_l1Cur.far ?_ NB2260_2256.out _ | refine IsS_l1Cur.far ?_ NB2260_2268.out _) | exact HI2260.out)) (by (with_reducible repeat (first | apply Kd.R_alloc | apply Kd.R_drewN | apply Kd.R_drew)); exact HO2265.out) (by decide)) hk (fun _ h => h.2)) (fun _ h => h.1))
  replace BK2268 := Aside0.mk (KeepBut.blk hk (g' := gb2268) (o := .cells #[.int .i64 t2261, .int .i64 t2262, .slice Ao12 t2263.length co12] 57 (0, 0)) (bq_ BK2268.out) NB2268_2260.out (by simp))
  replace HB := Aside0.mk (hb)
  replace HI2260 := Aside0.mk (hi)
  (try clear hb); (try clear hb2); (try clear hk); (try clear hi)
  refine hK.out _ _ ⟨bc_ BK2268 0, bc_ BK2268 1, bc_ BK2268 2⟩ (fun hHeld => ?_)
  clear hK K
  refine norm_ (a' := ?_) ?_ ?_
  rotate_left
  · show Act.put _ (some 12) _ = _
    simp only [Act.put, List.setIfInBounds_toArray, List.set_cons_zero, List.set_cons_succ, i64_w, i32_w]
    rfl
  refine one_ (i := 3) (N := none) #[true, true, true, true, false] rfl rfl (by kernel_rfl) (by decide) (fun K hK => ?_)
  have hs16 : w15.cell? ⟨gb2256, 0, none⟩ = some (.int .i64 0) := bc_ BK2256 0
  have hfs16 := blk_frozen BK2256.out 0
  have hns16_1 := NB2268_2256.out
  have hms16_1 := NB2256_2268.out
  have hs17 : w15.cell? ⟨gb2256, 1, none⟩ = some (.int .i64 0) := bc_ BK2256 1
  have hfs17 := blk_frozen BK2256.out 1
  have hns17_1 := NB2268_2256.out
  have hms17_1 := NB2256_2268.out
  have hs18 : w15.cell? ⟨gb2256, 2, none⟩ = some (.slice none 0 0) := bc_ BK2256 2
  have hfs18 := blk_frozen BK2256.out 2
  have hns18_1 := NB2268_2256.out
  have hms18_1 := NB2256_2268.out
  refine skip_ (w1 := ?_) (by rfl) rfl ?_ ?_
  rotate_left
  · go_simp
    rfl
  refine hK.out _ _ ⟨(cfs_ NB2268_2256.out (hHeld.1)), (cfs_ NB2268_2256.out (hHeld.2.1)), (cfs_ NB2268_2256.out (hHeld.2.2))⟩ (fun hHeld => ?_)
  clear hK K
  refine pure_ (i := 4) (N := some 3) (v := ?_) (a' := ?_) #[true, true, true, true, true] rfl rfl (by kernel_rfl) (fun _ _ _ h => h) (Or.inl ⟨by rfl, ?_⟩) ?_ ?_
  rotate_left
  · intro w'
    go_simp
    with_reducible rfl
  rotate_left
  · simp only [Act.put, List.setIfInBounds_toArray, List.set_cons_zero, List.set_cons_succ, i64_w, i32_w]
    rfl
  refine done_ (by kernel_rfl) ?_
  try go_wp2
  refine bodyPost_ret (results_ct rfl _ _ gb2256 57 #[.int .i64 t2261, .int .i64 t2262, .slice Ao12 t2263.length co12] (0, 0) _ rfl (bp_ BK2256.out) Try.underlying57 rfl (by kernel_rfl)) rfl ?_
  exact ⟨_, qf4_, by (with_reducible repeat (first | apply Kd.R_alloc | apply Kd.R_drewN | apply Kd.R_drew)); exact Kd.R_mono (Kd.R_far (p := ⟨gb2256, 2, none⟩) (Kd.R_far (p := ⟨gb2256, 1, none⟩) (Kd.R_far (p := ⟨gb2256, 0, none⟩) (Kd.R_types HO2265.out BK2256.out (by decide)) (fun _ hk => hk.2) (.int .i64 t2261)) (fun _ hk => hk.2) (.int .i64 t2262)) (fun _ hk => hk.2) (.slice Ao12 t2263.length co12)) (fun _ hk => trivial), by repeat (first | (with_reducible first | exact HB.out | apply below_alloc | apply pw_below_drewN | apply below_drew1 | refine below_set ?_ (IsS_l1Cur.ge HI2260.out) | refine below_set ?_ GE2256.out | refine below_set ?_ GE2268.out) | exact HB.out)⟩
/-! ### impl_Latest: function 41 -/
def impl_Latest.l0 : Nat → ByteArray → Int → Int → Int → List (S_Item) → Option (Int × ByteArray × ByteArray × Int × Int × Bool)
  | 0, _, _, _, _, _ => none
  | k + 1, x1, x6, x2273000, x2273001, x2273002 => if x6 ≥ 0 then (if 0 ≤ x6 then (if x6 < (x2273002.length : Int) then (if ((rd_Item x2273002 x6).f1).toList = x1.toList then (some ((rd_Item x2273002 x6).f0, (rd_Item x2273002 x6).f1, (rd_Item x2273002 x6).f2, (rd_Item x2273002 x6).f3, (rd_Item x2273002 x6).f4, true)) else (impl_Latest.l0 k x1 (wrap64 (x6 - 1)) x2273000 x2273001 x2273002)) else (none)) else (none)) else (some (0, (⟨#[]⟩ : ByteArray), (⟨#[]⟩ : ByteArray), 0, 0, false))
def impl_Latest.f (k : Nat) (a0_0 : Int) (a0_1 : Int) (l0_2 : List (S_Item)) (a1 : ByteArray) : Option (Int × ByteArray × ByteArray × Int × Int × Bool) := impl_Latest.l0 k a1 (wrap64 ((l0_2.length : Int) - 1)) a0_0 a0_1 l0_2
theorem impl_Latest.mono_l : ∀ k, (∀ y0 y1 y2 y3 y4, LeO (impl_Latest.l0 k y0 y1 y2 y3 y4) (impl_Latest.l0 (k + 1) y0 y1 y2 y3 y4))
  | 0 => fun _ _ _ _ _ r h => by simp [impl_Latest.l0] at h
  | k + 1 => by
    have ih0 := impl_Latest.mono_l k
    · intro y0 y1 y2 y3 y4
      unfold impl_Latest.l0
      exact qfh2_
theorem impl_Latest.mono : ∀ a0 a1 a2 a3 k, LeO (impl_Latest.f k a0 a1 a2 a3) (impl_Latest.f (k + 1) a0 a1 a2 a3) := by
  intro a0 a1 a2 a3 k
  have ih0 := impl_Latest.mono_l k
  unfold impl_Latest.f
  exact qfh2_
set_option maxHeartbeats 8000000 in
set_option maxRecDepth 100000 in
theorem impl_Latest.calls (k : Nat) (a0_0 : Int) (a0_1 : Int) (A0_2 : Option Addr) (c0_2 : Nat) (l0_2 : List (S_Item)) (a1 : ByteArray) (r1 : Int) (r2 : ByteArray) (r3 : ByteArray) (r4 : Int) (r5 : Int) (r6 : Bool) (w : World) (hr0_2 : Kd.C k_Item w A0_2 l0_2.length l0_2) (hc0_2 : l0_2.length ≤ c0_2) (h : impl_Latest.f k a0_0 a0_1 l0_2 a1 = some (r1, r2, r3, r4, r5, r6)) :
    Calls Try.prog 41 #[.agg #[.int .i64 a0_0, .int .i64 a0_1, .slice A0_2 l0_2.length c0_2], .string a1] w fun e w' => e = .returned (.tuple #[.agg #[.int .i64 r1, .string r2, .string r3, .int .i64 r4, .int .i64 r5], .bool r6]) ∧ Below w.heap.size w w' := by
  have hu57 := Try.underlying57
  have hu69 := Try.underlying69
  have HR0_2 := Aside0.mk hr0_2
  have HC0_2 := Aside0.mk hc0_2
  clear hr0_2 hc0_2
  have HB := Aside0.mk (Below.refl w.heap.size w)
  have H : (impl_Latest.l0 k a1 (wrap64 ((l0_2.length : Int) - 1)) a0_0 a0_1 l0_2) = some (r1, r2, r3, r4, r5, r6) := h
  clear h
  have H' := Aside0.mk H
  clear H
  go_enter Try.func41, Try.ntmps41
  go_wp2_with (first | ((with_reducible refine gate_dst (N := 2) rfl ?_); refine box_event ?hg (N := 2) ?hd (cs := #[.int .i64 a0_0, .int .i64 a0_1, .slice A0_2 l0_2.length c0_2]) (t := 57) ?hr ?_; (case hd => rfl); (case hg => rfl); (case hr => first | (go_simp; done) | (go_simp; rfl)); intro gb2272 hg w3 hbox hb; have BK2272 := Aside0.mk (hbox); have GW2272 := Aside0.mk ((by rw [hg]; exact (below_size (qf0_)) : w.heap.size ≤ gb2272)); have GE2272 := Aside0.mk ((by rw [hg]; exact (below_size (qf0_)) : w.heap.size ≤ gb2272)); replace HB := Aside0.mk (below_step (qf0_) hb); clear hb hbox hg) | ((with_reducible refine gate_dst (N := 4) rfl ?_); refine box_event ?hg (N := 4) ?hd (cs := #[.int .i64 0, .string (⟨#[]⟩ : ByteArray), .string (⟨#[]⟩ : ByteArray), .int .i64 0, .int .i64 0]) (t := 69) ?hr ?_; (case hd => rfl); (case hg => rfl); (case hr => first | (go_simp; done) | (go_simp; rfl)); intro gb2273 hg w4 hbox hb; have BK2273 := Aside0.mk (hbox); have GW2273 := Aside0.mk ((by rw [hg]; exact (below_size (qf17_)) : w.heap.size ≤ gb2273)); have GE2273 := Aside0.mk ((by rw [hg]; exact (below_size (qf17_)) : w.heap.size ≤ gb2273)); have NB2272_2273 := Aside0.mk ((by rw [hg]; exact Nat.ne_of_lt (blk_lt (g := gb2272) (o := .cells #[.int .i64 a0_0, .int .i64 a0_1, .slice A0_2 l0_2.length c0_2] 57 (0, 0)) (bq_ BK2272.out)) : gb2272 ≠ gb2273)); have NB2273_2272 := Aside0.mk ((by rw [hg]; exact Nat.ne_of_gt (blk_lt (g := gb2272) (o := .cells #[.int .i64 a0_0, .int .i64 a0_1, .slice A0_2 l0_2.length c0_2] 57 (0, 0)) (bq_ BK2272.out)) : gb2273 ≠ gb2272)); replace BK2272 := Aside0.mk (blk_below (g := gb2272) (o := .cells #[.int .i64 a0_0, .int .i64 a0_1, .slice A0_2 l0_2.length c0_2] 57 (0, 0)) (bq_ BK2272.out) hb); replace HB := Aside0.mk (below_step (qf17_) hb); clear hb hbox hg; have hnb5 := NB2272_2273.out; have hnc5 := NB2273_2272.out; have hcz6_0 : w4.cell? ⟨gb2272, 0, none⟩ = some (.int .i64 a0_0) := bc_ BK2272 0; have hcz6_1 : w4.cell? ⟨gb2272, 1, none⟩ = some (.int .i64 a0_1) := bc_ BK2272 1; have hcz6_2 : w4.cell? ⟨gb2272, 2, none⟩ = some (.slice A0_2 l0_2.length c0_2) := bc_ BK2272 2; have hfz6_0 := blk_frozen BK2272.out 0; have hfz6_1 := blk_frozen BK2272.out 1; have hfz6_2 := blk_frozen BK2272.out 2))
  go_loopg [6] k (fun kq v6 w' => ∃ (x6_1 : Int) (x2274000_1 : Int) (x2274001_1 : ByteArray) (x2274002_1 : ByteArray) (x2274003_1 : Int) (x2274004_1 : Int), v6 = .int .i64 x6_1 ∧ Aside0 (impl_Latest.l0 kq a1 x6_1 a0_0 a0_1 l0_2 = some (r1, r2, r3, r4, r5, r6)) ∧ Aside0 (kq ≤ k) ∧ Aside0 (w'.heap[gb2272]? = some (.cells #[.int .i64 a0_0, .int .i64 a0_1, (.slice A0_2 l0_2.length c0_2)] 57 (0, 0))) ∧ Aside0 (w'.heap[gb2273]? = some (.cells #[.int .i64 x2274000_1, .string x2274001_1, .string x2274002_1, .int .i64 x2274003_1, .int .i64 x2274004_1] 69 (0, 0))) ∧ Aside0 (Below w.heap.size w w'))
  case atStart => exact ⟨(wrap64 ((l0_2.length : Int) - 1)), (0), ((⟨#[]⟩ : ByteArray)), ((⟨#[]⟩ : ByteArray)), (0), (0), (qf19_), H', ⟨Nat.le_refl _⟩, ⟨bq_ BK2272.out⟩, ⟨bq_ BK2273.out⟩, ⟨qf13_⟩⟩
  case round =>
    clear H'
    try clear p2
    try clear c4
    try clear c5
    try clear p6
    try clear hcz6_0
    try clear hcz6_1
    try clear hcz6_2
    try clear hfz6_0
    try clear hfz6_1
    try clear hfz6_2
    obtain ⟨x6_1, x2274000_1, x2274001_1, x2274002_1, x2274003_1, x2274004_1, rfl, HA, HK1, BK2272, BK2273, HB⟩ := hrel
    cases gk with
    | zero => exact absurd HA.out (by simp [impl_Latest.l0])
    | succ k1 =>
      have H := HA.out
      clear HA
      simp only [impl_Latest.l0] at H
      by_cases c7 : x6_1 ≥ 0
      · rw [if_pos c7] at H
        have c7b0 : decide (0 ≤ x6_1) = true := decide_eq_true c7
        clear c7
        by_cases c8 : 0 ≤ x6_1
        · rw [if_pos c8] at H
          have c8b0 : decide (0 ≤ x6_1) = true := decide_eq_true c8
          clear c8
          by_cases c9 : x6_1 < (l0_2.length : Int)
          · rw [if_pos c9] at H
            have c9b0 : decide (x6_1 < (l0_2.length : Int)) = true := decide_eq_true c9
            clear c9
            by_cases c10 : ((rd_Item l0_2 x6_1).f1).toList = a1.toList
            · rw [if_pos c10] at H
              have c10b0 : (((rd_Item l0_2 x6_1).f1).toList == a1.toList) = true := beq_iff_eq.mpr c10
              have c10b1 : (((rd_Item l0_2 x6_1).f1).toList != a1.toList) = false := bne_eq_false_iff_eq.mpr c10
              clear c10
              simp only [Option.some.injEq, Prod.mk.injEq] at H
              obtain ⟨rfl, rfl, rfl, rfl, rfl, rfl⟩ := H
              have hnb11 := NB2272_2273.out
              have hnc11 := NB2273_2272.out
              have hcz12_0 : wr.cell? ⟨gb2272, 0, none⟩ = some (.int .i64 a0_0) := bc_ BK2272 0
              have hcz12_1 : wr.cell? ⟨gb2272, 1, none⟩ = some (.int .i64 a0_1) := bc_ BK2272 1
              have hcz12_2 : wr.cell? ⟨gb2272, 2, none⟩ = some (.slice A0_2 l0_2.length c0_2) := bc_ BK2272 2
              have hfz12_0 := blk_frozen BK2272.out 0
              have hfz12_1 := blk_frozen BK2272.out 1
              have hfz12_2 := blk_frozen BK2272.out 2
              have p2274 : 0 ≤ (x6_1 : Int) := of_decide_eq_true dt_
              have q2274 : x6_1 < (l0_2.length : Int) := of_decide_eq_true dt_
              obtain ⟨ad2274, e2274, hx2274_0, hx2274_1, hx2274_2, hx2274_3, hx2274_4⟩ := at_Item HR0_2.out x6_1 p2274 q2274
              cases e2274
              replace hx2274_0 := hc_ HB hx2274_0
              replace hx2274_1 := hc_ HB hx2274_1
              replace hx2274_2 := hc_ HB hx2274_2
              replace hx2274_3 := hc_ HB hx2274_3
              replace hx2274_4 := hc_ HB hx2274_4
              replace p2274 := eq_true p2274
              replace q2274 := eq_true q2274
              have p2275 : 0 ≤ (x6_1 : Int) := of_decide_eq_true dt_
              have q2275 : x6_1 < (l0_2.length : Int) := of_decide_eq_true dt_
              obtain ⟨ad2275, e2275, hx2275_0, hx2275_1, hx2275_2, hx2275_3, hx2275_4⟩ := at_Item HR0_2.out x6_1 p2275 q2275
              obtain rfl : ad2274 = ad2275 := (by injection e2275)
              replace hx2275_0 := hc_ HB hx2275_0
              replace hx2275_1 := hc_ HB hx2275_1
              replace hx2275_2 := hc_ HB hx2275_2
              replace hx2275_3 := hc_ HB hx2275_3
              replace hx2275_4 := hc_ HB hx2275_4
              replace p2275 := eq_true p2275
              replace q2275 := eq_true q2275
              have hcz13_0 : wr.cell? ⟨gb2273, 0, none⟩ = some (.int .i64 x2274000_1) := bc_ BK2273 0
              have hcz13_1 : wr.cell? ⟨gb2273, 1, none⟩ = some (.string x2274001_1) := bc_ BK2273 1
              have hcz13_2 : wr.cell? ⟨gb2273, 2, none⟩ = some (.string x2274002_1) := bc_ BK2273 2
              have hcz13_3 : wr.cell? ⟨gb2273, 3, none⟩ = some (.int .i64 x2274003_1) := bc_ BK2273 3
              have hcz13_4 : wr.cell? ⟨gb2273, 4, none⟩ = some (.int .i64 x2274004_1) := bc_ BK2273 4
              have hfz13_0 := blk_frozen BK2273.out 0
              have hfz13_1 := blk_frozen BK2273.out 1
              have hfz13_2 := blk_frozen BK2273.out 2
              have hfz13_3 := blk_frozen BK2273.out 3
              have hfz13_4 := blk_frozen BK2273.out 4
              go_wp2
              refine bodyPost_ret (results_ct rfl _ _ gb2273 69 #[.int .i64 ((rd_Item l0_2 x6_1).f0), .string ((rd_Item l0_2 x6_1).f1), .string ((rd_Item l0_2 x6_1).f2), .int .i64 ((rd_Item l0_2 x6_1).f3), .int .i64 ((rd_Item l0_2 x6_1).f4)] (0, 0) _ rfl (bp_ BK2273.out) Try.underlying69 rfl (by kernel_rfl)) rfl ?_
              exact ⟨qf4_, qf13_⟩
            · rw [if_neg c10] at H
              have c10b0 : (((rd_Item l0_2 x6_1).f1).toList == a1.toList) = false := beq_eq_false_iff_ne.mpr c10
              have c10b1 : (((rd_Item l0_2 x6_1).f1).toList != a1.toList) = true := bne_iff_ne.mpr c10
              have H' := Aside0.mk H
              clear H
              have hnb14 := NB2272_2273.out
              have hnc14 := NB2273_2272.out
              have hcz15_0 : wr.cell? ⟨gb2272, 0, none⟩ = some (.int .i64 a0_0) := bc_ BK2272 0
              have hcz15_1 : wr.cell? ⟨gb2272, 1, none⟩ = some (.int .i64 a0_1) := bc_ BK2272 1
              have hcz15_2 : wr.cell? ⟨gb2272, 2, none⟩ = some (.slice A0_2 l0_2.length c0_2) := bc_ BK2272 2
              have hfz15_0 := blk_frozen BK2272.out 0
              have hfz15_1 := blk_frozen BK2272.out 1
              have hfz15_2 := blk_frozen BK2272.out 2
              have p2274 : 0 ≤ (x6_1 : Int) := of_decide_eq_true dt_
              have q2274 : x6_1 < (l0_2.length : Int) := of_decide_eq_true dt_
              obtain ⟨ad2274, e2274, hx2274_0, hx2274_1, hx2274_2, hx2274_3, hx2274_4⟩ := at_Item HR0_2.out x6_1 p2274 q2274
              cases e2274
              replace hx2274_0 := hc_ HB hx2274_0
              replace hx2274_1 := hc_ HB hx2274_1
              replace hx2274_2 := hc_ HB hx2274_2
              replace hx2274_3 := hc_ HB hx2274_3
              replace hx2274_4 := hc_ HB hx2274_4
              replace p2274 := eq_true p2274
              replace q2274 := eq_true q2274
              go_wp2
              go_roundg k1
              case measure => have := HK1.out; omega
              case rel => exact ⟨(wrap64 (x6_1 - 1)), (x2274000_1), (x2274001_1), (x2274002_1), (x2274003_1), (x2274004_1), (qf19_), H', ⟨by have := HK1.out; omega⟩, ⟨bq_ BK2272.out⟩, ⟨bq_ BK2273.out⟩, ⟨qf13_⟩⟩
          · rw [if_neg c9] at H
            exact absurd H (by simp)
        · rw [if_neg c8] at H
          exact absurd H (by simp)
      · rw [if_neg c7] at H
        have c7b0 : decide (0 ≤ x6_1) = false := decide_eq_false c7
        clear c7
        simp only [Option.some.injEq, Prod.mk.injEq] at H
        obtain ⟨rfl, rfl, rfl, rfl, rfl, rfl⟩ := H
        have hnb16 := NB2273_2272.out
        have hnc16 := NB2272_2273.out
        have hcz17_0 : wr.cell? ⟨gb2273, 0, none⟩ = some (.int .i64 x2274000_1) := bc_ BK2273 0
        have hcz17_1 : wr.cell? ⟨gb2273, 1, none⟩ = some (.string x2274001_1) := bc_ BK2273 1
        have hcz17_2 : wr.cell? ⟨gb2273, 2, none⟩ = some (.string x2274002_1) := bc_ BK2273 2
        have hcz17_3 : wr.cell? ⟨gb2273, 3, none⟩ = some (.int .i64 x2274003_1) := bc_ BK2273 3
        have hcz17_4 : wr.cell? ⟨gb2273, 4, none⟩ = some (.int .i64 x2274004_1) := bc_ BK2273 4
        have hfz17_0 := blk_frozen BK2273.out 0
        have hfz17_1 := blk_frozen BK2273.out 1
        have hfz17_2 := blk_frozen BK2273.out 2
        have hfz17_3 := blk_frozen BK2273.out 3
        have hfz17_4 := blk_frozen BK2273.out 4
        go_wp2
        refine bodyPost_ret (results_ct rfl _ _ gb2273 69 #[.int .i64 0, .string (⟨#[]⟩ : ByteArray), .string (⟨#[]⟩ : ByteArray), .int .i64 0, .int .i64 0] (0, 0) _ rfl (bp_ BK2273.out) Try.underlying69 rfl (by kernel_rfl)) rfl ?_
        exact ⟨qf4_, qf13_⟩

/-! ### spec_Latest: function 42 -/
def spec_Latest.l0 : Nat → ByteArray → Int → Int → Int → List (S_Item) → Option (Int × ByteArray × ByteArray × Int × Int × Bool)
  | 0, _, _, _, _, _ => none
  | k + 1, x1, x6, x2277000, x2277001, x2277002 => if x6 ≥ 0 then (if 0 ≤ x6 then (if x6 < (x2277002.length : Int) then (if ((rd_Item x2277002 x6).f1).toList = x1.toList then (some ((rd_Item x2277002 x6).f0, (rd_Item x2277002 x6).f1, (rd_Item x2277002 x6).f2, (rd_Item x2277002 x6).f3, (rd_Item x2277002 x6).f4, true)) else (spec_Latest.l0 k x1 (wrap64 (x6 - 1)) x2277000 x2277001 x2277002)) else (none)) else (none)) else (some (0, (⟨#[]⟩ : ByteArray), (⟨#[]⟩ : ByteArray), 0, 0, false))
def spec_Latest.f (k : Nat) (a0_0 : Int) (a0_1 : Int) (l0_2 : List (S_Item)) (a1 : ByteArray) : Option (Int × ByteArray × ByteArray × Int × Int × Bool) := spec_Latest.l0 k a1 (wrap64 ((l0_2.length : Int) - 1)) a0_0 a0_1 l0_2
theorem spec_Latest.mono_l : ∀ k, (∀ y0 y1 y2 y3 y4, LeO (spec_Latest.l0 k y0 y1 y2 y3 y4) (spec_Latest.l0 (k + 1) y0 y1 y2 y3 y4))
  | 0 => fun _ _ _ _ _ r h => by simp [spec_Latest.l0] at h
  | k + 1 => by
    have ih0 := spec_Latest.mono_l k
    · intro y0 y1 y2 y3 y4
      unfold spec_Latest.l0
      exact qfh2_
theorem spec_Latest.mono : ∀ a0 a1 a2 a3 k, LeO (spec_Latest.f k a0 a1 a2 a3) (spec_Latest.f (k + 1) a0 a1 a2 a3) := by
  intro a0 a1 a2 a3 k
  have ih0 := spec_Latest.mono_l k
  unfold spec_Latest.f
  exact qfh2_
set_option maxHeartbeats 8000000 in
set_option maxRecDepth 100000 in
theorem spec_Latest.calls (k : Nat) (a0_0 : Int) (a0_1 : Int) (A0_2 : Option Addr) (c0_2 : Nat) (l0_2 : List (S_Item)) (a1 : ByteArray) (r1 : Int) (r2 : ByteArray) (r3 : ByteArray) (r4 : Int) (r5 : Int) (r6 : Bool) (w : World) (hr0_2 : Kd.C k_Item w A0_2 l0_2.length l0_2) (hc0_2 : l0_2.length ≤ c0_2) (h : spec_Latest.f k a0_0 a0_1 l0_2 a1 = some (r1, r2, r3, r4, r5, r6)) :
    Calls Try.prog 42 #[.agg #[.int .i64 a0_0, .int .i64 a0_1, .slice A0_2 l0_2.length c0_2], .string a1] w fun e w' => e = .returned (.tuple #[.agg #[.int .i64 r1, .string r2, .string r3, .int .i64 r4, .int .i64 r5], .bool r6]) ∧ Below w.heap.size w w' := by
  have hu57 := Try.underlying57
  have hu69 := Try.underlying69
  have HR0_2 := Aside0.mk hr0_2
  have HC0_2 := Aside0.mk hc0_2
  clear hr0_2 hc0_2
  have HB := Aside0.mk (Below.refl w.heap.size w)
  have H : (spec_Latest.l0 k a1 (wrap64 ((l0_2.length : Int) - 1)) a0_0 a0_1 l0_2) = some (r1, r2, r3, r4, r5, r6) := h
  clear h
  have H' := Aside0.mk H
  clear H
  go_enter Try.func42, Try.ntmps42
  go_wp2_with (first | ((with_reducible refine gate_dst (N := 2) rfl ?_); refine box_event ?hg (N := 2) ?hd (cs := #[.int .i64 a0_0, .int .i64 a0_1, .slice A0_2 l0_2.length c0_2]) (t := 57) ?hr ?_; (case hd => rfl); (case hg => rfl); (case hr => first | (go_simp; done) | (go_simp; rfl)); intro gb2276 hg w3 hbox hb; have BK2276 := Aside0.mk (hbox); have GW2276 := Aside0.mk ((by rw [hg]; exact (below_size (qf0_)) : w.heap.size ≤ gb2276)); have GE2276 := Aside0.mk ((by rw [hg]; exact (below_size (qf0_)) : w.heap.size ≤ gb2276)); replace HB := Aside0.mk (below_step (qf0_) hb); clear hb hbox hg) | ((with_reducible refine gate_dst (N := 4) rfl ?_); refine box_event ?hg (N := 4) ?hd (cs := #[.int .i64 0, .string (⟨#[]⟩ : ByteArray), .string (⟨#[]⟩ : ByteArray), .int .i64 0, .int .i64 0]) (t := 69) ?hr ?_; (case hd => rfl); (case hg => rfl); (case hr => first | (go_simp; done) | (go_simp; rfl)); intro gb2277 hg w4 hbox hb; have BK2277 := Aside0.mk (hbox); have GW2277 := Aside0.mk ((by rw [hg]; exact (below_size (qf16_)) : w.heap.size ≤ gb2277)); have GE2277 := Aside0.mk ((by rw [hg]; exact (below_size (qf16_)) : w.heap.size ≤ gb2277)); have NB2276_2277 := Aside0.mk ((by rw [hg]; exact Nat.ne_of_lt (blk_lt (g := gb2276) (o := .cells #[.int .i64 a0_0, .int .i64 a0_1, .slice A0_2 l0_2.length c0_2] 57 (0, 0)) (bq_ BK2276.out)) : gb2276 ≠ gb2277)); have NB2277_2276 := Aside0.mk ((by rw [hg]; exact Nat.ne_of_gt (blk_lt (g := gb2276) (o := .cells #[.int .i64 a0_0, .int .i64 a0_1, .slice A0_2 l0_2.length c0_2] 57 (0, 0)) (bq_ BK2276.out)) : gb2277 ≠ gb2276)); replace BK2276 := Aside0.mk (blk_below (g := gb2276) (o := .cells #[.int .i64 a0_0, .int .i64 a0_1, .slice A0_2 l0_2.length c0_2] 57 (0, 0)) (bq_ BK2276.out) hb); replace HB := Aside0.mk (below_step (qf16_) hb); clear hb hbox hg; have hnb5 := NB2276_2277.out; have hnc5 := NB2277_2276.out; have hcz6_0 : w4.cell? ⟨gb2276, 0, none⟩ = some (.int .i64 a0_0) := bc_ BK2276 0; have hcz6_1 : w4.cell? ⟨gb2276, 1, none⟩ = some (.int .i64 a0_1) := bc_ BK2276 1; have hcz6_2 : w4.cell? ⟨gb2276, 2, none⟩ = some (.slice A0_2 l0_2.length c0_2) := bc_ BK2276 2; have hfz6_0 := blk_frozen BK2276.out 0; have hfz6_1 := blk_frozen BK2276.out 1; have hfz6_2 := blk_frozen BK2276.out 2))
  go_loopg [6] k (fun kq v6 w' => ∃ (x6_1 : Int) (x2278000_1 : Int) (x2278001_1 : ByteArray) (x2278002_1 : ByteArray) (x2278003_1 : Int) (x2278004_1 : Int), v6 = .int .i64 x6_1 ∧ Aside0 (spec_Latest.l0 kq a1 x6_1 a0_0 a0_1 l0_2 = some (r1, r2, r3, r4, r5, r6)) ∧ Aside0 (kq ≤ k) ∧ Aside0 (w'.heap[gb2276]? = some (.cells #[.int .i64 a0_0, .int .i64 a0_1, (.slice A0_2 l0_2.length c0_2)] 57 (0, 0))) ∧ Aside0 (w'.heap[gb2277]? = some (.cells #[.int .i64 x2278000_1, .string x2278001_1, .string x2278002_1, .int .i64 x2278003_1, .int .i64 x2278004_1] 69 (0, 0))) ∧ Aside0 (Below w.heap.size w w'))
  case atStart => exact ⟨(wrap64 ((l0_2.length : Int) - 1)), (0), ((⟨#[]⟩ : ByteArray)), ((⟨#[]⟩ : ByteArray)), (0), (0), (qf19_), H', ⟨Nat.le_refl _⟩, ⟨bq_ BK2276.out⟩, ⟨bq_ BK2277.out⟩, ⟨qf12_⟩⟩
  case round =>
    clear H'
    try clear p2
    try clear c4
    try clear c5
    try clear p6
    try clear hcz6_0
    try clear hcz6_1
    try clear hcz6_2
    try clear hfz6_0
    try clear hfz6_1
    try clear hfz6_2
    obtain ⟨x6_1, x2278000_1, x2278001_1, x2278002_1, x2278003_1, x2278004_1, rfl, HA, HK1, BK2276, BK2277, HB⟩ := hrel
    cases gk with
    | zero => exact absurd HA.out (by simp [spec_Latest.l0])
    | succ k1 =>
      have H := HA.out
      clear HA
      simp only [spec_Latest.l0] at H
      by_cases c7 : x6_1 ≥ 0
      · rw [if_pos c7] at H
        have c7b0 : decide (0 ≤ x6_1) = true := decide_eq_true c7
        clear c7
        by_cases c8 : 0 ≤ x6_1
        · rw [if_pos c8] at H
          have c8b0 : decide (0 ≤ x6_1) = true := decide_eq_true c8
          clear c8
          by_cases c9 : x6_1 < (l0_2.length : Int)
          · rw [if_pos c9] at H
            have c9b0 : decide (x6_1 < (l0_2.length : Int)) = true := decide_eq_true c9
            clear c9
            by_cases c10 : ((rd_Item l0_2 x6_1).f1).toList = a1.toList
            · rw [if_pos c10] at H
              have c10b0 : (((rd_Item l0_2 x6_1).f1).toList == a1.toList) = true := beq_iff_eq.mpr c10
              have c10b1 : (((rd_Item l0_2 x6_1).f1).toList != a1.toList) = false := bne_eq_false_iff_eq.mpr c10
              clear c10
              simp only [Option.some.injEq, Prod.mk.injEq] at H
              obtain ⟨rfl, rfl, rfl, rfl, rfl, rfl⟩ := H
              have hnb11 := NB2276_2277.out
              have hnc11 := NB2277_2276.out
              have hcz12_0 : wr.cell? ⟨gb2276, 0, none⟩ = some (.int .i64 a0_0) := bc_ BK2276 0
              have hcz12_1 : wr.cell? ⟨gb2276, 1, none⟩ = some (.int .i64 a0_1) := bc_ BK2276 1
              have hcz12_2 : wr.cell? ⟨gb2276, 2, none⟩ = some (.slice A0_2 l0_2.length c0_2) := bc_ BK2276 2
              have hfz12_0 := blk_frozen BK2276.out 0
              have hfz12_1 := blk_frozen BK2276.out 1
              have hfz12_2 := blk_frozen BK2276.out 2
              have p2278 : 0 ≤ (x6_1 : Int) := of_decide_eq_true dt_
              have q2278 : x6_1 < (l0_2.length : Int) := of_decide_eq_true dt_
              obtain ⟨ad2278, e2278, hx2278_0, hx2278_1, hx2278_2, hx2278_3, hx2278_4⟩ := at_Item HR0_2.out x6_1 p2278 q2278
              cases e2278
              replace hx2278_0 := hc_ HB hx2278_0
              replace hx2278_1 := hc_ HB hx2278_1
              replace hx2278_2 := hc_ HB hx2278_2
              replace hx2278_3 := hc_ HB hx2278_3
              replace hx2278_4 := hc_ HB hx2278_4
              replace p2278 := eq_true p2278
              replace q2278 := eq_true q2278
              have p2279 : 0 ≤ (x6_1 : Int) := of_decide_eq_true dt_
              have q2279 : x6_1 < (l0_2.length : Int) := of_decide_eq_true dt_
              obtain ⟨ad2279, e2279, hx2279_0, hx2279_1, hx2279_2, hx2279_3, hx2279_4⟩ := at_Item HR0_2.out x6_1 p2279 q2279
              obtain rfl : ad2278 = ad2279 := (by injection e2279)
              replace hx2279_0 := hc_ HB hx2279_0
              replace hx2279_1 := hc_ HB hx2279_1
              replace hx2279_2 := hc_ HB hx2279_2
              replace hx2279_3 := hc_ HB hx2279_3
              replace hx2279_4 := hc_ HB hx2279_4
              replace p2279 := eq_true p2279
              replace q2279 := eq_true q2279
              have hcz13_0 : wr.cell? ⟨gb2277, 0, none⟩ = some (.int .i64 x2278000_1) := bc_ BK2277 0
              have hcz13_1 : wr.cell? ⟨gb2277, 1, none⟩ = some (.string x2278001_1) := bc_ BK2277 1
              have hcz13_2 : wr.cell? ⟨gb2277, 2, none⟩ = some (.string x2278002_1) := bc_ BK2277 2
              have hcz13_3 : wr.cell? ⟨gb2277, 3, none⟩ = some (.int .i64 x2278003_1) := bc_ BK2277 3
              have hcz13_4 : wr.cell? ⟨gb2277, 4, none⟩ = some (.int .i64 x2278004_1) := bc_ BK2277 4
              have hfz13_0 := blk_frozen BK2277.out 0
              have hfz13_1 := blk_frozen BK2277.out 1
              have hfz13_2 := blk_frozen BK2277.out 2
              have hfz13_3 := blk_frozen BK2277.out 3
              have hfz13_4 := blk_frozen BK2277.out 4
              go_wp2
              refine bodyPost_ret (results_ct rfl _ _ gb2277 69 #[.int .i64 ((rd_Item l0_2 x6_1).f0), .string ((rd_Item l0_2 x6_1).f1), .string ((rd_Item l0_2 x6_1).f2), .int .i64 ((rd_Item l0_2 x6_1).f3), .int .i64 ((rd_Item l0_2 x6_1).f4)] (0, 0) _ rfl (bp_ BK2277.out) Try.underlying69 rfl (by kernel_rfl)) rfl ?_
              exact ⟨qf4_, qf12_⟩
            · rw [if_neg c10] at H
              have c10b0 : (((rd_Item l0_2 x6_1).f1).toList == a1.toList) = false := beq_eq_false_iff_ne.mpr c10
              have c10b1 : (((rd_Item l0_2 x6_1).f1).toList != a1.toList) = true := bne_iff_ne.mpr c10
              have H' := Aside0.mk H
              clear H
              have hnb14 := NB2276_2277.out
              have hnc14 := NB2277_2276.out
              have hcz15_0 : wr.cell? ⟨gb2276, 0, none⟩ = some (.int .i64 a0_0) := bc_ BK2276 0
              have hcz15_1 : wr.cell? ⟨gb2276, 1, none⟩ = some (.int .i64 a0_1) := bc_ BK2276 1
              have hcz15_2 : wr.cell? ⟨gb2276, 2, none⟩ = some (.slice A0_2 l0_2.length c0_2) := bc_ BK2276 2
              have hfz15_0 := blk_frozen BK2276.out 0
              have hfz15_1 := blk_frozen BK2276.out 1
              have hfz15_2 := blk_frozen BK2276.out 2
              have p2278 : 0 ≤ (x6_1 : Int) := of_decide_eq_true dt_
              have q2278 : x6_1 < (l0_2.length : Int) := of_decide_eq_true dt_
              obtain ⟨ad2278, e2278, hx2278_0, hx2278_1, hx2278_2, hx2278_3, hx2278_4⟩ := at_Item HR0_2.out x6_1 p2278 q2278
              cases e2278
              replace hx2278_0 := hc_ HB hx2278_0
              replace hx2278_1 := hc_ HB hx2278_1
              replace hx2278_2 := hc_ HB hx2278_2
              replace hx2278_3 := hc_ HB hx2278_3
              replace hx2278_4 := hc_ HB hx2278_4
              replace p2278 := eq_true p2278
              replace q2278 := eq_true q2278
              go_wp2
              go_roundg k1
              case measure => have := HK1.out; omega
              case rel => exact ⟨(wrap64 (x6_1 - 1)), (x2278000_1), (x2278001_1), (x2278002_1), (x2278003_1), (x2278004_1), (qf19_), H', ⟨by have := HK1.out; omega⟩, ⟨bq_ BK2276.out⟩, ⟨bq_ BK2277.out⟩, ⟨qf12_⟩⟩
          · rw [if_neg c9] at H
            exact absurd H (by simp)
        · rw [if_neg c8] at H
          exact absurd H (by simp)
      · rw [if_neg c7] at H
        have c7b0 : decide (0 ≤ x6_1) = false := decide_eq_false c7
        clear c7
        simp only [Option.some.injEq, Prod.mk.injEq] at H
        obtain ⟨rfl, rfl, rfl, rfl, rfl, rfl⟩ := H
        have hnb16 := NB2277_2276.out
        have hnc16 := NB2276_2277.out
        have hcz17_0 : wr.cell? ⟨gb2277, 0, none⟩ = some (.int .i64 x2278000_1) := bc_ BK2277 0
        have hcz17_1 : wr.cell? ⟨gb2277, 1, none⟩ = some (.string x2278001_1) := bc_ BK2277 1
        have hcz17_2 : wr.cell? ⟨gb2277, 2, none⟩ = some (.string x2278002_1) := bc_ BK2277 2
        have hcz17_3 : wr.cell? ⟨gb2277, 3, none⟩ = some (.int .i64 x2278003_1) := bc_ BK2277 3
        have hcz17_4 : wr.cell? ⟨gb2277, 4, none⟩ = some (.int .i64 x2278004_1) := bc_ BK2277 4
        have hfz17_0 := blk_frozen BK2277.out 0
        have hfz17_1 := blk_frozen BK2277.out 1
        have hfz17_2 := blk_frozen BK2277.out 2
        have hfz17_3 := blk_frozen BK2277.out 3
        have hfz17_4 := blk_frozen BK2277.out 4
        go_wp2
        refine bodyPost_ret (results_ct rfl _ _ gb2277 69 #[.int .i64 0, .string (⟨#[]⟩ : ByteArray), .string (⟨#[]⟩ : ByteArray), .int .i64 0, .int .i64 0] (0, 0) _ rfl (bp_ BK2277.out) Try.underlying69 rfl (by kernel_rfl)) rfl ?_
        exact ⟨qf4_, qf12_⟩
end Go.Proofs.Ytiknkolclcdajaa.Q
