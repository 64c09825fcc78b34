/- Made by a program of ours out of the print of the loaded functions: for each of some functions a plain function, and the walk that shows that a call comes to what it says. No condition but those of each theorem. -/
import Derived.Test.YtgkeapbeogmfjaaZFnBytes0
import Derived.Test.YtgkeapbeogmfjaaZFnBytesa
import Derived.Test.YtgkeapbeogmfjaaZFnBytesb
namespace Go.Proofs.Ytgkeapbeogmfjaa.Q
open Go.RowKit Go.Proofs.YtgkeapbeogmfjaaW.PrintWords Go.Proofs.YtgkeapbeogmfjaaW.PrintLast Go.Proofs.YtgkeapbeogmfjaaW.PrintMore
attribute [local go_sem] max2_int min2_int max_two min_two max_three min_three max_four min_four   -- for this text's walks alone
set_option linter.unusedVariables false
set_option linter.unusedSimpArgs false
theorem qc0_ {P : Prop} (h : P := by repeat (first | (with_reducible exact HR326.out) | (with_reducible refine Kd.C_alloc ?_ _) | (with_reducible refine Kd.C_drewN ?_ _) | (with_reducible refine Kd.C_drew ?_) | exact HR326.out)) : P := h
theorem qc1_ {P : Prop} (h : P := by first | (simp only [putAll, Act.put, List.setIfInBounds_toArray, List.set_cons_zero, List.set_cons_succ]; done) | (simp only [putAll, Act.put, List.setIfInBounds_toArray, List.set_cons_zero, List.set_cons_succ]; rfl)) : P := h
theorem qc2_ {P : Prop} (h : P := by repeat (first | (with_reducible exact HR333.out) | (with_reducible refine Kd.C_alloc ?_ _) | (with_reducible refine Kd.C_drewN ?_ _) | (with_reducible refine Kd.C_drew ?_) | exact HR333.out)) : P := h
theorem qc3_ {P : Prop} (h : P := by repeat (first | (with_reducible exact HR340.out) | (with_reducible refine Kd.C_alloc ?_ _) | (with_reducible refine Kd.C_drewN ?_ _) | (with_reducible refine Kd.C_drew ?_) | exact HR340.out)) : P := h
theorem qc4_ {P : Prop} (h : P := by simp only [putAll, Act.put, List.setIfInBounds_toArray, List.set_cons_zero, List.set_cons_succ]) : P := h
theorem qc5_ {P : Prop} (h : P := by first | rfl | (simp; done) | (simp [*]; done)) : P := h
theorem qc6_ {P : Prop} (h : P := by have := HJ7.out; first | omega | exact Nat.le_refl _) : P := h
theorem qc7_ {P : Prop} (h : P := by have := HJ7.out; have := HJ31.out; first | omega | exact Nat.le_refl _) : P := h
theorem qc8_ {P : Prop} (h : P := by rw [Ny323.out, List.length_drop, List.length_take] <;> omega) : P := h

set_option maxHeartbeats 8000000 in
set_option maxRecDepth 100000 in
theorem laws_FnBytes.calls (k : Nat) (A0 : Option Addr) (c0 : Nat) (l0 : List Int) (r : Bool) (w : World) (hr0 : Kd.C (Kd.int .u8) w A0 l0.length l0) (hc0 : l0.length ≤ c0) (h : laws_FnBytes.f k l0 = some r) :
 Calls Try.prog 7 #[.slice A0 l0.length c0] w fun e w' => e = .returned (.bool r) ∧ Below w.heap.size w w' := by
 have HR0 := Aside0.mk hr0
 have HC0 := Aside0.mk hc0
 clear hr0 hc0
 have HB := Aside0.mk (Below.refl w.heap.size w)
 have H : ((laws_big.f l0).bind fun t279 => (if t279 = true then (some true) else ((spec_DrawPutNum.f k l0).bind fun t280 => ((impl_PutNum.f k t280).bind fun t281 => ((spec_DrawPutText.f k l0).bind fun t284 => ((impl_PutText.f k t284).bind fun t285 => ((spec_PutNum.f k t280).bind fun t288 => (if (strOfNums t281).toList = (strOfNums t288).toList then ((spec_PutText.f k t284).bind fun t291 => (laws_FnBytes.j0 k l0 t280 t281 t284 t285 ((strOfNums t285).toList != (strOfNums t291).toList))) else (laws_FnBytes.j0 k l0 t280 t281 t284 t285 true))))))))) = some r := h
 clear h
 replace H := Option.bind_eq_some_iff.mp H
 obtain ⟨t279, A20, H⟩ := H
 replace H : (if t279 = true then (some true) else ((spec_DrawPutNum.f k l0).bind fun t280 => ((impl_PutNum.f k t280).bind fun t281 => ((spec_DrawPutText.f k l0).bind fun t284 => ((impl_PutText.f k t284).bind fun t285 => ((spec_PutNum.f k t280).bind fun t288 => (if (strOfNums t281).toList = (strOfNums t288).toList then ((spec_PutText.f k t284).bind fun t291 => (laws_FnBytes.j0 k l0 t280 t281 t284 t285 ((strOfNums t285).toList != (strOfNums t291).toList))) else (laws_FnBytes.j0 k l0 t280 t281 t284 t285 true)))))))) = some r := H
 have A2 := Aside0.mk A20
 clear A20
 by_cases c3 : t279 = true
 ·
  subst c3
  have H1 : (some true) = some r := by rw [if_pos rfl] at H; exact H
  clear H
  have H := H1
  clear H1
  obtain rfl := Option.some.inj H
  go_enter Try.func7, Try.ntmps7
  go_wp2_with (first | ((with_reducible refine gate_callee (f := 33) rfl ?_); refine goesL_ (some 30) rfl rfl Try.func33 (by kernel_rfl) rfl #[.slice A0 l0.length c0] rfl sm_ ?_; (with_reducible refine (laws_big.calls _ _ l0 true _ ?side1 ?side2 A2.out).mono ?_); (case side1 => repeat (first | exact HR0.out | (with_reducible refine Kd.C_alloc ?_ _) | (with_reducible refine Kd.C_drewN ?_ _) | (with_reducible refine Kd.C_drew ?_))); (case side2 => exact HC0.out); rintro e w' ⟨rfl, ⟨nd, rfl⟩⟩; refine ⟨_, rfl, ?_⟩))
  go_ret
  exact ⟨er_, hb_ HB.out⟩
 ·
  as_aux_lemma =>
  replace c3 := Bool.eq_false_iff.mpr c3
  subst c3
  have H1 : ((spec_DrawPutNum.f k l0).bind fun t280 => ((impl_PutNum.f k t280).bind fun t281 => ((spec_DrawPutText.f k l0).bind fun t284 => ((impl_PutText.f k t284).bind fun t285 => ((spec_PutNum.f k t280).bind fun t288 => (if (strOfNums t281).toList = (strOfNums t288).toList then ((spec_PutText.f k t284).bind fun t291 => (laws_FnBytes.j0 k l0 t280 t281 t284 t285 ((strOfNums t285).toList != (strOfNums t291).toList))) else (laws_FnBytes.j0 k l0 t280 t281 t284 t285 true))))))) = some r := by rw [if_neg (show ¬ (false = true) by decide)] at H; exact H
  clear H
  have H := H1
  clear H1
  replace H := Option.bind_eq_some_iff.mp H
  obtain ⟨t280, A40, H⟩ := H
  replace H : ((impl_PutNum.f k t280).bind fun t281 => ((spec_DrawPutText.f k l0).bind fun t284 => ((impl_PutText.f k t284).bind fun t285 => ((spec_PutNum.f k t280).bind fun t288 => (if (strOfNums t281).toList = (strOfNums t288).toList then ((spec_PutText.f k t284).bind fun t291 => (laws_FnBytes.j0 k l0 t280 t281 t284 t285 ((strOfNums t285).toList != (strOfNums t291).toList))) else (laws_FnBytes.j0 k l0 t280 t281 t284 t285 true)))))) = some r := H
  have A4 := Aside0.mk A40
  clear A40
  replace H := Option.bind_eq_some_iff.mp H
  obtain ⟨t281, A50, H⟩ := H
  replace H : ((spec_DrawPutText.f k l0).bind fun t284 => ((impl_PutText.f k t284).bind fun t285 => ((spec_PutNum.f k t280).bind fun t288 => (if (strOfNums t281).toList = (strOfNums t288).toList then ((spec_PutText.f k t284).bind fun t291 => (laws_FnBytes.j0 k l0 t280 t281 t284 t285 ((strOfNums t285).toList != (strOfNums t291).toList))) else (laws_FnBytes.j0 k l0 t280 t281 t284 t285 true))))) = some r := H
  have A5 := Aside0.mk A50
  clear A50
  replace H := Option.bind_eq_some_iff.mp H
  obtain ⟨t284, A60, H⟩ := H
  replace H : ((impl_PutText.f k t284).bind fun t285 => ((spec_PutNum.f k t280).bind fun t288 => (if (strOfNums t281).toList = (strOfNums t288).toList then ((spec_PutText.f k t284).bind fun t291 => (laws_FnBytes.j0 k l0 t280 t281 t284 t285 ((strOfNums t285).toList != (strOfNums t291).toList))) else (laws_FnBytes.j0 k l0 t280 t281 t284 t285 true)))) = some r := H
  have A6 := Aside0.mk A60
  clear A60
  replace H := Option.bind_eq_some_iff.mp H
  obtain ⟨t285, A70, H⟩ := H
  replace H : ((spec_PutNum.f k t280).bind fun t288 => (if (strOfNums t281).toList = (strOfNums t288).toList then ((spec_PutText.f k t284).bind fun t291 => (laws_FnBytes.j0 k l0 t280 t281 t284 t285 ((strOfNums t285).toList != (strOfNums t291).toList))) else (laws_FnBytes.j0 k l0 t280 t281 t284 t285 true))) = some r := H
  have A7 := Aside0.mk A70
  clear A70
  have HC8 := Aside0.mk H
  clear H
  go_enter Try.func7, Try.ntmps7
  go_upto_region 7 with (first | ((with_reducible refine gate_callee (f := 33) rfl ?_); refine goesL_ (some 30) rfl rfl Try.func33 (by kernel_rfl) rfl #[.slice A0 l0.length c0] rfl sm_ ?_; (with_reducible refine (laws_big.calls _ _ l0 false _ ?side1 ?side2 A2.out).mono ?_); (case side1 => repeat (first | exact HR0.out | (with_reducible refine Kd.C_alloc ?_ _) | (with_reducible refine Kd.C_drewN ?_ _) | (with_reducible refine Kd.C_drew ?_))); (case side2 => exact HC0.out); rintro e w' ⟨rfl, ⟨nd, rfl⟩⟩; refine ⟨_, rfl, ?_⟩) | ((with_reducible refine gate_callee (f := 34) rfl ?_); refine goesL_ (some 32) rfl rfl Try.func34 (by kernel_rfl) rfl #[.slice A0 l0.length c0] rfl sm_ ?_; (with_reducible refine (spec_DrawPutNum.calls k _ _ l0 t280 _ ?side1 ?side2 A4.out).mono ?_); (case side1 => repeat (first | exact HR0.out | (with_reducible refine Kd.C_alloc ?_ _) | (with_reducible refine Kd.C_drewN ?_ _) | (with_reducible refine Kd.C_drew ?_))); (case side2 => exact HC0.out); rintro e w9 ⟨rfl, hb⟩; refine ⟨_, rfl, ?_⟩; replace HB := ch_ HB hb; (try clear hb); (try clear hb2); (try clear hk); (try clear hi)) | ((with_reducible refine gate_callee (f := 35) rfl ?_); refine goesL_ (some 34) rfl rfl Try.func35 (by kernel_rfl) rfl #[.int .i64 t280] rfl sm_ ?_; (with_reducible refine (impl_PutNum.calls k t280 t281 _ A5.out).mono ?_); rintro e w10 ⟨v282, rfl, ho0, hb⟩; refine ⟨_, rfl, ?_⟩; have HO283 := Aside0.mk (Kd.R_lower ho0 (below_size (hb_ HB.out))); replace HB := ch_ HB hb; (try clear hb); (try clear hb2); (try clear hk); (try clear hi); (try clear ho0)) | ((with_reducible refine gate_callee (f := 36) rfl ?_); refine goesL_ (some 36) rfl rfl Try.func36 (by kernel_rfl) rfl #[.slice A0 l0.length c0] rfl sm_ ?_; (with_reducible refine (spec_DrawPutText.calls k _ _ l0 t284 _ ?side1 ?side2 A6.out).mono ?_); (case side1 => repeat (first | exact (Kd.C_below HR0.out HB.out) | (with_reducible refine Kd.C_alloc ?_ _) | (with_reducible refine Kd.C_drewN ?_ _) | (with_reducible refine Kd.C_drew ?_))); (case side2 => exact HC0.out); rintro e w11 ⟨rfl, hb⟩; refine ⟨_, rfl, ?_⟩; replace HO283 := cr_ HO283 hb; replace HB := ch_ HB hb; (try clear hb); (try clear hb2); (try clear hk); (try clear hi)) | ((with_reducible refine gate_callee (f := 37) rfl ?_); refine goesL_ (some 38) rfl rfl Try.func37 (by kernel_rfl) rfl #[.string t284] rfl sm_ ?_; (with_reducible refine (impl_PutText.calls k t284 t285 _ A7.out).mono ?_); rintro e w12 ⟨v286, rfl, ho0, hb⟩; refine ⟨_, rfl, ?_⟩; have HO287 := Aside0.mk (Kd.R_lower (Kd.R_new' ho0 (Kd.R_lt (rq_ HO283.out))) (below_size (hb_ HB.out))); replace HO283 := Aside0.mk (Kd.R_elder' (rq_ HO283.out) (Kd.R_base ho0) hb); replace HB := ch_ HB hb; (try clear hb); (try clear hb2); (try clear hk); (try clear hi); (try clear ho0)))
  (try simp only [Act.put, List.setIfInBounds_toArray, List.set_cons_zero, List.set_cons_succ])
  go_cut [52] (fun v52 wc => ∃ (kq : Nat) (x52_7 : Bool), v52 = .bool x52_7 ∧ Aside0 (laws_FnBytes.j0 kq l0 t280 t281 t284 t285 x52_7 = some r) ∧ Aside0 (kq ≤ k) ∧ Aside0 (Kd.R (Kd.int .u8) 5 wc w.heap.size (fun k_ => some k_ ≠ (v286 : Value).ownBlock) v282 t281) ∧ Aside0 (Kd.R (Kd.int .u8) 5 wc w.heap.size (fun k_ => some k_ ≠ (v282 : Value).ownBlock) v286 t285) ∧ Aside0 (Below w.heap.size w wc))
  case first =>
   as_aux_lemma =>
   have H := HC8.out
   clear HC8
   replace H := Option.bind_eq_some_iff.mp H
   obtain ⟨t288, A130, H⟩ := H
   replace H : (if (strOfNums t281).toList = (strOfNums t288).toList then ((spec_PutText.f k t284).bind fun t291 => (laws_FnBytes.j0 k l0 t280 t281 t284 t285 ((strOfNums t285).toList != (strOfNums t291).toList))) else (laws_FnBytes.j0 k l0 t280 t281 t284 t285 true)) = some r := H
   have A13 := Aside0.mk A130
   clear A130
   by_cases c14 : (strOfNums t281).toList = (strOfNums t288).toList
   ·
    as_aux_lemma =>
    rw [if_pos c14] at H
    have c14b0 : ((strOfNums t281).toList == (strOfNums t288).toList) = true := beq_iff_eq.mpr c14
    have c14b1 : ((strOfNums t281).toList != (strOfNums t288).toList) = false := bne_eq_false_iff_eq.mpr c14
    clear c14
    (first | rw [c14b0] | (simp only [i64_w, i32_w]; rw [c14b0]) | rw [c14b4] | rw [c14b3] | skip)
    replace H := Option.bind_eq_some_iff.mp H
    obtain ⟨t291, A150, H⟩ := H
    replace H : (laws_FnBytes.j0 k l0 t280 t281 t284 t285 ((strOfNums t285).toList != (strOfNums t291).toList)) = some r := H
    have A15 := Aside0.mk A150
    clear A150
    have H' := Aside0.mk H
    clear H
    try go_wp2
    replace HO283 := Aside0.mk (Kd.R_drew HO283.out)
    replace HO287 := Aside0.mk (Kd.R_drew HO287.out)
    replace HB := Aside0.mk (below_drew1 HB.out)
    refine start_ (n := 14) (S := fun w' => True) (ds := []) laws_FnBytes.m0 (by kernel_rfl) rfl rfl trivial (fun hHeld => ?_); refine with_tabW laws_FnBytes.tab7 laws_FnBytes.bits7 (fun HT_ HW_ => ?_)
    generalize w12.drew = w16 at HO283 HO287 HB hHeld ⊢
    refine pI_ 0 39 HT_ laws_FnBytes.m1 rfl rfl ?_
    refine pI_ 2 41 HT_ laws_FnBytes.m2 rfl rfl ?_
    refine join_ (σ := Value × Value) 2 laws_FnBytes.m3 (fun s_ => [(40, .string (strOfNums t281)), (42, s_.1), (43, .string (strOfNums t288)), (47, .string (strOfNums t285)), (49, s_.2), (50, .string (strOfNums t291)), (44, .bool false), (45, .bool false), (46, v286), (48, .string t284)]) (fun s_ w' => (Kd.R (Kd.int .u8) 5 w' w.heap.size (fun k_ => some k_ ≠ (v286 : Value).ownBlock ∧ some k_ ≠ (s_.1 : Value).ownBlock ∧ some k_ ≠ (s_.2 : Value).ownBlock) v282 t281) ∧ (Kd.R (Kd.int .u8) 5 w' w.heap.size (fun k_ => some k_ ≠ (v282 : Value).ownBlock ∧ some k_ ≠ (s_.1 : Value).ownBlock ∧ some k_ ≠ (s_.2 : Value).ownBlock) v286 t285) ∧ (Kd.R (Kd.int .u8) 5 w' w.heap.size (fun k_ => some k_ ≠ (v282 : Value).ownBlock ∧ some k_ ≠ (v286 : Value).ownBlock ∧ some k_ ≠ (s_.2 : Value).ownBlock) s_.1 t288) ∧ (Kd.R (Kd.int .u8) 5 w' w.heap.size (fun k_ => some k_ ≠ (v282 : Value).ownBlock ∧ some k_ ≠ (v286 : Value).ownBlock ∧ some k_ ≠ (s_.1 : Value).ownBlock) s_.2 t291) ∧ (Below w.heap.size w w')) ?_ ?_
    rotate_left
    ·
     as_aux_lemma =>
     intro hJ1_3_4_8_10_11
     refine join_ (σ := Value × Value) 3 laws_FnBytes.m4 (fun s_ => [(40, .string (strOfNums t281)), (42, s_.1), (43, .string (strOfNums t288)), (47, .string (strOfNums t285)), (49, s_.2), (44, .bool false), (45, .bool false), (46, v286), (48, .string t284)]) (fun s_ w' => (Kd.R (Kd.int .u8) 5 w' w.heap.size (fun k_ => some k_ ≠ (v286 : Value).ownBlock ∧ some k_ ≠ (s_.1 : Value).ownBlock ∧ some k_ ≠ (s_.2 : Value).ownBlock) v282 t281) ∧ (Kd.R (Kd.int .u8) 5 w' w.heap.size (fun k_ => some k_ ≠ (v282 : Value).ownBlock ∧ some k_ ≠ (s_.1 : Value).ownBlock ∧ some k_ ≠ (s_.2 : Value).ownBlock) v286 t285) ∧ (Kd.R (Kd.int .u8) 5 w' w.heap.size (fun k_ => some k_ ≠ (v282 : Value).ownBlock ∧ some k_ ≠ (v286 : Value).ownBlock ∧ some k_ ≠ (s_.2 : Value).ownBlock) s_.1 t288) ∧ (Kd.R (Kd.int .u8) 5 w' w.heap.size (fun k_ => some k_ ≠ (v282 : Value).ownBlock ∧ some k_ ≠ (v286 : Value).ownBlock ∧ some k_ ≠ (s_.1 : Value).ownBlock) s_.2 t291) ∧ (Below w.heap.size w w')) ?_ ?_
     rotate_left
     ·
      as_aux_lemma =>
      intro hJ1_3_4_8_10
      refine join_ (σ := Value × Value) 3 laws_FnBytes.m5 (fun s_ => [(40, .string (strOfNums t281)), (42, s_.1), (43, .string (strOfNums t288)), (49, s_.2), (50, .string (strOfNums t291)), (44, .bool false), (45, .bool false), (46, v286), (48, .string t284)]) (fun s_ w' => (Kd.R (Kd.int .u8) 5 w' w.heap.size (fun k_ => some k_ ≠ (v286 : Value).ownBlock ∧ some k_ ≠ (s_.1 : Value).ownBlock ∧ some k_ ≠ (s_.2 : Value).ownBlock) v282 t281) ∧ (Kd.R (Kd.int .u8) 5 w' w.heap.size (fun k_ => some k_ ≠ (v282 : Value).ownBlock ∧ some k_ ≠ (s_.1 : Value).ownBlock ∧ some k_ ≠ (s_.2 : Value).ownBlock) v286 t285) ∧ (Kd.R (Kd.int .u8) 5 w' w.heap.size (fun k_ => some k_ ≠ (v282 : Value).ownBlock ∧ some k_ ≠ (v286 : Value).ownBlock ∧ some k_ ≠ (s_.2 : Value).ownBlock) s_.1 t288) ∧ (Kd.R (Kd.int .u8) 5 w' w.heap.size (fun k_ => some k_ ≠ (v282 : Value).ownBlock ∧ some k_ ≠ (v286 : Value).ownBlock ∧ some k_ ≠ (s_.1 : Value).ownBlock) s_.2 t291) ∧ (Below w.heap.size w w')) ?_ ?_
      rotate_left
      ·
       as_aux_lemma =>
       intro hJ1_3_4_10_11
       refine join_ (σ := Value) 4 laws_FnBytes.m6 (fun s_ => [(40, .string (strOfNums t281)), (42, s_), (43, .string (strOfNums t288)), (47, .string (strOfNums t285)), (44, .bool false), (45, .bool false), (46, v286), (48, .string t284)]) (fun s_ w' => (Kd.R (Kd.int .u8) 5 w' w.heap.size (fun k_ => some k_ ≠ (v286 : Value).ownBlock ∧ some k_ ≠ (s_ : Value).ownBlock) v282 t281) ∧ (Kd.R (Kd.int .u8) 5 w' w.heap.size (fun k_ => some k_ ≠ (v282 : Value).ownBlock ∧ some k_ ≠ (s_ : Value).ownBlock) v286 t285) ∧ (Kd.R (Kd.int .u8) 5 w' w.heap.size (fun k_ => some k_ ≠ (v282 : Value).ownBlock ∧ some k_ ≠ (v286 : Value).ownBlock) s_ t288) ∧ (Below w.heap.size w w')) ?_ ?_
       rotate_left
       ·
        as_aux_lemma =>
        intro hJ1_3_4_8
        refine join_ (σ := Value × Value) 4 laws_FnBytes.m7 (fun s_ => [(40, .string (strOfNums t281)), (42, s_.1), (43, .string (strOfNums t288)), (49, s_.2), (44, .bool false), (45, .bool false), (46, v286), (48, .string t284)]) (fun s_ w' => (Kd.R (Kd.int .u8) 5 w' w.heap.size (fun k_ => some k_ ≠ (v286 : Value).ownBlock ∧ some k_ ≠ (s_.1 : Value).ownBlock ∧ some k_ ≠ (s_.2 : Value).ownBlock) v282 t281) ∧ (Kd.R (Kd.int .u8) 5 w' w.heap.size (fun k_ => some k_ ≠ (v282 : Value).ownBlock ∧ some k_ ≠ (s_.1 : Value).ownBlock ∧ some k_ ≠ (s_.2 : Value).ownBlock) v286 t285) ∧ (Kd.R (Kd.int .u8) 5 w' w.heap.size (fun k_ => some k_ ≠ (v282 : Value).ownBlock ∧ some k_ ≠ (v286 : Value).ownBlock ∧ some k_ ≠ (s_.2 : Value).ownBlock) s_.1 t288) ∧ (Kd.R (Kd.int .u8) 5 w' w.heap.size (fun k_ => some k_ ≠ (v282 : Value).ownBlock ∧ some k_ ≠ (v286 : Value).ownBlock ∧ some k_ ≠ (s_.1 : Value).ownBlock) s_.2 t291) ∧ (Below w.heap.size w w')) ?_ ?_
        rotate_left
        ·
         as_aux_lemma =>
         intro hJ1_3_4_10
         refine join_ (σ := Value) 5 laws_FnBytes.m8 (fun s_ => [(40, .string (strOfNums t281)), (42, s_), (43, .string (strOfNums t288)), (44, .bool false), (45, .bool false), (46, v286), (48, .string t284)]) (fun s_ w' => (Kd.R (Kd.int .u8) 5 w' w.heap.size (fun k_ => some k_ ≠ (v286 : Value).ownBlock ∧ some k_ ≠ (s_ : Value).ownBlock) v282 t281) ∧ (Kd.R (Kd.int .u8) 5 w' w.heap.size (fun k_ => some k_ ≠ (v282 : Value).ownBlock ∧ some k_ ≠ (s_ : Value).ownBlock) v286 t285) ∧ (Kd.R (Kd.int .u8) 5 w' w.heap.size (fun k_ => some k_ ≠ (v282 : Value).ownBlock ∧ some k_ ≠ (v286 : Value).ownBlock) s_ t288) ∧ (Below w.heap.size w w')) ?_ ?_
         rotate_left
         ·
          as_aux_lemma =>
          intro hJ1_3_4
          refine join_ (σ := Value) 10 laws_FnBytes.m9 (fun s_ => [(40, .string (strOfNums t281)), (42, s_)]) (fun s_ w' => (Kd.R (Kd.int .u8) 5 w' w.heap.size (fun k_ => some k_ ≠ (v286 : Value).ownBlock ∧ some k_ ≠ (s_ : Value).ownBlock) v282 t281) ∧ (Kd.R (Kd.int .u8) 5 w' w.heap.size (fun k_ => some k_ ≠ (v282 : Value).ownBlock ∧ some k_ ≠ (s_ : Value).ownBlock) v286 t285) ∧ (Kd.R (Kd.int .u8) 5 w' w.heap.size (fun k_ => some k_ ≠ (v282 : Value).ownBlock ∧ some k_ ≠ (v286 : Value).ownBlock) s_ t288) ∧ (Below w.heap.size w w')) ?_ ?_
          rotate_left
          ·
           as_aux_lemma =>
           intro hJ1_3
           refine join_ (σ := Value) 10 laws_FnBytes.m10 (fun s_ => [(42, s_), (43, .string (strOfNums t288))]) (fun s_ w' => (Kd.R (Kd.int .u8) 5 w' w.heap.size (fun k_ => some k_ ≠ (v286 : Value).ownBlock ∧ some k_ ≠ (s_ : Value).ownBlock) v282 t281) ∧ (Kd.R (Kd.int .u8) 5 w' w.heap.size (fun k_ => some k_ ≠ (v282 : Value).ownBlock ∧ some k_ ≠ (s_ : Value).ownBlock) v286 t285) ∧ (Kd.R (Kd.int .u8) 5 w' w.heap.size (fun k_ => some k_ ≠ (v282 : Value).ownBlock ∧ some k_ ≠ (v286 : Value).ownBlock) s_ t288) ∧ (Below w.heap.size w w')) ?_ ?_
           rotate_left
           ·
            as_aux_lemma =>
            intro hJ3_4
            refine join_ (σ := Unit) 11 laws_FnBytes.m11 (fun s_ => [(40, .string (strOfNums t281))]) (fun s_ w' => (Kd.R (Kd.int .u8) 5 w' w.heap.size (fun k_ => some k_ ≠ (v286 : Value).ownBlock) v282 t281) ∧ (Kd.R (Kd.int .u8) 5 w' w.heap.size (fun k_ => some k_ ≠ (v282 : Value).ownBlock) v286 t285) ∧ (Below w.heap.size w w')) ?_ ?_
            rotate_left
            ·
             as_aux_lemma =>
             intro hJ1
             refine join_ (σ := Value) 11 laws_FnBytes.m12 (fun s_ => [(42, s_)]) (fun s_ w' => (Kd.R (Kd.int .u8) 5 w' w.heap.size (fun k_ => some k_ ≠ (v286 : Value).ownBlock ∧ some k_ ≠ (s_ : Value).ownBlock) v282 t281) ∧ (Kd.R (Kd.int .u8) 5 w' w.heap.size (fun k_ => some k_ ≠ (v282 : Value).ownBlock ∧ some k_ ≠ (s_ : Value).ownBlock) v286 t285) ∧ (Kd.R (Kd.int .u8) 5 w' w.heap.size (fun k_ => some k_ ≠ (v282 : Value).ownBlock ∧ some k_ ≠ (v286 : Value).ownBlock) s_ t288) ∧ (Below w.heap.size w w')) ?_ ?_
             rotate_left
             ·
              intro hJ3
              refine two_ (i := 1) (j := 3) (Ni := some 40) (Nj := some 42) laws_FnBytes.m11 laws_FnBytes.m12 rfl rfl rfl rfl (two_of HT_.out (by kernel_rfl)) (by decide) (by decide) (fun K hK => ?_) (fun K hK => ?_)
              ·
               skip
               have hcv17 := own_string (P := Try.prog) Try.underlying61 Try.underlying5 Try.underlying9 (Kd.own_of_R HO283.out)
               refine value_ (w1 := ?_) (v := ?_) (by rfl) rfl ?_ ?_
               rotate_left 2
               ·
                go_simp
                constructor
                ·
                 rfl
                ·
                 rfl
               clear hcv17
               refine hK.out _ _ trivial (fun hHeld => ?_)
               clear hK K
               refine nm_ ?_
               exact norm_ (qc1_) (hJ1 () _ ⟨(rm_ HO283.out), (rm_ HO287.out), (hb_ HB.out)⟩)
              ·
               skip
               refine goes_ Try.func38 (by kernel_rfl) rfl #[.int .i64 t280] (by rfl) rfl rfl sm_ ?_
               with_reducible refine (spec_PutNum.calls k t280 t288 _ A13.out).mono ?_
               rintro e w17 ⟨v289, rfl, ho0, hb⟩
               refine ⟨_, rfl, ?_⟩
               have HO290 := Aside0.mk (Kd.R_lower (Kd.R_new' (Kd.R_new' ho0 (Kd.R_lt (rq_ HO283.out))) (Kd.R_lt (rq_ HO287.out))) (below_size (hb_ HB.out)))
               replace HO283 := Aside0.mk (Kd.R_elder' (rq_ HO283.out) (Kd.R_base ho0) hb)
               replace HO287 := Aside0.mk (Kd.R_elder' (rq_ HO287.out) (Kd.R_base ho0) hb)
               replace HB := ch_ HB hb
               (try clear hb); (try clear hb2); (try clear hk); (try clear hi); (try clear ho0)
               refine hK.out _ _ trivial (fun hHeld => ?_)
               clear hK K
               refine nm_ ?_
               exact norm_ (qc1_) (hJ3 (v289) _ ⟨(rm_ HO283.out), (rm_ HO287.out), (rm_ HO290.out), (hb_ HB.out)⟩)
             ·
              skip
              rintro v289 w18 ⟨h0_, h1_, h2_, h3_⟩
              have n0_ : Aside0 (Kd.R (Kd.int .u8) 5 w18 w.heap.size (fun k_ => some k_ ≠ (v286 : Value).ownBlock ∧ some k_ ≠ (v289 : Value).ownBlock) v282 t281) := ⟨h0_⟩
              have n1_ : Aside0 (Kd.R (Kd.int .u8) 5 w18 w.heap.size (fun k_ => some k_ ≠ (v282 : Value).ownBlock ∧ some k_ ≠ (v289 : Value).ownBlock) v286 t285) := ⟨h1_⟩
              have n2_ : Aside0 (Kd.R (Kd.int .u8) 5 w18 w.heap.size (fun k_ => some k_ ≠ (v282 : Value).ownBlock ∧ some k_ ≠ (v286 : Value).ownBlock) v289 t288) := ⟨h2_⟩
              have n3_ : Aside0 (Below w.heap.size w w18) := ⟨h3_⟩
              clear HO283
              clear HO287
              clear HB
              clear h0_ h1_ h2_ h3_
              have HO283 := n0_
              have HO287 := n1_
              have HO290 := n2_
              have HB := n3_
              clear n0_ n1_ n2_ n3_
              have hHeld := trivial
              refine norm_ (a' := ?_) ?_ ?_
              rotate_left; (focus simp only [putAll, Act.put, List.setIfInBounds_toArray, List.set_cons_zero, List.set_cons_succ]; rfl)
              refine two_ (i := 1) (j := 4) (Ni := some 40) (Nj := some 43) laws_FnBytes.m9 laws_FnBytes.m10 rfl rfl rfl rfl (two_of HT_.out (by kernel_rfl)) (by decide) (by decide) (fun K hK => ?_) (fun K hK => ?_)
              ·
               skip
               have hcv19 := own_string (P := Try.prog) Try.underlying61 Try.underlying5 Try.underlying9 (Kd.own_of_R HO283.out)
               refine value_ (w1 := ?_) (v := ?_) (by rfl) rfl ?_ ?_
               rotate_left 2
               ·
                go_simp
                constructor
                ·
                 rfl
                ·
                 rfl
               clear hcv19
               refine hK.out _ _ trivial (fun hHeld => ?_)
               clear hK K
               refine nm_ ?_
               exact norm_ (qc1_) (hJ1_3 (v289) _ ⟨(rq_ HO283.out), (rq_ HO287.out), (rq_ HO290.out), (hb_ HB.out)⟩)
              ·
               skip
               have hcv19 := own_string (P := Try.prog) Try.underlying61 Try.underlying5 Try.underlying9 (Kd.own_of_R HO290.out)
               refine value_ (w1 := ?_) (v := ?_) (by rfl) rfl ?_ ?_
               rotate_left 2
               ·
                go_simp
                constructor
                ·
                 rfl
                ·
                 rfl
               clear hcv19
               refine hK.out _ _ trivial (fun hHeld => ?_)
               clear hK K
               refine nm_ ?_
               exact norm_ (qc1_) (hJ3_4 (v289) _ ⟨(rq_ HO283.out), (rq_ HO287.out), (rq_ HO290.out), (hb_ HB.out)⟩)
            ·
             skip
             rintro _ w18 ⟨h0_, h1_, h2_⟩
             have n0_ : Aside0 (Kd.R (Kd.int .u8) 5 w18 w.heap.size (fun k_ => some k_ ≠ (v286 : Value).ownBlock) v282 t281) := ⟨h0_⟩
             have n1_ : Aside0 (Kd.R (Kd.int .u8) 5 w18 w.heap.size (fun k_ => some k_ ≠ (v282 : Value).ownBlock) v286 t285) := ⟨h1_⟩
             have n2_ : Aside0 (Below w.heap.size w w18) := ⟨h2_⟩
             clear HO283
             clear HO287
             clear HB
             clear h0_ h1_ h2_
             have HO283 := n0_
             have HO287 := n1_
             have HB := n2_
             clear n0_ n1_ n2_
             have hHeld := trivial
             refine norm_ (a' := ?_) ?_ ?_
             rotate_left; (focus simp only [putAll, Act.put, List.setIfInBounds_toArray, List.set_cons_zero, List.set_cons_succ]; rfl)
             refine on_ 3 42 HT_ laws_FnBytes.m9 rfl rfl (fun K hK => ?_)
             refine goes_ Try.func38 (by kernel_rfl) rfl #[.int .i64 t280] (by rfl) rfl rfl sm_ ?_
             with_reducible refine (spec_PutNum.calls k t280 t288 _ A13.out).mono ?_
             rintro e w19 ⟨v289, rfl, ho0, hb⟩
             refine ⟨_, rfl, ?_⟩
             have HO290 := Aside0.mk (Kd.R_lower (Kd.R_new' (Kd.R_new' ho0 (Kd.R_lt (rq_ HO283.out))) (Kd.R_lt (rq_ HO287.out))) (below_size (hb_ HB.out)))
             replace HO283 := Aside0.mk (Kd.R_elder' (rq_ HO283.out) (Kd.R_base ho0) hb)
             replace HO287 := Aside0.mk (Kd.R_elder' (rq_ HO287.out) (Kd.R_base ho0) hb)
             replace HB := ch_ HB hb
             (try clear hb); (try clear hb2); (try clear hk); (try clear hi); (try clear ho0)
             refine hK.out _ _ trivial (fun hHeld => ?_)
             clear hK K
             refine nm_ ?_
             exact norm_ (qc1_) (hJ1_3 (v289) _ ⟨(rq_ HO283.out), (rq_ HO287.out), (rm_ HO290.out), (hb_ HB.out)⟩)
           ·
            skip
            rintro v289 w19 ⟨h0_, h1_, h2_, h3_⟩
            have n0_ : Aside0 (Kd.R (Kd.int .u8) 5 w19 w.heap.size (fun k_ => some k_ ≠ (v286 : Value).ownBlock ∧ some k_ ≠ (v289 : Value).ownBlock) v282 t281) := ⟨h0_⟩
            have n1_ : Aside0 (Kd.R (Kd.int .u8) 5 w19 w.heap.size (fun k_ => some k_ ≠ (v282 : Value).ownBlock ∧ some k_ ≠ (v289 : Value).ownBlock) v286 t285) := ⟨h1_⟩
            have n2_ : Aside0 (Kd.R (Kd.int .u8) 5 w19 w.heap.size (fun k_ => some k_ ≠ (v282 : Value).ownBlock ∧ some k_ ≠ (v286 : Value).ownBlock) v289 t288) := ⟨h2_⟩
            have n3_ : Aside0 (Below w.heap.size w w19) := ⟨h3_⟩
            clear HO283
            clear HO287
            clear HB
            clear h0_ h1_ h2_ h3_
            have HO283 := n0_
            have HO287 := n1_
            have HO290 := n2_
            have HB := n3_
            clear n0_ n1_ n2_ n3_
            have hHeld := trivial
            refine norm_ (a' := ?_) ?_ ?_
            rotate_left; (focus simp only [putAll, Act.put, List.setIfInBounds_toArray, List.set_cons_zero, List.set_cons_succ]; rfl)
            refine on_ 1 40 HT_ laws_FnBytes.m13 rfl rfl (fun K hK => ?_)
            have hcv20 := own_string (P := Try.prog) Try.underlying61 Try.underlying5 Try.underlying9 (Kd.own_of_R HO283.out)
            refine value_ (w1 := ?_) (v := ?_) (by rfl) rfl ?_ ?_
            rotate_left 2
            ·
             go_simp
             constructor
             ·
              rfl
             ·
              rfl
            clear hcv20
            refine hK.out _ _ trivial (fun hHeld => ?_)
            clear hK K
            refine nm_ ?_
            refine pI_ 5 44 HT_ laws_FnBytes.m14 rfl rfl ?_
            refine pI_ 6 45 HT_ laws_FnBytes.m15 rfl rfl ?_
            refine pI_ 7 46 HT_ laws_FnBytes.m16 rfl rfl ?_
            refine pI_ 9 48 HT_ laws_FnBytes.m8 rfl rfl ?_
            exact norm_ (qc1_) (hJ1_3_4 (v289) _ ⟨(rq_ HO283.out), (rq_ HO287.out), (rq_ HO290.out), (hb_ HB.out)⟩)
          ·
           skip
           rintro v289 w19 ⟨h0_, h1_, h2_, h3_⟩
           have n0_ : Aside0 (Kd.R (Kd.int .u8) 5 w19 w.heap.size (fun k_ => some k_ ≠ (v286 : Value).ownBlock ∧ some k_ ≠ (v289 : Value).ownBlock) v282 t281) := ⟨h0_⟩
           have n1_ : Aside0 (Kd.R (Kd.int .u8) 5 w19 w.heap.size (fun k_ => some k_ ≠ (v282 : Value).ownBlock ∧ some k_ ≠ (v289 : Value).ownBlock) v286 t285) := ⟨h1_⟩
           have n2_ : Aside0 (Kd.R (Kd.int .u8) 5 w19 w.heap.size (fun k_ => some k_ ≠ (v282 : Value).ownBlock ∧ some k_ ≠ (v286 : Value).ownBlock) v289 t288) := ⟨h2_⟩
           have n3_ : Aside0 (Below w.heap.size w w19) := ⟨h3_⟩
           clear HO283
           clear HO287
           clear HB
           clear h0_ h1_ h2_ h3_
           have HO283 := n0_
           have HO287 := n1_
           have HO290 := n2_
           have HB := n3_
           clear n0_ n1_ n2_ n3_
           have hHeld := trivial
           refine norm_ (a' := ?_) ?_ ?_
           rotate_left; (focus simp only [putAll, Act.put, List.setIfInBounds_toArray, List.set_cons_zero, List.set_cons_succ]; rfl)
           refine on_ 4 43 HT_ laws_FnBytes.m13 rfl rfl (fun K hK => ?_)
           have hcv20 := own_string (P := Try.prog) Try.underlying61 Try.underlying5 Try.underlying9 (Kd.own_of_R HO290.out)
           refine value_ (w1 := ?_) (v := ?_) (by rfl) rfl ?_ ?_
           rotate_left 2
           ·
            go_simp
            constructor
            ·
             rfl
            ·
             rfl
           clear hcv20
           refine hK.out _ _ trivial (fun hHeld => ?_)
           clear hK K
           refine nm_ ?_
           refine pI_ 5 44 HT_ laws_FnBytes.m14 rfl rfl ?_
           refine pI_ 6 45 HT_ laws_FnBytes.m15 rfl rfl ?_
           refine pI_ 7 46 HT_ laws_FnBytes.m16 rfl rfl ?_
           refine pI_ 9 48 HT_ laws_FnBytes.m8 rfl rfl ?_
           exact norm_ (qc1_) (hJ1_3_4 (v289) _ ⟨(rq_ HO283.out), (rq_ HO287.out), (rq_ HO290.out), (hb_ HB.out)⟩)
         ·
          skip
          rintro v289 w20 ⟨h0_, h1_, h2_, h3_⟩
          have n0_ : Aside0 (Kd.R (Kd.int .u8) 5 w20 w.heap.size (fun k_ => some k_ ≠ (v286 : Value).ownBlock ∧ some k_ ≠ (v289 : Value).ownBlock) v282 t281) := ⟨h0_⟩
          have n1_ : Aside0 (Kd.R (Kd.int .u8) 5 w20 w.heap.size (fun k_ => some k_ ≠ (v282 : Value).ownBlock ∧ some k_ ≠ (v289 : Value).ownBlock) v286 t285) := ⟨h1_⟩
          have n2_ : Aside0 (Kd.R (Kd.int .u8) 5 w20 w.heap.size (fun k_ => some k_ ≠ (v282 : Value).ownBlock ∧ some k_ ≠ (v286 : Value).ownBlock) v289 t288) := ⟨h2_⟩
          have n3_ : Aside0 (Below w.heap.size w w20) := ⟨h3_⟩
          clear HO283
          clear HO287
          clear HB
          clear h0_ h1_ h2_ h3_
          have HO283 := n0_
          have HO287 := n1_
          have HO290 := n2_
          have HB := n3_
          clear n0_ n1_ n2_ n3_
          have hHeld := trivial
          refine norm_ (a' := ?_) ?_ ?_
          rotate_left; (focus simp only [putAll, Act.put, List.setIfInBounds_toArray, List.set_cons_zero, List.set_cons_succ]; rfl)
          refine two_ (i := 8) (j := 10) (Ni := some 47) (Nj := some 49) laws_FnBytes.m6 laws_FnBytes.m7 rfl rfl rfl rfl (two_of HT_.out (by kernel_rfl)) (by decide) (by decide) (fun K hK => ?_) (fun K hK => ?_)
          ·
           skip
           have hcv21 := own_string (P := Try.prog) Try.underlying61 Try.underlying5 Try.underlying9 (Kd.own_of_R HO287.out)
           refine value_ (w1 := ?_) (v := ?_) (by rfl) rfl ?_ ?_
           rotate_left 2
           ·
            go_simp
            constructor
            ·
             rfl
            ·
             rfl
           clear hcv21
           refine hK.out _ _ trivial (fun hHeld => ?_)
           clear hK K
           refine nm_ ?_
           exact norm_ (qc1_) (hJ1_3_4_8 (v289) _ ⟨(rq_ HO283.out), (rq_ HO287.out), (rq_ HO290.out), (hb_ HB.out)⟩)
          ·
           skip
           refine goes_ Try.func39 (by kernel_rfl) rfl #[.string t284] (by rfl) rfl rfl sm_ ?_
           with_reducible refine (spec_PutText.calls k t284 t291 _ A15.out).mono ?_
           rintro e w21 ⟨v292, rfl, ho0, hb⟩
           refine ⟨_, rfl, ?_⟩
           have HO293 := Aside0.mk (Kd.R_lower (Kd.R_new' (Kd.R_new' (Kd.R_new' ho0 (Kd.R_lt (rq_ HO283.out))) (Kd.R_lt (rq_ HO287.out))) (Kd.R_lt (rq_ HO290.out))) (below_size (hb_ HB.out)))
           replace HO283 := Aside0.mk (Kd.R_elder' (rq_ HO283.out) (Kd.R_base ho0) hb)
           replace HO287 := Aside0.mk (Kd.R_elder' (rq_ HO287.out) (Kd.R_base ho0) hb)
           replace HO290 := Aside0.mk (Kd.R_elder' (rq_ HO290.out) (Kd.R_base ho0) hb)
           replace HB := ch_ HB hb
           (try clear hb); (try clear hb2); (try clear hk); (try clear hi); (try clear ho0)
           refine hK.out _ _ trivial (fun hHeld => ?_)
           clear hK K
           refine nm_ ?_
           exact norm_ (qc1_) (hJ1_3_4_10 (v289, v292) _ ⟨(rm_ HO283.out), (rm_ HO287.out), (rm_ HO290.out), (rm_ HO293.out), (hb_ HB.out)⟩)
        ·
         skip
         rintro ⟨v289, v292⟩ w21 ⟨h0_, h1_, h2_, h3_, h4_⟩
         have n0_ : Aside0 (Kd.R (Kd.int .u8) 5 w21 w.heap.size (fun k_ => some k_ ≠ (v286 : Value).ownBlock ∧ some k_ ≠ (v289 : Value).ownBlock ∧ some k_ ≠ (v292 : Value).ownBlock) v282 t281) := ⟨h0_⟩
         have n1_ : Aside0 (Kd.R (Kd.int .u8) 5 w21 w.heap.size (fun k_ => some k_ ≠ (v282 : Value).ownBlock ∧ some k_ ≠ (v289 : Value).ownBlock ∧ some k_ ≠ (v292 : Value).ownBlock) v286 t285) := ⟨h1_⟩
         have n2_ : Aside0 (Kd.R (Kd.int .u8) 5 w21 w.heap.size (fun k_ => some k_ ≠ (v282 : Value).ownBlock ∧ some k_ ≠ (v286 : Value).ownBlock ∧ some k_ ≠ (v292 : Value).ownBlock) v289 t288) := ⟨h2_⟩
         have n3_ : Aside0 (Kd.R (Kd.int .u8) 5 w21 w.heap.size (fun k_ => some k_ ≠ (v282 : Value).ownBlock ∧ some k_ ≠ (v286 : Value).ownBlock ∧ some k_ ≠ (v289 : Value).ownBlock) v292 t291) := ⟨h3_⟩
         have n4_ : Aside0 (Below w.heap.size w w21) := ⟨h4_⟩
         clear HO283
         clear HO287
         clear HB
         clear h0_ h1_ h2_ h3_ h4_
         have HO283 := n0_
         have HO287 := n1_
         have HO290 := n2_
         have HO293 := n3_
         have HB := n4_
         clear n0_ n1_ n2_ n3_ n4_
         have hHeld := trivial
         refine norm_ (a' := ?_) ?_ ?_
         rotate_left; (focus simp only [putAll, Act.put, List.setIfInBounds_toArray, List.set_cons_zero, List.set_cons_succ]; rfl)
         refine two_ (i := 8) (j := 11) (Ni := some 47) (Nj := some 50) laws_FnBytes.m4 laws_FnBytes.m5 rfl rfl rfl rfl (two_of HT_.out (by kernel_rfl)) (by decide) (by decide) (fun K hK => ?_) (fun K hK => ?_)
         ·
          skip
          have hcv22 := own_string (P := Try.prog) Try.underlying61 Try.underlying5 Try.underlying9 (Kd.own_of_R HO287.out)
          refine value_ (w1 := ?_) (v := ?_) (by rfl) rfl ?_ ?_
          rotate_left 2
          ·
           go_simp
           constructor
           ·
            rfl
           ·
            rfl
          clear hcv22
          refine hK.out _ _ trivial (fun hHeld => ?_)
          clear hK K
          refine nm_ ?_
          exact norm_ (qc1_) (hJ1_3_4_8_10 (v289, v292) _ ⟨(rq_ HO283.out), (rq_ HO287.out), (rq_ HO290.out), (rq_ HO293.out), (hb_ HB.out)⟩)
         ·
          skip
          have hcv22 := own_string (P := Try.prog) Try.underlying61 Try.underlying5 Try.underlying9 (Kd.own_of_R HO293.out)
          refine value_ (w1 := ?_) (v := ?_) (by rfl) rfl ?_ ?_
          rotate_left 2
          ·
           go_simp
           constructor
           ·
            rfl
           ·
            rfl
          clear hcv22
          refine hK.out _ _ trivial (fun hHeld => ?_)
          clear hK K
          refine nm_ ?_
          exact norm_ (qc1_) (hJ1_3_4_10_11 (v289, v292) _ ⟨(rq_ HO283.out), (rq_ HO287.out), (rq_ HO290.out), (rq_ HO293.out), (hb_ HB.out)⟩)
       ·
        skip
        rintro v289 w21 ⟨h0_, h1_, h2_, h3_⟩
        have n0_ : Aside0 (Kd.R (Kd.int .u8) 5 w21 w.heap.size (fun k_ => some k_ ≠ (v286 : Value).ownBlock ∧ some k_ ≠ (v289 : Value).ownBlock) v282 t281) := ⟨h0_⟩
        have n1_ : Aside0 (Kd.R (Kd.int .u8) 5 w21 w.heap.size (fun k_ => some k_ ≠ (v282 : Value).ownBlock ∧ some k_ ≠ (v289 : Value).ownBlock) v286 t285) := ⟨h1_⟩
        have n2_ : Aside0 (Kd.R (Kd.int .u8) 5 w21 w.heap.size (fun k_ => some k_ ≠ (v282 : Value).ownBlock ∧ some k_ ≠ (v286 : Value).ownBlock) v289 t288) := ⟨h2_⟩
        have n3_ : Aside0 (Below w.heap.size w w21) := ⟨h3_⟩
        clear HO283
        clear HO287
        clear HB
        clear h0_ h1_ h2_ h3_
        have HO283 := n0_
        have HO287 := n1_
        have HO290 := n2_
        have HB := n3_
        clear n0_ n1_ n2_ n3_
        have hHeld := trivial
        refine norm_ (a' := ?_) ?_ ?_
        rotate_left; (focus simp only [putAll, Act.put, List.setIfInBounds_toArray, List.set_cons_zero, List.set_cons_succ]; rfl)
        refine on_ 10 49 HT_ laws_FnBytes.m4 rfl rfl (fun K hK => ?_)
        refine goes_ Try.func39 (by kernel_rfl) rfl #[.string t284] (by rfl) rfl rfl sm_ ?_
        with_reducible refine (spec_PutText.calls k t284 t291 _ A15.out).mono ?_
        rintro e w22 ⟨v292, rfl, ho0, hb⟩
        refine ⟨_, rfl, ?_⟩
        have HO293 := Aside0.mk (Kd.R_lower (Kd.R_new' (Kd.R_new' (Kd.R_new' ho0 (Kd.R_lt (rq_ HO283.out))) (Kd.R_lt (rq_ HO287.out))) (Kd.R_lt (rq_ HO290.out))) (below_size (hb_ HB.out)))
        replace HO283 := Aside0.mk (Kd.R_elder' (rq_ HO283.out) (Kd.R_base ho0) hb)
        replace HO287 := Aside0.mk (Kd.R_elder' (rq_ HO287.out) (Kd.R_base ho0) hb)
        replace HO290 := Aside0.mk (Kd.R_elder' (rq_ HO290.out) (Kd.R_base ho0) hb)
        replace HB := ch_ HB hb
        (try clear hb); (try clear hb2); (try clear hk); (try clear hi); (try clear ho0)
        refine hK.out _ _ trivial (fun hHeld => ?_)
        clear hK K
        refine nm_ ?_
        exact norm_ (qc1_) (hJ1_3_4_8_10 (v289, v292) _ ⟨(rm_ HO283.out), (rm_ HO287.out), (rm_ HO290.out), (rm_ HO293.out), (hb_ HB.out)⟩)
      ·
       skip
       rintro ⟨v289, v292⟩ w22 ⟨h0_, h1_, h2_, h3_, h4_⟩
       have n0_ : Aside0 (Kd.R (Kd.int .u8) 5 w22 w.heap.size (fun k_ => some k_ ≠ (v286 : Value).ownBlock ∧ some k_ ≠ (v289 : Value).ownBlock ∧ some k_ ≠ (v292 : Value).ownBlock) v282 t281) := ⟨h0_⟩
       have n1_ : Aside0 (Kd.R (Kd.int .u8) 5 w22 w.heap.size (fun k_ => some k_ ≠ (v282 : Value).ownBlock ∧ some k_ ≠ (v289 : Value).ownBlock ∧ some k_ ≠ (v292 : Value).ownBlock) v286 t285) := ⟨h1_⟩
       have n2_ : Aside0 (Kd.R (Kd.int .u8) 5 w22 w.heap.size (fun k_ => some k_ ≠ (v282 : Value).ownBlock ∧ some k_ ≠ (v286 : Value).ownBlock ∧ some k_ ≠ (v292 : Value).ownBlock) v289 t288) := ⟨h2_⟩
       have n3_ : Aside0 (Kd.R (Kd.int .u8) 5 w22 w.heap.size (fun k_ => some k_ ≠ (v282 : Value).ownBlock ∧ some k_ ≠ (v286 : Value).ownBlock ∧ some k_ ≠ (v289 : Value).ownBlock) v292 t291) := ⟨h3_⟩
       have n4_ : Aside0 (Below w.heap.size w w22) := ⟨h4_⟩
       clear HO283
       clear HO287
       clear HB
       clear h0_ h1_ h2_ h3_ h4_
       have HO283 := n0_
       have HO287 := n1_
       have HO290 := n2_
       have HO293 := n3_
       have HB := n4_
       clear n0_ n1_ n2_ n3_ n4_
       have hHeld := trivial
       refine norm_ (a' := ?_) ?_ ?_
       rotate_left; (focus simp only [putAll, Act.put, List.setIfInBounds_toArray, List.set_cons_zero, List.set_cons_succ]; rfl)
       refine on_ 8 47 HT_ laws_FnBytes.m3 rfl rfl (fun K hK => ?_)
       have hcv23 := own_string (P := Try.prog) Try.underlying61 Try.underlying5 Try.underlying9 (Kd.own_of_R HO287.out)
       refine value_ (w1 := ?_) (v := ?_) (by rfl) rfl ?_ ?_
       rotate_left 2
       ·
        go_simp
        constructor
        ·
         rfl
        ·
         rfl
       clear hcv23
       refine hK.out _ _ trivial (fun hHeld => ?_)
       clear hK K
       refine nm_ ?_
       exact norm_ (qc1_) (hJ1_3_4_8_10_11 (v289, v292) _ ⟨(rq_ HO283.out), (rq_ HO287.out), (rq_ HO290.out), (rq_ HO293.out), (hb_ HB.out)⟩)
     ·
      skip
      rintro ⟨v289, v292⟩ w22 ⟨h0_, h1_, h2_, h3_, h4_⟩
      have n0_ : Aside0 (Kd.R (Kd.int .u8) 5 w22 w.heap.size (fun k_ => some k_ ≠ (v286 : Value).ownBlock ∧ some k_ ≠ (v289 : Value).ownBlock ∧ some k_ ≠ (v292 : Value).ownBlock) v282 t281) := ⟨h0_⟩
      have n1_ : Aside0 (Kd.R (Kd.int .u8) 5 w22 w.heap.size (fun k_ => some k_ ≠ (v282 : Value).ownBlock ∧ some k_ ≠ (v289 : Value).ownBlock ∧ some k_ ≠ (v292 : Value).ownBlock) v286 t285) := ⟨h1_⟩
      have n2_ : Aside0 (Kd.R (Kd.int .u8) 5 w22 w.heap.size (fun k_ => some k_ ≠ (v282 : Value).ownBlock ∧ some k_ ≠ (v286 : Value).ownBlock ∧ some k_ ≠ (v292 : Value).ownBlock) v289 t288) := ⟨h2_⟩
      have n3_ : Aside0 (Kd.R (Kd.int .u8) 5 w22 w.heap.size (fun k_ => some k_ ≠ (v282 : Value).ownBlock ∧ some k_ ≠ (v286 : Value).ownBlock ∧ some k_ ≠ (v289 : Value).ownBlock) v292 t291) := ⟨h3_⟩
      have n4_ : Aside0 (Below w.heap.size w w22) := ⟨h4_⟩
      clear HO283
      clear HO287
      clear HB
      clear h0_ h1_ h2_ h3_ h4_
      have HO283 := n0_
      have HO287 := n1_
      have HO290 := n2_
      have HO293 := n3_
      have HB := n4_
      clear n0_ n1_ n2_ n3_ n4_
      have hHeld := trivial
      refine norm_ (a' := ?_) ?_ ?_
      rotate_left; (focus simp only [putAll, Act.put, List.setIfInBounds_toArray, List.set_cons_zero, List.set_cons_succ]; rfl)
      refine on_ 11 50 HT_ laws_FnBytes.m3 rfl rfl (fun K hK => ?_)
      have hcv23 := own_string (P := Try.prog) Try.underlying61 Try.underlying5 Try.underlying9 (Kd.own_of_R HO293.out)
      refine value_ (w1 := ?_) (v := ?_) (by rfl) rfl ?_ ?_
      rotate_left 2
      ·
       go_simp
       constructor
       ·
        rfl
       ·
        rfl
      clear hcv23
      refine hK.out _ _ trivial (fun hHeld => ?_)
      clear hK K
      refine nm_ ?_
      exact norm_ (qc1_) (hJ1_3_4_8_10_11 (v289, v292) _ ⟨(rq_ HO283.out), (rq_ HO287.out), (rq_ HO290.out), (rq_ HO293.out), (hb_ HB.out)⟩)
    rintro ⟨v289, v292⟩ w23 ⟨h0_, h1_, h2_, h3_, h4_⟩
    have n0_ : Aside0 (Kd.R (Kd.int .u8) 5 w23 w.heap.size (fun k_ => some k_ ≠ (v286 : Value).ownBlock ∧ some k_ ≠ (v289 : Value).ownBlock ∧ some k_ ≠ (v292 : Value).ownBlock) v282 t281) := ⟨h0_⟩
    have n1_ : Aside0 (Kd.R (Kd.int .u8) 5 w23 w.heap.size (fun k_ => some k_ ≠ (v282 : Value).ownBlock ∧ some k_ ≠ (v289 : Value).ownBlock ∧ some k_ ≠ (v292 : Value).ownBlock) v286 t285) := ⟨h1_⟩
    have n2_ : Aside0 (Kd.R (Kd.int .u8) 5 w23 w.heap.size (fun k_ => some k_ ≠ (v282 : Value).ownBlock ∧ some k_ ≠ (v286 : Value).ownBlock ∧ some k_ ≠ (v292 : Value).ownBlock) v289 t288) := ⟨h2_⟩
    have n3_ : Aside0 (Kd.R (Kd.int .u8) 5 w23 w.heap.size (fun k_ => some k_ ≠ (v282 : Value).ownBlock ∧ some k_ ≠ (v286 : Value).ownBlock ∧ some k_ ≠ (v289 : Value).ownBlock) v292 t291) := ⟨h3_⟩
    have n4_ : Aside0 (Below w.heap.size w w23) := ⟨h4_⟩
    clear HO283
    clear HO287
    clear HB
    clear h0_ h1_ h2_ h3_ h4_
    have HO283 := n0_
    have HO287 := n1_
    have HO290 := n2_
    have HO293 := n3_
    have HB := n4_
    clear n0_ n1_ n2_ n3_ n4_
    have hHeld := trivial
    refine norm_ (a' := ?_) ?_ ?_
    rotate_left; (focus simp only [putAll, Act.put, List.setIfInBounds_toArray, List.set_cons_zero, List.set_cons_succ]; rfl)
    refine pI_ 12 51 HT_ laws_FnBytes.m17 rfl rfl ?_
    refine pI_ 13 52 HT_ laws_FnBytes.m18 rfl rfl ?_
    refine done_ (done_of HT_.out (by kernel_rfl)) ?_
    try go_wp2
    go_meet
    case rel => exact ⟨_, (((strOfNums t285).toList != (strOfNums t291).toList)), (qc5_), H', ⟨by first | omega | exact Nat.le_refl _⟩, ⟨rm_ HO283.out⟩, ⟨rm_ HO287.out⟩, ⟨hb_ HB.out⟩⟩
   ·
    as_aux_lemma =>
    rw [if_neg c14] at H
    have c14b0 : ((strOfNums t281).toList == (strOfNums t288).toList) = false := beq_eq_false_iff_ne.mpr c14
    have c14b1 : ((strOfNums t281).toList != (strOfNums t288).toList) = true := bne_iff_ne.mpr c14
    (first | rw [c14b0] | (simp only [i64_w, i32_w]; rw [c14b0]) | rw [c14b4] | rw [c14b3] | skip)
    have H' := Aside0.mk H
    clear H
    try go_wp2
    replace HO283 := Aside0.mk (Kd.R_drew HO283.out)
    replace HO287 := Aside0.mk (Kd.R_drew HO287.out)
    replace HB := Aside0.mk (below_drew1 HB.out)
    refine start_ (n := 14) (S := fun w' => True) (ds := []) laws_FnBytes.m0 (by kernel_rfl) rfl rfl trivial (fun hHeld => ?_); refine with_tabW laws_FnBytes.tab7 laws_FnBytes.bits7 (fun HT_ HW_ => ?_)
    generalize w12.drew = w24 at HO283 HO287 HB hHeld ⊢
    refine pI_ 0 39 HT_ laws_FnBytes.m1 rfl rfl ?_
    refine pI_ 2 41 HT_ laws_FnBytes.m2 rfl rfl ?_
    refine join_ (σ := Value) 9 laws_FnBytes.m13 (fun s_ => [(40, .string (strOfNums t281)), (42, s_), (43, .string (strOfNums t288))]) (fun s_ w' => (Kd.R (Kd.int .u8) 5 w' w.heap.size (fun k_ => some k_ ≠ (v286 : Value).ownBlock ∧ some k_ ≠ (s_ : Value).ownBlock) v282 t281) ∧ (Kd.R (Kd.int .u8) 5 w' w.heap.size (fun k_ => some k_ ≠ (v282 : Value).ownBlock ∧ some k_ ≠ (s_ : Value).ownBlock) v286 t285) ∧ (Kd.R (Kd.int .u8) 5 w' w.heap.size (fun k_ => some k_ ≠ (v282 : Value).ownBlock ∧ some k_ ≠ (v286 : Value).ownBlock) s_ t288) ∧ (Below w.heap.size w w')) ?_ ?_
    rotate_left
    ·
     as_aux_lemma =>
     intro hCont
     refine two_ (i := 1) (j := 3) (Ni := some 40) (Nj := some 42) laws_FnBytes.m11 laws_FnBytes.m12 rfl rfl rfl rfl (two_of HT_.out (by kernel_rfl)) (by decide) (by decide) (fun K hK => ?_) (fun K hK => ?_)
     ·
      skip
      have hcv25 := own_string (P := Try.prog) Try.underlying61 Try.underlying5 Try.underlying9 (Kd.own_of_R HO283.out)
      refine value_ (w1 := ?_) (v := ?_) (by rfl) rfl ?_ ?_
      rotate_left 2
      ·
       go_simp
       constructor
       ·
        rfl
       ·
        rfl
      clear hcv25
      refine hK.out _ _ trivial (fun hHeld => ?_)
      clear hK K
      refine nm_ ?_
      refine on_ 3 42 HT_ laws_FnBytes.m9 rfl rfl (fun K hK => ?_)
      refine goes_ Try.func38 (by kernel_rfl) rfl #[.int .i64 t280] (by rfl) rfl rfl sm_ ?_
      with_reducible refine (spec_PutNum.calls k t280 t288 _ A13.out).mono ?_
      rintro e w26 ⟨v289, rfl, ho0, hb⟩
      refine ⟨_, rfl, ?_⟩
      have HO290 := Aside0.mk (Kd.R_lower (Kd.R_new' (Kd.R_new' ho0 (Kd.R_lt (rq_ HO283.out))) (Kd.R_lt (rq_ HO287.out))) (below_size (hb_ HB.out)))
      replace HO283 := Aside0.mk (Kd.R_elder' (rq_ HO283.out) (Kd.R_base ho0) hb)
      replace HO287 := Aside0.mk (Kd.R_elder' (rq_ HO287.out) (Kd.R_base ho0) hb)
      replace HB := ch_ HB hb
      (try clear hb); (try clear hb2); (try clear hk); (try clear hi); (try clear ho0)
      refine hK.out _ _ trivial (fun hHeld => ?_)
      clear hK K
      refine nm_ ?_
      refine on_ 4 43 HT_ laws_FnBytes.m13 rfl rfl (fun K hK => ?_)
      have hcv27 := own_string (P := Try.prog) Try.underlying61 Try.underlying5 Try.underlying9 (Kd.own_of_R HO290.out)
      refine value_ (w1 := ?_) (v := ?_) (by rfl) rfl ?_ ?_
      rotate_left 2
      ·
       go_simp
       constructor
       ·
        rfl
       ·
        rfl
      clear hcv27
      refine hK.out _ _ trivial (fun hHeld => ?_)
      clear hK K
      refine nm_ ?_
      exact norm_ (qc4_) (hCont (v289) _ ⟨(rm_ HO283.out), (rm_ HO287.out), (rm_ HO290.out), (hb_ HB.out)⟩)
     ·
      as_aux_lemma =>
      skip
      refine goes_ Try.func38 (by kernel_rfl) rfl #[.int .i64 t280] (by rfl) rfl rfl sm_ ?_
      with_reducible refine (spec_PutNum.calls k t280 t288 _ A13.out).mono ?_
      rintro e w25 ⟨v289, rfl, ho0, hb⟩
      refine ⟨_, rfl, ?_⟩
      have HO290 := Aside0.mk (Kd.R_lower (Kd.R_new' (Kd.R_new' ho0 (Kd.R_lt (rq_ HO283.out))) (Kd.R_lt (rq_ HO287.out))) (below_size (hb_ HB.out)))
      replace HO283 := Aside0.mk (Kd.R_elder' (rq_ HO283.out) (Kd.R_base ho0) hb)
      replace HO287 := Aside0.mk (Kd.R_elder' (rq_ HO287.out) (Kd.R_base ho0) hb)
      replace HB := ch_ HB hb
      (try clear hb); (try clear hb2); (try clear hk); (try clear hi); (try clear ho0)
      refine hK.out _ _ trivial (fun hHeld => ?_)
      clear hK K
      refine nm_ ?_
      refine two_ (i := 1) (j := 4) (Ni := some 40) (Nj := some 43) laws_FnBytes.m9 laws_FnBytes.m10 rfl rfl rfl rfl (two_of HT_.out (by kernel_rfl)) (by decide) (by decide) (fun K hK => ?_) (fun K hK => ?_)
      ·
       skip
       have hcv26 := own_string (P := Try.prog) Try.underlying61 Try.underlying5 Try.underlying9 (Kd.own_of_R HO283.out)
       refine value_ (w1 := ?_) (v := ?_) (by rfl) rfl ?_ ?_
       rotate_left 2
       ·
        go_simp
        constructor
        ·
         rfl
        ·
         rfl
       clear hcv26
       refine hK.out _ _ trivial (fun hHeld => ?_)
       clear hK K
       refine nm_ ?_
       refine on_ 4 43 HT_ laws_FnBytes.m13 rfl rfl (fun K hK => ?_)
       have hcv27 := own_string (P := Try.prog) Try.underlying61 Try.underlying5 Try.underlying9 (Kd.own_of_R HO290.out)
       refine value_ (w1 := ?_) (v := ?_) (by rfl) rfl ?_ ?_
       rotate_left 2
       ·
        go_simp
        constructor
        ·
         rfl
        ·
         rfl
       clear hcv27
       refine hK.out _ _ trivial (fun hHeld => ?_)
       clear hK K
       refine nm_ ?_
       exact norm_ (qc4_) (hCont (v289) _ ⟨(rm_ HO283.out), (rm_ HO287.out), (rm_ HO290.out), (hb_ HB.out)⟩)
      ·
       skip
       have hcv26 := own_string (P := Try.prog) Try.underlying61 Try.underlying5 Try.underlying9 (Kd.own_of_R HO290.out)
       refine value_ (w1 := ?_) (v := ?_) (by rfl) rfl ?_ ?_
       rotate_left 2
       ·
        go_simp
        constructor
        ·
         rfl
        ·
         rfl
       clear hcv26
       refine hK.out _ _ trivial (fun hHeld => ?_)
       clear hK K
       refine nm_ ?_
       refine on_ 1 40 HT_ laws_FnBytes.m13 rfl rfl (fun K hK => ?_)
       have hcv27 := own_string (P := Try.prog) Try.underlying61 Try.underlying5 Try.underlying9 (Kd.own_of_R HO283.out)
       refine value_ (w1 := ?_) (v := ?_) (by rfl) rfl ?_ ?_
       rotate_left 2
       ·
        go_simp
        constructor
        ·
         rfl
        ·
         rfl
       clear hcv27
       refine hK.out _ _ trivial (fun hHeld => ?_)
       clear hK K
       refine nm_ ?_
       exact norm_ (qc4_) (hCont (v289) _ ⟨(rm_ HO283.out), (rm_ HO287.out), (rm_ HO290.out), (hb_ HB.out)⟩)
    rintro v289 w28 ⟨h0_, h1_, h2_, h3_⟩
    have n0_ : Aside0 (Kd.R (Kd.int .u8) 5 w28 w.heap.size (fun k_ => some k_ ≠ (v286 : Value).ownBlock ∧ some k_ ≠ (v289 : Value).ownBlock) v282 t281) := ⟨h0_⟩
    have n1_ : Aside0 (Kd.R (Kd.int .u8) 5 w28 w.heap.size (fun k_ => some k_ ≠ (v282 : Value).ownBlock ∧ some k_ ≠ (v289 : Value).ownBlock) v286 t285) := ⟨h1_⟩
    have n2_ : Aside0 (Kd.R (Kd.int .u8) 5 w28 w.heap.size (fun k_ => some k_ ≠ (v282 : Value).ownBlock ∧ some k_ ≠ (v286 : Value).ownBlock) v289 t288) := ⟨h2_⟩
    have n3_ : Aside0 (Below w.heap.size w w28) := ⟨h3_⟩
    clear HO283
    clear HO287
    clear HB
    clear h0_ h1_ h2_ h3_
    have HO283 := n0_
    have HO287 := n1_
    have HO290 := n2_
    have HB := n3_
    clear n0_ n1_ n2_ n3_
    have hHeld := trivial
    refine norm_ (a' := ?_) ?_ ?_
    rotate_left; (focus simp only [putAll, Act.put, List.setIfInBounds_toArray, List.set_cons_zero, List.set_cons_succ]; rfl)
    refine pI_ 5 44 HT_ laws_FnBytes.m14 rfl rfl ?_
    refine pI_ 6 45 HT_ laws_FnBytes.m15 rfl rfl ?_
    refine pU_ 7 46 HT_ laws_FnBytes.m16 rfl rfl ?_
    refine pU_ 8 47 HT_ #[true, true, true, true, true, true, true, true, true, false, false, false, false, false] rfl rfl ?_
    refine pU_ 9 48 HT_ laws_FnBytes.m6 rfl rfl ?_
    refine pU_ 10 49 HT_ laws_FnBytes.m4 rfl rfl ?_
    refine pU_ 11 50 HT_ laws_FnBytes.m3 rfl rfl ?_
    refine pU_ 12 51 HT_ laws_FnBytes.m17 rfl rfl ?_
    refine pI_ 13 52 HT_ laws_FnBytes.m18 rfl rfl ?_
    refine done_ (done_of HT_.out (by kernel_rfl)) ?_
    try go_wp2
    go_meet
    case rel => exact ⟨_, (true), (qc5_), H', ⟨by first | omega | exact Nat.le_refl _⟩, ⟨rm_ HO283.out⟩, ⟨rm_ HO287.out⟩, ⟨hb_ HB.out⟩⟩
  case rest =>
   as_aux_lemma =>
   clear HC8
   (try clear c3)
   obtain ⟨kq, x52_7, rfl, HA, HJ7, HO_4, HO_6, HB⟩ := hcut
   cases kq with
   | zero => exact absurd HA.out (by simp [laws_FnBytes.j0])
   | succ kj7 =>
    have H := HA.out
    clear HA
    simp only [laws_FnBytes.j0] at H
    by_cases c29 : x52_7 = true
    ·
     subst c29
     have H1 : (some false) = some r := by rw [if_pos rfl] at H; exact H
     clear H
     have H := H1
     clear H1
     obtain rfl := Option.some.inj H
     go_wp2
     go_ret
     exact ⟨er_, hb_ HB.out⟩
    ·
     as_aux_lemma =>
     replace c29 := Bool.eq_false_iff.mpr c29
     subst c29
     have H1 : ((impl_GetNum.f kj7 t281 0).bind fun bt294 => ((impl_GetText.f kj7 t285 0).bind fun bt297 => (if (t281.length : Int) > 0 then (if bt294.2.2 = true then (if bt294.1 = t280 then (if bt294.2.1 = (t281.length : Int) then (if bt297.2.2 = true then (if bt297.1.toList = t284.toList then (laws_FnBytes.j1 kj7 l0 (bt297.2.1 != (t285.length : Int))) else (laws_FnBytes.j1 kj7 l0 true)) else (laws_FnBytes.j1 kj7 l0 true)) else (laws_FnBytes.j1 kj7 l0 true)) else (laws_FnBytes.j1 kj7 l0 true)) else (laws_FnBytes.j1 kj7 l0 true)) else (if bt297.2.2 = true then (if bt297.1.toList = t284.toList then (laws_FnBytes.j1 kj7 l0 (bt297.2.1 != (t285.length : Int))) else (laws_FnBytes.j1 kj7 l0 true)) else (laws_FnBytes.j1 kj7 l0 true))))) = some r := by rw [if_neg (show ¬ (false = true) by decide)] at H; exact H
     clear H
     have H := H1
     clear H1
     replace H := Option.bind_eq_some_iff.mp H
     obtain ⟨⟨t294, t295, t296⟩, A300, H⟩ := H
     replace H : ((impl_GetText.f kj7 t285 0).bind fun bt297 => (if (t281.length : Int) > 0 then (if t296 = true then (if t294 = t280 then (if t295 = (t281.length : Int) then (if bt297.2.2 = true then (if bt297.1.toList = t284.toList then (laws_FnBytes.j1 kj7 l0 (bt297.2.1 != (t285.length : Int))) else (laws_FnBytes.j1 kj7 l0 true)) else (laws_FnBytes.j1 kj7 l0 true)) else (laws_FnBytes.j1 kj7 l0 true)) else (laws_FnBytes.j1 kj7 l0 true)) else (laws_FnBytes.j1 kj7 l0 true)) else (if bt297.2.2 = true then (if bt297.1.toList = t284.toList then (laws_FnBytes.j1 kj7 l0 (bt297.2.1 != (t285.length : Int))) else (laws_FnBytes.j1 kj7 l0 true)) else (laws_FnBytes.j1 kj7 l0 true)))) = some r := H
     have A30 := Aside0.mk A300
     clear A300
     replace H := Option.bind_eq_some_iff.mp H
     obtain ⟨⟨t297, t298, t299⟩, A310, H⟩ := H
     replace H : (if (t281.length : Int) > 0 then (if t296 = true then (if t294 = t280 then (if t295 = (t281.length : Int) then (if t299 = true then (if t297.toList = t284.toList then (laws_FnBytes.j1 kj7 l0 (t298 != (t285.length : Int))) else (laws_FnBytes.j1 kj7 l0 true)) else (laws_FnBytes.j1 kj7 l0 true)) else (laws_FnBytes.j1 kj7 l0 true)) else (laws_FnBytes.j1 kj7 l0 true)) else (laws_FnBytes.j1 kj7 l0 true)) else (if t299 = true then (if t297.toList = t284.toList then (laws_FnBytes.j1 kj7 l0 (t298 != (t285.length : Int))) else (laws_FnBytes.j1 kj7 l0 true)) else (laws_FnBytes.j1 kj7 l0 true))) = some r := H
     have A31 := Aside0.mk A310
     clear A310
     have HC32 := Aside0.mk H
     clear H
     obtain ⟨Ao33, co33, eo33⟩ := Kd.R_slice HO_4.out
     subst eo33
     go_upto_region 11 with (first | ((with_reducible refine gate_callee (f := 40) rfl ?_); refine goesL_ (some 55) rfl rfl Try.func40 (by kernel_rfl) rfl #[.slice Ao33 t281.length co33, .int .i64 0] rfl sm_ ?_; (with_reducible refine (impl_GetNum.calls kj7 _ _ t281 0 t294 t295 t296 _ ?side1 ?side2 A30.out).mono ?_); (case side1 => repeat (first | exact (Kd.R_reads' HO_4.out).2.2 | (with_reducible refine Kd.C_alloc ?_ _) | (with_reducible refine Kd.C_drewN ?_ _) | (with_reducible refine Kd.C_drew ?_))); (case side2 => exact (Kd.R_reads' HO_4.out).2.1); rintro e w' ⟨rfl, ⟨nd, rfl⟩⟩; refine ⟨_, rfl, ?_⟩; obtain ⟨Ao34, co34, eo34⟩ := Kd.R_slice HO_6.out; subst eo34) | ((with_reducible refine gate_callee (f := 41) rfl ?_); refine goesL_ (some 61) rfl rfl Try.func41 (by kernel_rfl) rfl #[.slice Ao34 t285.length co34, .int .i64 0] rfl sm_ ?_; (with_reducible refine (impl_GetText.calls kj7 _ _ t285 0 t297 t298 t299 _ ?side1 ?side2 A31.out).mono ?_); (case side1 => repeat (first | exact (Kd.R_reads' HO_6.out).2.2 | (with_reducible refine Kd.C_alloc ?_ _) | (with_reducible refine Kd.C_drewN ?_ _) | (with_reducible refine Kd.C_drew ?_))); (case side2 => exact (Kd.R_reads' HO_6.out).2.1); rintro e w' ⟨rfl, ⟨nd, rfl⟩⟩; refine ⟨_, rfl, ?_⟩))
     (try simp only [Act.put, List.setIfInBounds_toArray, List.set_cons_zero, List.set_cons_succ])
     go_cut [97] (fun v97 wc => ∃ (kq : Nat) (x97_31 : Bool), v97 = .bool x97_31 ∧ Aside0 (laws_FnBytes.j1 kq l0 x97_31 = some r) ∧ Aside0 (kq ≤ kj7) ∧ Aside0 (Below w.heap.size w wc))
     case first =>
      as_aux_lemma =>
      have H := HC32.out
      clear HC32
      by_cases c35 : (t281.length : Int) > 0
      ·
       as_aux_lemma =>
       rw [if_pos c35] at H
       have c35b0 : decide (0 < (t281.length : Int)) = true := decide_eq_true c35
       have c35b1 : decide (0 < t281.length) = true := decide_eq_true (by omega)
       clear c35
       (first | rw [c35b0] | (simp only [i64_w, i32_w]; rw [c35b0]) | rw [c35b4] | rw [c35b3] | skip)
       by_cases c36 : t296 = true
       ·
        subst c36
        have H1 : (if t294 = t280 then (if t295 = (t281.length : Int) then (if t299 = true then (if t297.toList = t284.toList then (laws_FnBytes.j1 kj7 l0 (t298 != (t285.length : Int))) else (laws_FnBytes.j1 kj7 l0 true)) else (laws_FnBytes.j1 kj7 l0 true)) else (laws_FnBytes.j1 kj7 l0 true)) else (laws_FnBytes.j1 kj7 l0 true)) = some r := by rw [if_pos rfl] at H; exact H
        clear H
        have H := H1
        clear H1
        by_cases c37 : t294 = t280
        ·
         rw [if_pos c37] at H
         have c37b0 : (t294 == t280) = true := beq_iff_eq.mpr c37
         have c37b1 : (t294 != t280) = false := bne_eq_false_iff_eq.mpr c37
         clear c37
         by_cases c38 : t295 = (t281.length : Int)
         ·
          rw [if_pos c38] at H
          have c38b0 : (t295 == (t281.length : Int)) = true := beq_iff_eq.mpr c38
          have c38b1 : (t295 != (t281.length : Int)) = false := bne_eq_false_iff_eq.mpr c38
          clear c38
          by_cases c39 : t299 = true
          ·
           subst c39
           have H1 : (if t297.toList = t284.toList then (laws_FnBytes.j1 kj7 l0 (t298 != (t285.length : Int))) else (laws_FnBytes.j1 kj7 l0 true)) = some r := by rw [if_pos rfl] at H; exact H
           clear H
           have H := H1
           clear H1
           by_cases c40 : t297.toList = t284.toList
           ·
            rw [if_pos c40] at H
            have c40b0 : (t297.toList == t284.toList) = true := beq_iff_eq.mpr c40
            have c40b1 : (t297.toList != t284.toList) = false := bne_eq_false_iff_eq.mpr c40
            clear c40
            have H' := Aside0.mk H
            clear H
            go_wp2
            go_meet
            case rel => exact ⟨_, ((t298 != (t285.length : Int))), (qc5_), H', ⟨qc6_⟩, ⟨hb_ HB.out⟩⟩
           ·
            rw [if_neg c40] at H
            have c40b0 : (t297.toList == t284.toList) = false := beq_eq_false_iff_ne.mpr c40
            have c40b1 : (t297.toList != t284.toList) = true := bne_iff_ne.mpr c40
            have H' := Aside0.mk H
            clear H
            go_wp2
            go_meet
            case rel => exact ⟨_, (true), (qc5_), H', ⟨qc6_⟩, ⟨hb_ HB.out⟩⟩
          ·
           replace c39 := Bool.eq_false_iff.mpr c39
           subst c39
           have H1 : (laws_FnBytes.j1 kj7 l0 true) = some r := by rw [if_neg (show ¬ (false = true) by decide)] at H; exact H
           clear H
           have H := H1
           clear H1
           have H' := Aside0.mk H
           clear H
           go_wp2
           go_meet
           case rel => exact ⟨_, (true), (qc5_), H', ⟨qc6_⟩, ⟨hb_ HB.out⟩⟩
         ·
          rw [if_neg c38] at H
          have c38b0 : (t295 == (t281.length : Int)) = false := beq_eq_false_iff_ne.mpr c38
          have c38b1 : (t295 != (t281.length : Int)) = true := bne_iff_ne.mpr c38
          have H' := Aside0.mk H
          clear H
          go_wp2
          go_meet
          case rel => exact ⟨_, (true), (qc5_), H', ⟨qc6_⟩, ⟨hb_ HB.out⟩⟩
        ·
         rw [if_neg c37] at H
         have c37b0 : (t294 == t280) = false := beq_eq_false_iff_ne.mpr c37
         have c37b1 : (t294 != t280) = true := bne_iff_ne.mpr c37
         have H' := Aside0.mk H
         clear H
         go_wp2
         go_meet
         case rel => exact ⟨_, (true), (qc5_), H', ⟨qc6_⟩, ⟨hb_ HB.out⟩⟩
       ·
        replace c36 := Bool.eq_false_iff.mpr c36
        subst c36
        have H1 : (laws_FnBytes.j1 kj7 l0 true) = some r := by rw [if_neg (show ¬ (false = true) by decide)] at H; exact H
        clear H
        have H := H1
        clear H1
        have H' := Aside0.mk H
        clear H
        go_wp2
        go_meet
        case rel => exact ⟨_, (true), (qc5_), H', ⟨qc6_⟩, ⟨hb_ HB.out⟩⟩
      ·
       rw [if_neg c35] at H
       have c35b0 : decide (0 < (t281.length : Int)) = false := decide_eq_false c35
       have c35b1 : decide (0 < t281.length) = false := decide_eq_false (by omega)
       clear c35
       (first | rw [c35b0] | (simp only [i64_w, i32_w]; rw [c35b0]) | rw [c35b4] | rw [c35b3] | skip)
       by_cases c41 : t299 = true
       ·
        subst c41
        have H1 : (if t297.toList = t284.toList then (laws_FnBytes.j1 kj7 l0 (t298 != (t285.length : Int))) else (laws_FnBytes.j1 kj7 l0 true)) = some r := by rw [if_pos rfl] at H; exact H
        clear H
        have H := H1
        clear H1
        by_cases c42 : t297.toList = t284.toList
        ·
         rw [if_pos c42] at H
         have c42b0 : (t297.toList == t284.toList) = true := beq_iff_eq.mpr c42
         have c42b1 : (t297.toList != t284.toList) = false := bne_eq_false_iff_eq.mpr c42
         clear c42
         have H' := Aside0.mk H
         clear H
         go_wp2
         go_meet
         case rel => exact ⟨_, ((t298 != (t285.length : Int))), (qc5_), H', ⟨qc6_⟩, ⟨hb_ HB.out⟩⟩
        ·
         rw [if_neg c42] at H
         have c42b0 : (t297.toList == t284.toList) = false := beq_eq_false_iff_ne.mpr c42
         have c42b1 : (t297.toList != t284.toList) = true := bne_iff_ne.mpr c42
         have H' := Aside0.mk H
         clear H
         go_wp2
         go_meet
         case rel => exact ⟨_, (true), (qc5_), H', ⟨qc6_⟩, ⟨hb_ HB.out⟩⟩
       ·
        replace c41 := Bool.eq_false_iff.mpr c41
        subst c41
        have H1 : (laws_FnBytes.j1 kj7 l0 true) = some r := by rw [if_neg (show ¬ (false = true) by decide)] at H; exact H
        clear H
        have H := H1
        clear H1
        have H' := Aside0.mk H
        clear H
        go_wp2
        go_meet
        case rel => exact ⟨_, (true), (qc5_), H', ⟨qc6_⟩, ⟨hb_ HB.out⟩⟩
     case rest =>
      as_aux_lemma =>
      clear HC32
      (try clear c29)
      obtain ⟨kq, x97_31, rfl, HA, HJ31, HB⟩ := hcut
      cases kq with
      | zero => exact absurd HA.out (by simp [laws_FnBytes.j1])
      | succ kj31 =>
       have H := HA.out
       clear HA
       simp only [laws_FnBytes.j1] at H
       by_cases c43 : x97_31 = true
       ·
        subst c43
        have H1 : (some false) = some r := by rw [if_pos rfl] at H; exact H
        clear H
        have H := H1
        clear H1
        obtain rfl := Option.some.inj H
        go_wp2
        go_ret
        exact ⟨er_, hb_ HB.out⟩
       ·
        as_aux_lemma =>
        replace c43 := Bool.eq_false_iff.mpr c43
        subst c43
        have H1 : ((spec_DrawGetNum.f kj31 l0).bind fun bt300 => ((impl_GetNum.f kj31 bt300.1 bt300.2).bind fun bt304 => ((spec_GetNum.f kj31 bt300.1 bt300.2).bind fun bt307 => ((spec_DrawGetText.f kj31 l0).bind fun bt310 => ((impl_GetText.f kj31 bt310.1 bt310.2).bind fun bt314 => ((spec_GetText.f kj31 bt310.1 bt310.2).bind fun bt317 => (if (bt304.2.2 != bt307.2.2) = true then (laws_FnBytes.j2 kj31 bt300.1 bt300.2 bt304.1 bt304.2.1 bt304.2.2 bt310.1 bt310.2 bt314.1 bt314.2.1 bt314.2.2 true) else (if bt304.2.1 = bt307.2.1 then (if (bt314.2.2 != bt317.2.2) = true then (laws_FnBytes.j2 kj31 bt300.1 bt300.2 bt304.1 bt304.2.1 bt304.2.2 bt310.1 bt310.2 bt314.1 bt314.2.1 bt314.2.2 true) else (laws_FnBytes.j2 kj31 bt300.1 bt300.2 bt304.1 bt304.2.1 bt304.2.2 bt310.1 bt310.2 bt314.1 bt314.2.1 bt314.2.2 (bt314.2.1 != bt317.2.1))) else (laws_FnBytes.j2 kj31 bt300.1 bt300.2 bt304.1 bt304.2.1 bt304.2.2 bt310.1 bt310.2 bt314.1 bt314.2.1 bt314.2.2 true))))))))) = some r := by rw [if_neg (show ¬ (false = true) by decide)] at H; exact H
        clear H
        have H := H1
        clear H1
        replace H := Option.bind_eq_some_iff.mp H
        obtain ⟨⟨t300, t301⟩, A440, H⟩ := H
        replace H : ((impl_GetNum.f kj31 t300 t301).bind fun bt304 => ((spec_GetNum.f kj31 t300 t301).bind fun bt307 => ((spec_DrawGetText.f kj31 l0).bind fun bt310 => ((impl_GetText.f kj31 bt310.1 bt310.2).bind fun bt314 => ((spec_GetText.f kj31 bt310.1 bt310.2).bind fun bt317 => (if (bt304.2.2 != bt307.2.2) = true then (laws_FnBytes.j2 kj31 t300 t301 bt304.1 bt304.2.1 bt304.2.2 bt310.1 bt310.2 bt314.1 bt314.2.1 bt314.2.2 true) else (if bt304.2.1 = bt307.2.1 then (if (bt314.2.2 != bt317.2.2) = true then (laws_FnBytes.j2 kj31 t300 t301 bt304.1 bt304.2.1 bt304.2.2 bt310.1 bt310.2 bt314.1 bt314.2.1 bt314.2.2 true) else (laws_FnBytes.j2 kj31 t300 t301 bt304.1 bt304.2.1 bt304.2.2 bt310.1 bt310.2 bt314.1 bt314.2.1 bt314.2.2 (bt314.2.1 != bt317.2.1))) else (laws_FnBytes.j2 kj31 t300 t301 bt304.1 bt304.2.1 bt304.2.2 bt310.1 bt310.2 bt314.1 bt314.2.1 bt314.2.2 true)))))))) = some r := H
        have A44 := Aside0.mk A440
        clear A440
        replace H := Option.bind_eq_some_iff.mp H
        obtain ⟨⟨t304, t305, t306⟩, A450, H⟩ := H
        replace H : ((spec_GetNum.f kj31 t300 t301).bind fun bt307 => ((spec_DrawGetText.f kj31 l0).bind fun bt310 => ((impl_GetText.f kj31 bt310.1 bt310.2).bind fun bt314 => ((spec_GetText.f kj31 bt310.1 bt310.2).bind fun bt317 => (if (t306 != bt307.2.2) = true then (laws_FnBytes.j2 kj31 t300 t301 t304 t305 t306 bt310.1 bt310.2 bt314.1 bt314.2.1 bt314.2.2 true) else (if t305 = bt307.2.1 then (if (bt314.2.2 != bt317.2.2) = true then (laws_FnBytes.j2 kj31 t300 t301 t304 t305 t306 bt310.1 bt310.2 bt314.1 bt314.2.1 bt314.2.2 true) else (laws_FnBytes.j2 kj31 t300 t301 t304 t305 t306 bt310.1 bt310.2 bt314.1 bt314.2.1 bt314.2.2 (bt314.2.1 != bt317.2.1))) else (laws_FnBytes.j2 kj31 t300 t301 t304 t305 t306 bt310.1 bt310.2 bt314.1 bt314.2.1 bt314.2.2 true))))))) = some r := H
        have A45 := Aside0.mk A450
        clear A450
        replace H := Option.bind_eq_some_iff.mp H
        obtain ⟨⟨t307, t308, t309⟩, A460, H⟩ := H
        replace H : ((spec_DrawGetText.f kj31 l0).bind fun bt310 => ((impl_GetText.f kj31 bt310.1 bt310.2).bind fun bt314 => ((spec_GetText.f kj31 bt310.1 bt310.2).bind fun bt317 => (if (t306 != t309) = true then (laws_FnBytes.j2 kj31 t300 t301 t304 t305 t306 bt310.1 bt310.2 bt314.1 bt314.2.1 bt314.2.2 true) else (if t305 = t308 then (if (bt314.2.2 != bt317.2.2) = true then (laws_FnBytes.j2 kj31 t300 t301 t304 t305 t306 bt310.1 bt310.2 bt314.1 bt314.2.1 bt314.2.2 true) else (laws_FnBytes.j2 kj31 t300 t301 t304 t305 t306 bt310.1 bt310.2 bt314.1 bt314.2.1 bt314.2.2 (bt314.2.1 != bt317.2.1))) else (laws_FnBytes.j2 kj31 t300 t301 t304 t305 t306 bt310.1 bt310.2 bt314.1 bt314.2.1 bt314.2.2 true)))))) = some r := H
        have A46 := Aside0.mk A460
        clear A460
        replace H := Option.bind_eq_some_iff.mp H
        obtain ⟨⟨t310, t311⟩, A470, H⟩ := H
        replace H : ((impl_GetText.f kj31 t310 t311).bind fun bt314 => ((spec_GetText.f kj31 t310 t311).bind fun bt317 => (if (t306 != t309) = true then (laws_FnBytes.j2 kj31 t300 t301 t304 t305 t306 t310 t311 bt314.1 bt314.2.1 bt314.2.2 true) else (if t305 = t308 then (if (bt314.2.2 != bt317.2.2) = true then (laws_FnBytes.j2 kj31 t300 t301 t304 t305 t306 t310 t311 bt314.1 bt314.2.1 bt314.2.2 true) else (laws_FnBytes.j2 kj31 t300 t301 t304 t305 t306 t310 t311 bt314.1 bt314.2.1 bt314.2.2 (bt314.2.1 != bt317.2.1))) else (laws_FnBytes.j2 kj31 t300 t301 t304 t305 t306 t310 t311 bt314.1 bt314.2.1 bt314.2.2 true))))) = some r := H
        have A47 := Aside0.mk A470
        clear A470
        replace H := Option.bind_eq_some_iff.mp H
        obtain ⟨⟨t314, t315, t316⟩, A480, H⟩ := H
        replace H : ((spec_GetText.f kj31 t310 t311).bind fun bt317 => (if (t306 != t309) = true then (laws_FnBytes.j2 kj31 t300 t301 t304 t305 t306 t310 t311 t314 t315 t316 true) else (if t305 = t308 then (if (t316 != bt317.2.2) = true then (laws_FnBytes.j2 kj31 t300 t301 t304 t305 t306 t310 t311 t314 t315 t316 true) else (laws_FnBytes.j2 kj31 t300 t301 t304 t305 t306 t310 t311 t314 t315 t316 (t315 != bt317.2.1))) else (laws_FnBytes.j2 kj31 t300 t301 t304 t305 t306 t310 t311 t314 t315 t316 true)))) = some r := H
        have A48 := Aside0.mk A480
        clear A480
        replace H := Option.bind_eq_some_iff.mp H
        obtain ⟨⟨t317, t318, t319⟩, A490, H⟩ := H
        replace H : (if (t306 != t309) = true then (laws_FnBytes.j2 kj31 t300 t301 t304 t305 t306 t310 t311 t314 t315 t316 true) else (if t305 = t308 then (if (t316 != t319) = true then (laws_FnBytes.j2 kj31 t300 t301 t304 t305 t306 t310 t311 t314 t315 t316 true) else (laws_FnBytes.j2 kj31 t300 t301 t304 t305 t306 t310 t311 t314 t315 t316 (t315 != t318))) else (laws_FnBytes.j2 kj31 t300 t301 t304 t305 t306 t310 t311 t314 t315 t316 true))) = some r := H
        have A49 := Aside0.mk A490
        clear A490
        have HC50 := Aside0.mk H
        clear H
        go_upto_region 19 with (first | ((with_reducible refine gate_callee (f := 42) rfl ?_); refine goesL_ (some 100) rfl rfl Try.func42 (by kernel_rfl) rfl #[.slice A0 l0.length c0] rfl sm_ ?_; (with_reducible refine (spec_DrawGetNum.calls kj31 _ _ l0 t300 t301 _ ?side1 ?side2 A44.out).mono ?_); (case side1 => repeat (first | exact (Kd.C_below HR0.out HB.out) | (with_reducible refine Kd.C_alloc ?_ _) | (with_reducible refine Kd.C_drewN ?_ _) | (with_reducible refine Kd.C_drew ?_))); (case side2 => exact HC0.out); rintro e w51 ⟨v302, rfl, ho0, hb⟩; refine ⟨_, rfl, ?_⟩; have HO303 := Aside0.mk (Kd.R_lower ho0 (below_size (hb_ HB.out))); replace HB := ch_ HB hb; (try clear hb); (try clear hb2); (try clear hk); (try clear hi); (try clear ho0); obtain ⟨Ao52, co52, eo52⟩ := Kd.R_slice HO303.out; subst eo52) | ((with_reducible refine gate_callee (f := 40) rfl ?_); refine goesL_ (some 106) rfl rfl Try.func40 (by kernel_rfl) rfl #[.slice Ao52 t300.length co52, .int .i64 t301] rfl sm_ ?_; (with_reducible refine (impl_GetNum.calls kj31 _ _ t300 t301 t304 t305 t306 _ ?side1 ?side2 A45.out).mono ?_); (case side1 => repeat (first | exact (Kd.R_reads' HO303.out).2.2 | (with_reducible refine Kd.C_alloc ?_ _) | (with_reducible refine Kd.C_drewN ?_ _) | (with_reducible refine Kd.C_drew ?_))); (case side2 => exact (Kd.R_reads' HO303.out).2.1); rintro e w' ⟨rfl, ⟨nd, rfl⟩⟩; refine ⟨_, rfl, ?_⟩) | ((with_reducible refine gate_callee (f := 43) rfl ?_); refine goesL_ (some 113) rfl rfl Try.func43 (by kernel_rfl) rfl #[.slice Ao52 t300.length co52, .int .i64 t301] rfl sm_ ?_; (with_reducible refine (spec_GetNum.calls kj31 _ _ t300 t301 t307 t308 t309 _ ?side1 ?side2 A46.out).mono ?_); (case side1 => repeat (first | exact (Kd.R_reads' HO303.out).2.2 | (with_reducible refine Kd.C_alloc ?_ _) | (with_reducible refine Kd.C_drewN ?_ _) | (with_reducible refine Kd.C_drew ?_))); (case side2 => exact (Kd.R_reads' HO303.out).2.1); rintro e w' ⟨rfl, ⟨nd, rfl⟩⟩; refine ⟨_, rfl, ?_⟩) | ((with_reducible refine gate_callee (f := 44) rfl ?_); refine goesL_ (some 119) rfl rfl Try.func44 (by kernel_rfl) rfl #[.slice A0 l0.length c0] rfl sm_ ?_; (with_reducible refine (spec_DrawGetText.calls kj31 _ _ l0 t310 t311 _ ?side1 ?side2 A47.out).mono ?_); (case side1 => repeat (first | exact (Kd.C_below HR0.out (hb_ HB.out)) | (with_reducible refine Kd.C_alloc ?_ _) | (with_reducible refine Kd.C_drewN ?_ _) | (with_reducible refine Kd.C_drew ?_))); (case side2 => exact HC0.out); rintro e w53 ⟨v312, rfl, ho0, hb⟩; refine ⟨_, rfl, ?_⟩; have HO313 := Aside0.mk (Kd.R_lower (Kd.R_new' ho0 (Kd.R_lt (rq_ HO303.out))) (below_size (hb_ HB.out))); replace HO303 := Aside0.mk (Kd.R_elder' (rq_ HO303.out) (Kd.R_base ho0) hb); replace HB := ch_ HB hb; (try clear hb); (try clear hb2); (try clear hk); (try clear hi); (try clear ho0); obtain ⟨Ao54, co54, eo54⟩ := Kd.R_slice HO313.out; subst eo54) | ((with_reducible refine gate_callee (f := 41) rfl ?_); refine goesL_ (some 125) rfl rfl Try.func41 (by kernel_rfl) rfl #[.slice Ao54 t310.length co54, .int .i64 t311] rfl sm_ ?_; (with_reducible refine (impl_GetText.calls kj31 _ _ t310 t311 t314 t315 t316 _ ?side1 ?side2 A48.out).mono ?_); (case side1 => repeat (first | exact (Kd.R_reads' HO313.out).2.2 | (with_reducible refine Kd.C_alloc ?_ _) | (with_reducible refine Kd.C_drewN ?_ _) | (with_reducible refine Kd.C_drew ?_))); (case side2 => exact (Kd.R_reads' HO313.out).2.1); rintro e w' ⟨rfl, ⟨nd, rfl⟩⟩; refine ⟨_, rfl, ?_⟩) | ((with_reducible refine gate_callee (f := 45) rfl ?_); refine goesL_ (some 132) rfl rfl Try.func45 (by kernel_rfl) rfl #[.slice Ao54 t310.length co54, .int .i64 t311] rfl sm_ ?_; (with_reducible refine (spec_GetText.calls kj31 _ _ t310 t311 t317 t318 t319 _ ?side1 ?side2 A49.out).mono ?_); (case side1 => repeat (first | exact (Kd.R_reads' HO313.out).2.2 | (with_reducible refine Kd.C_alloc ?_ _) | (with_reducible refine Kd.C_drewN ?_ _) | (with_reducible refine Kd.C_drew ?_))); (case side2 => exact (Kd.R_reads' HO313.out).2.1); rintro e w' ⟨rfl, ⟨nd, rfl⟩⟩; refine ⟨_, rfl, ?_⟩))
        (try simp only [Act.put, List.setIfInBounds_toArray, List.set_cons_zero, List.set_cons_succ])
        go_cut [153] (fun v153 wc => ∃ (kq : Nat) (x153_49 : Bool), v153 = .bool x153_49 ∧ Aside0 (laws_FnBytes.j2 kq t300 t301 t304 t305 t306 t310 t311 t314 t315 t316 x153_49 = some r) ∧ Aside0 (kq ≤ kj31) ∧ Aside0 (Kd.R (Kd.int .u8) 5 wc w.heap.size (fun k_ => some k_ ≠ ((.slice Ao54 t310.length co54) : Value).ownBlock) (.slice Ao52 t300.length co52) t300) ∧ Aside0 (Kd.R (Kd.int .u8) 5 wc w.heap.size (fun k_ => some k_ ≠ ((.slice Ao52 t300.length co52) : Value).ownBlock) (.slice Ao54 t310.length co54) t310) ∧ Aside0 (Below w.heap.size w wc))
        case first =>
         have H := HC50.out
         clear HC50
         by_cases c55 : (t306 != t309) = true
         ·
          rw [if_pos c55] at H
          have c55b0 : (t306 != t309) = true := c55
          (try (have c55b1 : decide (t306 = t309) = false := by simpa using c55))
          (try (have c55b2 : (t306 == t309) = false := by simpa using c55))
          (try (have c55b3 : ¬ (t306 = t309) := by simpa using c55))
          (try (have c55b4 : (!(t306 == t309)) = true := (show ∀ a b : Bool, (a != b) = true → (!(a == b)) = true by decide) _ _ c55))
          clear c55
          (first | rw [c55b0] | (simp only [i64_w, i32_w]; rw [c55b0]) | rw [c55b4] | rw [c55b3] | skip)
          have H' := Aside0.mk H
          clear H
          go_wp2
          go_meet
          case rel => exact ⟨_, (true), (qc5_), H', ⟨qc7_⟩, ⟨rm_ HO303.out⟩, ⟨rm_ HO313.out⟩, ⟨hb_ HB.out⟩⟩
         ·
          rw [if_neg c55] at H
          have c55b0 : (t306 != t309) = false := by simpa using c55
          (try (have c55b1 : decide (t306 = t309) = true := by simpa using c55))
          (try (have c55b2 : (t306 == t309) = true := by simpa using c55))
          (try (have c55b3 : (!(t306 == t309)) = false := (show ∀ a b : Bool, ¬ (a != b) = true → (!(a == b)) = false by decide) _ _ c55))
          clear c55
          (first | rw [c55b0] | (simp only [i64_w, i32_w]; rw [c55b0]) | rw [c55b4] | rw [c55b3] | skip)
          by_cases c56 : t305 = t308
          ·
           rw [if_pos c56] at H
           have c56b0 : (t305 == t308) = true := beq_iff_eq.mpr c56
           have c56b1 : (t305 != t308) = false := bne_eq_false_iff_eq.mpr c56
           clear c56
           by_cases c57 : (t316 != t319) = true
           ·
            rw [if_pos c57] at H
            have c57b0 : (t316 != t319) = true := c57
            (try (have c57b1 : decide (t316 = t319) = false := by simpa using c57))
            (try (have c57b2 : (t316 == t319) = false := by simpa using c57))
            (try (have c57b3 : ¬ (t316 = t319) := by simpa using c57))
            (try (have c57b4 : (!(t316 == t319)) = true := (show ∀ a b : Bool, (a != b) = true → (!(a == b)) = true by decide) _ _ c57))
            clear c57
            have H' := Aside0.mk H
            clear H
            go_wp2
            go_meet
            case rel => exact ⟨_, (true), (qc5_), H', ⟨qc7_⟩, ⟨rm_ HO303.out⟩, ⟨rm_ HO313.out⟩, ⟨hb_ HB.out⟩⟩
           ·
            rw [if_neg c57] at H
            have c57b0 : (t316 != t319) = false := by simpa using c57
            (try (have c57b1 : decide (t316 = t319) = true := by simpa using c57))
            (try (have c57b2 : (t316 == t319) = true := by simpa using c57))
            (try (have c57b3 : (!(t316 == t319)) = false := (show ∀ a b : Bool, ¬ (a != b) = true → (!(a == b)) = false by decide) _ _ c57))
            clear c57
            have H' := Aside0.mk H
            clear H
            go_wp2
            go_meet
            case rel => exact ⟨_, ((t315 != t318)), (qc5_), H', ⟨qc7_⟩, ⟨rm_ HO303.out⟩, ⟨rm_ HO313.out⟩, ⟨hb_ HB.out⟩⟩
          ·
           rw [if_neg c56] at H
           have c56b0 : (t305 == t308) = false := beq_eq_false_iff_ne.mpr c56
           have c56b1 : (t305 != t308) = true := bne_iff_ne.mpr c56
           have H' := Aside0.mk H
           clear H
           go_wp2
           go_meet
           case rel => exact ⟨_, (true), (qc5_), H', ⟨qc7_⟩, ⟨rm_ HO303.out⟩, ⟨rm_ HO313.out⟩, ⟨hb_ HB.out⟩⟩
        case rest =>
         as_aux_lemma =>
         clear HC50
         (try clear c43)
         obtain ⟨kq, x153_49, rfl, HA, HJ49, HO_13, HO_21, HB⟩ := hcut
         cases kq with
         | zero => exact absurd HA.out (by simp [laws_FnBytes.j2])
         | succ kj49 =>
          have H := HA.out
          clear HA
          simp only [laws_FnBytes.j2] at H
          by_cases c58 : x153_49 = true
          ·
           subst c58
           have H1 : (some false) = some r := by rw [if_pos rfl] at H; exact H
           clear H
           have H := H1
           clear H1
           obtain rfl := Option.some.inj H
           go_wp2
           go_ret
           exact ⟨er_, hb_ HB.out⟩
          ·
           as_aux_lemma =>
           replace c58 := Bool.eq_false_iff.mpr c58
           subst c58
           have H1 : (if t306 = true then ((impl_PutNum.f kj49 t304).bind fun t320 => (if 0 ≤ t301 then (if t301 ≤ t305 then (if t305 ≤ (t300.length : Int) then (if (strOfNums t320).toList = (strOfNums ((t300.take (t305 : Int).toNat).drop (t301 : Int).toNat)).toList then (if t316 = true then ((impl_PutText.f kj49 t314).bind fun t327 => (if 0 ≤ t311 then (if t311 ≤ t315 then (if t315 ≤ (t310.length : Int) then (some ((strOfNums t327).toList == (strOfNums ((t310.take (t315 : Int).toNat).drop (t311 : Int).toNat)).toList)) else (none)) else (none)) else (none))) else (some true)) else (some false)) else (none)) else (none)) else (none))) else (if t316 = true then ((impl_PutText.f kj49 t314).bind fun t334 => (if 0 ≤ t311 then (if t311 ≤ t315 then (if t315 ≤ (t310.length : Int) then (some ((strOfNums t334).toList == (strOfNums ((t310.take (t315 : Int).toNat).drop (t311 : Int).toNat)).toList)) else (none)) else (none)) else (none))) else (some true))) = some r := by rw [if_neg (show ¬ (false = true) by decide)] at H; exact H
           clear H
           have H := H1
           clear H1
           by_cases c59 : t306 = true
           ·
            as_aux_lemma =>
            subst c59
            have H1 : ((impl_PutNum.f kj49 t304).bind fun t320 => (if 0 ≤ t301 then (if t301 ≤ t305 then (if t305 ≤ (t300.length : Int) then (if (strOfNums t320).toList = (strOfNums ((t300.take (t305 : Int).toNat).drop (t301 : Int).toNat)).toList then (if t316 = true then ((impl_PutText.f kj49 t314).bind fun t327 => (if 0 ≤ t311 then (if t311 ≤ t315 then (if t315 ≤ (t310.length : Int) then (some ((strOfNums t327).toList == (strOfNums ((t310.take (t315 : Int).toNat).drop (t311 : Int).toNat)).toList)) else (none)) else (none)) else (none))) else (some true)) else (some false)) else (none)) else (none)) else (none))) = some r := by rw [if_pos rfl] at H; exact H
            clear H
            have H := H1
            clear H1
            replace H := Option.bind_eq_some_iff.mp H
            obtain ⟨t320, A600, H⟩ := H
            replace H : (if 0 ≤ t301 then (if t301 ≤ t305 then (if t305 ≤ (t300.length : Int) then (if (strOfNums t320).toList = (strOfNums ((t300.take (t305 : Int).toNat).drop (t301 : Int).toNat)).toList then (if t316 = true then ((impl_PutText.f kj49 t314).bind fun t327 => (if 0 ≤ t311 then (if t311 ≤ t315 then (if t315 ≤ (t310.length : Int) then (some ((strOfNums t327).toList == (strOfNums ((t310.take (t315 : Int).toNat).drop (t311 : Int).toNat)).toList)) else (none)) else (none)) else (none))) else (some true)) else (some false)) else (none)) else (none)) else (none)) = some r := H
            have A60 := Aside0.mk A600
            clear A600
            by_cases c61 : 0 ≤ t301
            ·
             as_aux_lemma =>
             rw [if_pos c61] at H
             have c61b0 := eq_true c61
             have c61b1 : decide (0 ≤ t301) = true := decide_eq_true c61
             clear c61
             by_cases c62 : t301 ≤ t305
             ·
              as_aux_lemma =>
              rw [if_pos c62] at H
              have c62b0 := eq_true c62
              have c62b1 : decide (t301 ≤ t305) = true := decide_eq_true c62
              clear c62
              by_cases c63 : t305 ≤ (t300.length : Int)
              ·
               as_aux_lemma =>
               rw [if_pos c63] at H
               have c63b0 := eq_true c63
               have c63b1 : decide (t305 ≤ (t300.length : Int)) = true := decide_eq_true c63
               clear c63
               obtain ⟨y323, hy323⟩ : ∃ y_ : List Int, y_ = ((t300.take (t305 : Int).toNat).drop (t301 : Int).toNat) := ⟨_, rfl⟩
               replace H : (if (strOfNums t320).toList = (strOfNums y323).toList then (if t316 = true then ((impl_PutText.f kj49 t314).bind fun t327 => (if 0 ≤ t311 then (if t311 ≤ t315 then (if t315 ≤ (t310.length : Int) then (some ((strOfNums t327).toList == (strOfNums ((t310.take (t315 : Int).toNat).drop (t311 : Int).toNat)).toList)) else (none)) else (none)) else (none))) else (some true)) else (some false)) = some r := by first | (rw [hy323]; with_reducible exact H) | (have H2_ := (Option.bind_some _ _).symm.trans H; rw [hy323]; with_reducible exact H2_) | (have H2_ := (Option.bind_some _ _).symm.trans H; with_reducible exact H2_) | with_reducible exact H | (rw [hy323]; exact H) | exact H
               have Ny323 := Aside0.mk hy323
               clear hy323
               by_cases c64 : (strOfNums t320).toList = (strOfNums y323).toList
               ·
                as_aux_lemma =>
                rw [if_pos c64] at H
                have c64b0 : ((strOfNums t320).toList == (strOfNums y323).toList) = true := beq_iff_eq.mpr c64
                have c64b1 : ((strOfNums t320).toList != (strOfNums y323).toList) = false := bne_eq_false_iff_eq.mpr c64
                clear c64
                by_cases c65 : t316 = true
                ·
                 as_aux_lemma =>
                 subst c65
                 have H1 : ((impl_PutText.f kj49 t314).bind fun t327 => (if 0 ≤ t311 then (if t311 ≤ t315 then (if t315 ≤ (t310.length : Int) then (some ((strOfNums t327).toList == (strOfNums ((t310.take (t315 : Int).toNat).drop (t311 : Int).toNat)).toList)) else (none)) else (none)) else (none))) = some r := by rw [if_pos rfl] at H; exact H
                 clear H
                 have H := H1
                 clear H1
                 replace H := Option.bind_eq_some_iff.mp H
                 obtain ⟨t327, A660, H⟩ := H
                 replace H : (if 0 ≤ t311 then (if t311 ≤ t315 then (if t315 ≤ (t310.length : Int) then (some ((strOfNums t327).toList == (strOfNums ((t310.take (t315 : Int).toNat).drop (t311 : Int).toNat)).toList)) else (none)) else (none)) else (none)) = some r := H
                 have A66 := Aside0.mk A660
                 clear A660
                 by_cases c67 : 0 ≤ t311
                 ·
                  as_aux_lemma =>
                  rw [if_pos c67] at H
                  have c67b0 := eq_true c67
                  have c67b1 : decide (0 ≤ t311) = true := decide_eq_true c67
                  clear c67
                  by_cases c68 : t311 ≤ t315
                  ·
                   as_aux_lemma =>
                   rw [if_pos c68] at H
                   have c68b0 := eq_true c68
                   have c68b1 : decide (t311 ≤ t315) = true := decide_eq_true c68
                   clear c68
                   by_cases c69 : t315 ≤ (t310.length : Int)
                   ·
                    as_aux_lemma =>
                    rw [if_pos c69] at H
                    have c69b0 := eq_true c69
                    have c69b1 : decide (t315 ≤ (t310.length : Int)) = true := decide_eq_true c69
                    clear c69
                    obtain ⟨y330, hy330⟩ : ∃ y_ : List Int, y_ = ((t310.take (t315 : Int).toNat).drop (t311 : Int).toNat) := ⟨_, rfl⟩
                    replace H : (some ((strOfNums t327).toList == (strOfNums y330).toList)) = some r := by first | (rw [hy330]; with_reducible exact H) | (have H2_ := (Option.bind_some _ _).symm.trans H; rw [hy330]; with_reducible exact H2_) | (have H2_ := (Option.bind_some _ _).symm.trans H; with_reducible exact H2_) | with_reducible exact H | (rw [hy330]; exact H) | exact H
                    have Ny330 := Aside0.mk hy330
                    clear hy330
                    obtain rfl := Option.some.inj H
                    try go_wp2
                    replace HO_13 := Aside0.mk (Kd.R_drew HO_13.out)
                    replace HO_21 := Aside0.mk (Kd.R_drew HO_21.out)
                    replace HB := Aside0.mk (below_drew1 HB.out)
                    have q71 : (t305 : Int) ≤ ((t300.length : Int) : Int) := of_decide_eq_true dt_
                    obtain ⟨i071, hi071, _, hsz71, _⟩ := info_parts info5
                    have hroom71 : t300.length ≤ co52 := (Kd.R_reads' HO_13.out).2.1
                    have hC71 : Kd.C (Kd.int .u8) _ Ao52 t300.length t300 := (Kd.R_reads' HO_13.out).2.2
                    have ql71 : (t301 : Int) ≤ (t305 : Int) := of_decide_eq_true dt_
                    have q071 : (0 : Int) ≤ (t301 : Int) := of_decide_eq_true dt_
                    have hcut71 := cut_mid (P := Try.prog) 61 5 .i64 .i64 Try.underlying61 hi071 1 hsz71 Ao52 t300.length co52 t301 t305 q071 ql71 q71 hroom71
                    have hr71 := Kd.C_mid (lo := (t301 : Int).toNat) (hi := (t305 : Int).toNat) (c := co52) hC71 (by omega) (by omega) hroom71
                    obtain ⟨A71, hA71⟩ : ∃ A1, A1 = (if co52 = (t301 : Int).toNat then Ao52 else (Ao52 : Option Addr).map (·.add ((t301 : Int).toNat * 1))) := ⟨_, rfl⟩
                    obtain ⟨c71, hc71⟩ : ∃ c1, c1 = co52 - (t301 : Int).toNat := ⟨_, rfl⟩
                    have hy71 : y323.length = (t305 : Int).toNat - (t301 : Int).toNat := (qc8_)
                    rw [show ((t300).take (t305 : Int).toNat).drop (t301 : Int).toNat = y323 from Ny323.out.symm] at hr71
                    replace hr71 : Kd.C (Kd.int .u8) _ A71 y323.length y323 := (by rw [hA71]; exact hr71)
                    rw [← hy71, ← hA71, ← hc71] at hcut71
                    have HR326 := Aside0.mk hr71
                    have HC326 := Aside0.mk (show y323.length ≤ c71 from by rw [hy71, hc71]; exact Nat.sub_le_sub_right (Nat.le_trans (by omega) hroom71) _)
                    clear hr71 hC71 hroom71 hi071 hsz71 hc71
                    have KY71 := Aside0.mk hy71
                    have KA71 := Aside0.mk hA71
                    clear hy71 hA71
                    have KL71 := Aside0.mk (show (t305 : Int).toNat ≤ t300.length from by omega)
                    have KM71 := Aside0.mk (show (t301 : Int).toNat ≤ (t305 : Int).toNat from by omega)
                    replace q71 := eq_true q71
                    have q72 : (t315 : Int) ≤ ((t310.length : Int) : Int) := of_decide_eq_true dt_
                    obtain ⟨i072, hi072, _, hsz72, _⟩ := info_parts info5
                    have hroom72 : t310.length ≤ co54 := (Kd.R_reads' HO_21.out).2.1
                    have hC72 : Kd.C (Kd.int .u8) _ Ao54 t310.length t310 := (Kd.R_reads' HO_21.out).2.2
                    have ql72 : (t311 : Int) ≤ (t315 : Int) := of_decide_eq_true dt_
                    have q072 : (0 : Int) ≤ (t311 : Int) := of_decide_eq_true dt_
                    have hcut72 := cut_mid (P := Try.prog) 61 5 .i64 .i64 Try.underlying61 hi072 1 hsz72 Ao54 t310.length co54 t311 t315 q072 ql72 q72 hroom72
                    have hr72 := Kd.C_mid (lo := (t311 : Int).toNat) (hi := (t315 : Int).toNat) (c := co54) hC72 (by omega) (by omega) hroom72
                    obtain ⟨A72, hA72⟩ : ∃ A1, A1 = (if co54 = (t311 : Int).toNat then Ao54 else (Ao54 : Option Addr).map (·.add ((t311 : Int).toNat * 1))) := ⟨_, rfl⟩
                    obtain ⟨c72, hc72⟩ : ∃ c1, c1 = co54 - (t311 : Int).toNat := ⟨_, rfl⟩
                    have hy72 : y330.length = (t315 : Int).toNat - (t311 : Int).toNat := (by rw [Ny330.out, List.length_drop, List.length_take] <;> omega)
                    rw [show ((t310).take (t315 : Int).toNat).drop (t311 : Int).toNat = y330 from Ny330.out.symm] at hr72
                    replace hr72 : Kd.C (Kd.int .u8) _ A72 y330.length y330 := (by rw [hA72]; exact hr72)
                    rw [← hy72, ← hA72, ← hc72] at hcut72
                    have HR333 := Aside0.mk hr72
                    have HC333 := Aside0.mk (show y330.length ≤ c72 from by rw [hy72, hc72]; exact Nat.sub_le_sub_right (Nat.le_trans (by omega) hroom72) _)
                    clear hr72 hC72 hroom72 hi072 hsz72 hc72
                    have KY72 := Aside0.mk hy72
                    have KA72 := Aside0.mk hA72
                    clear hy72 hA72
                    have KL72 := Aside0.mk (show (t315 : Int).toNat ≤ t310.length from by omega)
                    have KM72 := Aside0.mk (show (t311 : Int).toNat ≤ (t315 : Int).toNat from by omega)
                    replace q72 := eq_true q72
                    refine start_ (n := 29) (S := fun w' => True) (ds := []) laws_FnBytes.m19 (by kernel_rfl) rfl rfl trivial (fun hHeld => ?_); refine with_tabW laws_FnBytes.tab21 laws_FnBytes.bits21 (fun HT_ HW_ => ?_)
                    generalize wc.drew = w70 at HO_13 HO_21 HB HR326 HR333 hHeld ⊢
                    refine pI_ 0 154 HT_ laws_FnBytes.m20 rfl rfl ?_
                    refine pI_ 1 155 HT_ laws_FnBytes.m21 rfl rfl ?_
                    refine pI_ 2 156 HT_ laws_FnBytes.m22 rfl rfl ?_
                    refine pI_ 3 157 HT_ laws_FnBytes.m23 rfl rfl ?_
                    refine pI_ 6 160 HT_ laws_FnBytes.m24 rfl rfl ?_
                    refine pI_ 7 161 HT_ laws_FnBytes.m25 rfl rfl ?_
                    refine pI_ 8 162 HT_ laws_FnBytes.m26 rfl rfl ?_
                    refine pI_ 9 163 HT_ laws_FnBytes.m27 rfl rfl ?_
                    refine join_ (σ := Value × Value) 4 laws_FnBytes.m28 (fun s_ => [(158, s_.1), (159, .string (strOfNums t320)), (164, .string (strOfNums y323)), (172, s_.2), (173, .string (strOfNums t327)), (178, .string (strOfNums y330)), (165, .bool true), (166, .bool true), (167, .bool true), (168, .bool true), (169, .bool (!true)), (170, .bool (!true)), (171, .string t314), (174, .slice Ao54 t310.length co54), (175, .int .i64 t311), (176, .int .i64 t315), (177, .slice A72 y330.length c72)]) (fun s_ w' => (Kd.R (Kd.int .u8) 5 w' w.heap.size (fun k_ => some k_ ≠ (s_.2 : Value).ownBlock ∧ some k_ ≠ (.slice Ao52 t300.length co52 : Value).ownBlock ∧ some k_ ≠ (.slice Ao54 t310.length co54 : Value).ownBlock) s_.1 t320) ∧ (Kd.R (Kd.int .u8) 5 w' w.heap.size (fun k_ => some k_ ≠ (s_.1 : Value).ownBlock ∧ some k_ ≠ (.slice Ao52 t300.length co52 : Value).ownBlock ∧ some k_ ≠ (.slice Ao54 t310.length co54 : Value).ownBlock) s_.2 t327) ∧ (Kd.R (Kd.int .u8) 5 w' w.heap.size (fun k_ => some k_ ≠ (s_.1 : Value).ownBlock ∧ some k_ ≠ (s_.2 : Value).ownBlock ∧ some k_ ≠ (.slice Ao54 t310.length co54 : Value).ownBlock) (.slice Ao52 t300.length co52) t300) ∧ (Kd.R (Kd.int .u8) 5 w' w.heap.size (fun k_ => some k_ ≠ (s_.1 : Value).ownBlock ∧ some k_ ≠ (s_.2 : Value).ownBlock ∧ some k_ ≠ (.slice Ao52 t300.length co52 : Value).ownBlock) (.slice Ao54 t310.length co54) t310) ∧ (Kd.C (Kd.int .u8) w' A71 y323.length y323) ∧ (Kd.C (Kd.int .u8) w' A72 y330.length y330) ∧ (Below w.heap.size w w')) ?_ ?_
                    rotate_left
                    ·
                     as_aux_lemma =>
                     intro hJ4_5_10_18_19_24
                     refine join_ (σ := Value × Value) 5 laws_FnBytes.m29 (fun s_ => [(158, s_.1), (159, .string (strOfNums t320)), (164, .string (strOfNums y323)), (172, s_.2), (173, .string (strOfNums t327)), (165, .bool true), (166, .bool true), (167, .bool true), (168, .bool true), (169, .bool (!true)), (170, .bool (!true)), (171, .string t314), (174, .slice Ao54 t310.length co54), (175, .int .i64 t311), (176, .int .i64 t315), (177, .slice A72 y330.length c72)]) (fun s_ w' => (Kd.R (Kd.int .u8) 5 w' w.heap.size (fun k_ => some k_ ≠ (s_.2 : Value).ownBlock ∧ some k_ ≠ (.slice Ao52 t300.length co52 : Value).ownBlock ∧ some k_ ≠ (.slice Ao54 t310.length co54 : Value).ownBlock) s_.1 t320) ∧ (Kd.R (Kd.int .u8) 5 w' w.heap.size (fun k_ => some k_ ≠ (s_.1 : Value).ownBlock ∧ some k_ ≠ (.slice Ao52 t300.length co52 : Value).ownBlock ∧ some k_ ≠ (.slice Ao54 t310.length co54 : Value).ownBlock) s_.2 t327) ∧ (Kd.R (Kd.int .u8) 5 w' w.heap.size (fun k_ => some k_ ≠ (s_.1 : Value).ownBlock ∧ some k_ ≠ (s_.2 : Value).ownBlock ∧ some k_ ≠ (.slice Ao54 t310.length co54 : Value).ownBlock) (.slice Ao52 t300.length co52) t300) ∧ (Kd.R (Kd.int .u8) 5 w' w.heap.size (fun k_ => some k_ ≠ (s_.1 : Value).ownBlock ∧ some k_ ≠ (s_.2 : Value).ownBlock ∧ some k_ ≠ (.slice Ao52 t300.length co52 : Value).ownBlock) (.slice Ao54 t310.length co54) t310) ∧ (Kd.C (Kd.int .u8) w' A71 y323.length y323) ∧ (Kd.C (Kd.int .u8) w' A72 y330.length y330) ∧ (Below w.heap.size w w')) ?_ ?_
                     rotate_left
                     ·
                      as_aux_lemma =>
                      intro hJ4_5_10_18_19
                      refine join_ (σ := Value × Value) 5 laws_FnBytes.m30 (fun s_ => [(158, s_.1), (159, .string (strOfNums t320)), (164, .string (strOfNums y323)), (172, s_.2), (178, .string (strOfNums y330)), (165, .bool true), (166, .bool true), (167, .bool true), (168, .bool true), (169, .bool (!true)), (170, .bool (!true)), (171, .string t314), (174, .slice Ao54 t310.length co54), (175, .int .i64 t311), (176, .int .i64 t315), (177, .slice A72 y330.length c72)]) (fun s_ w' => (Kd.R (Kd.int .u8) 5 w' w.heap.size (fun k_ => some k_ ≠ (s_.2 : Value).ownBlock ∧ some k_ ≠ (.slice Ao52 t300.length co52 : Value).ownBlock ∧ some k_ ≠ (.slice Ao54 t310.length co54 : Value).ownBlock) s_.1 t320) ∧ (Kd.R (Kd.int .u8) 5 w' w.heap.size (fun k_ => some k_ ≠ (s_.1 : Value).ownBlock ∧ some k_ ≠ (.slice Ao52 t300.length co52 : Value).ownBlock ∧ some k_ ≠ (.slice Ao54 t310.length co54 : Value).ownBlock) s_.2 t327) ∧ (Kd.R (Kd.int .u8) 5 w' w.heap.size (fun k_ => some k_ ≠ (s_.1 : Value).ownBlock ∧ some k_ ≠ (s_.2 : Value).ownBlock ∧ some k_ ≠ (.slice Ao54 t310.length co54 : Value).ownBlock) (.slice Ao52 t300.length co52) t300) ∧ (Kd.R (Kd.int .u8) 5 w' w.heap.size (fun k_ => some k_ ≠ (s_.1 : Value).ownBlock ∧ some k_ ≠ (s_.2 : Value).ownBlock ∧ some k_ ≠ (.slice Ao52 t300.length co52 : Value).ownBlock) (.slice Ao54 t310.length co54) t310) ∧ (Kd.C (Kd.int .u8) w' A71 y323.length y323) ∧ (Kd.C (Kd.int .u8) w' A72 y330.length y330) ∧ (Below w.heap.size w w')) ?_ ?_
                      rotate_left
                      ·
                       as_aux_lemma =>
                       intro hJ4_5_10_18_24
                       refine join_ (σ := Value × Value) 6 laws_FnBytes.m31 (fun s_ => [(158, s_.1), (159, .string (strOfNums t320)), (164, .string (strOfNums y323)), (172, s_.2), (165, .bool true), (166, .bool true), (167, .bool true), (168, .bool true), (169, .bool (!true)), (170, .bool (!true)), (171, .string t314), (174, .slice Ao54 t310.length co54), (175, .int .i64 t311), (176, .int .i64 t315), (177, .slice A72 y330.length c72)]) (fun s_ w' => (Kd.R (Kd.int .u8) 5 w' w.heap.size (fun k_ => some k_ ≠ (s_.2 : Value).ownBlock ∧ some k_ ≠ (.slice Ao52 t300.length co52 : Value).ownBlock ∧ some k_ ≠ (.slice Ao54 t310.length co54 : Value).ownBlock) s_.1 t320) ∧ (Kd.R (Kd.int .u8) 5 w' w.heap.size (fun k_ => some k_ ≠ (s_.1 : Value).ownBlock ∧ some k_ ≠ (.slice Ao52 t300.length co52 : Value).ownBlock ∧ some k_ ≠ (.slice Ao54 t310.length co54 : Value).ownBlock) s_.2 t327) ∧ (Kd.R (Kd.int .u8) 5 w' w.heap.size (fun k_ => some k_ ≠ (s_.1 : Value).ownBlock ∧ some k_ ≠ (s_.2 : Value).ownBlock ∧ some k_ ≠ (.slice Ao54 t310.length co54 : Value).ownBlock) (.slice Ao52 t300.length co52) t300) ∧ (Kd.R (Kd.int .u8) 5 w' w.heap.size (fun k_ => some k_ ≠ (s_.1 : Value).ownBlock ∧ some k_ ≠ (s_.2 : Value).ownBlock ∧ some k_ ≠ (.slice Ao52 t300.length co52 : Value).ownBlock) (.slice Ao54 t310.length co54) t310) ∧ (Kd.C (Kd.int .u8) w' A71 y323.length y323) ∧ (Kd.C (Kd.int .u8) w' A72 y330.length y330) ∧ (Below w.heap.size w w')) ?_ ?_
                       rotate_left
                       ·
                        as_aux_lemma =>
                        intro hJ4_5_10_18
                        refine join_ (σ := Value) 6 laws_FnBytes.m32 (fun s_ => [(158, s_), (159, .string (strOfNums t320)), (164, .string (strOfNums y323)), (178, .string (strOfNums y330)), (165, .bool true), (166, .bool true), (167, .bool true), (168, .bool true), (169, .bool (!true)), (170, .bool (!true)), (171, .string t314), (174, .slice Ao54 t310.length co54), (175, .int .i64 t311), (176, .int .i64 t315), (177, .slice A72 y330.length c72)]) (fun s_ w' => (Kd.R (Kd.int .u8) 5 w' w.heap.size (fun k_ => some k_ ≠ (.slice Ao52 t300.length co52 : Value).ownBlock ∧ some k_ ≠ (.slice Ao54 t310.length co54 : Value).ownBlock) s_ t320) ∧ (Kd.R (Kd.int .u8) 5 w' w.heap.size (fun k_ => some k_ ≠ (s_ : Value).ownBlock ∧ some k_ ≠ (.slice Ao54 t310.length co54 : Value).ownBlock) (.slice Ao52 t300.length co52) t300) ∧ (Kd.R (Kd.int .u8) 5 w' w.heap.size (fun k_ => some k_ ≠ (s_ : Value).ownBlock ∧ some k_ ≠ (.slice Ao52 t300.length co52 : Value).ownBlock) (.slice Ao54 t310.length co54) t310) ∧ (Kd.C (Kd.int .u8) w' A71 y323.length y323) ∧ (Kd.C (Kd.int .u8) w' A72 y330.length y330) ∧ (Below w.heap.size w w')) ?_ ?_
                        rotate_left
                        ·
                         as_aux_lemma =>
                         intro hJ4_5_10_24
                         refine join_ (σ := Value) 7 laws_FnBytes.m33 (fun s_ => [(158, s_), (159, .string (strOfNums t320)), (164, .string (strOfNums y323)), (165, .bool true), (166, .bool true), (167, .bool true), (168, .bool true), (169, .bool (!true)), (170, .bool (!true)), (171, .string t314), (174, .slice Ao54 t310.length co54), (175, .int .i64 t311), (176, .int .i64 t315), (177, .slice A72 y330.length c72)]) (fun s_ w' => (Kd.R (Kd.int .u8) 5 w' w.heap.size (fun k_ => some k_ ≠ (.slice Ao52 t300.length co52 : Value).ownBlock ∧ some k_ ≠ (.slice Ao54 t310.length co54 : Value).ownBlock) s_ t320) ∧ (Kd.R (Kd.int .u8) 5 w' w.heap.size (fun k_ => some k_ ≠ (s_ : Value).ownBlock ∧ some k_ ≠ (.slice Ao54 t310.length co54 : Value).ownBlock) (.slice Ao52 t300.length co52) t300) ∧ (Kd.R (Kd.int .u8) 5 w' w.heap.size (fun k_ => some k_ ≠ (s_ : Value).ownBlock ∧ some k_ ≠ (.slice Ao52 t300.length co52 : Value).ownBlock) (.slice Ao54 t310.length co54) t310) ∧ (Kd.C (Kd.int .u8) w' A71 y323.length y323) ∧ (Kd.C (Kd.int .u8) w' A72 y330.length y330) ∧ (Below w.heap.size w w')) ?_ ?_
                         rotate_left
                         ·
                          as_aux_lemma =>
                          intro hJ4_5_10
                          refine join_ (σ := Value) 19 laws_FnBytes.m34 (fun s_ => [(158, s_), (159, .string (strOfNums t320))]) (fun s_ w' => (Kd.R (Kd.int .u8) 5 w' w.heap.size (fun k_ => some k_ ≠ (.slice Ao52 t300.length co52 : Value).ownBlock ∧ some k_ ≠ (.slice Ao54 t310.length co54 : Value).ownBlock) s_ t320) ∧ (Kd.R (Kd.int .u8) 5 w' w.heap.size (fun k_ => some k_ ≠ (s_ : Value).ownBlock ∧ some k_ ≠ (.slice Ao54 t310.length co54 : Value).ownBlock) (.slice Ao52 t300.length co52) t300) ∧ (Kd.R (Kd.int .u8) 5 w' w.heap.size (fun k_ => some k_ ≠ (s_ : Value).ownBlock ∧ some k_ ≠ (.slice Ao52 t300.length co52 : Value).ownBlock) (.slice Ao54 t310.length co54) t310) ∧ (Kd.C (Kd.int .u8) w' A71 y323.length y323) ∧ (Kd.C (Kd.int .u8) w' A72 y330.length y330) ∧ (Below w.heap.size w w')) ?_ ?_
                          rotate_left
                          ·
                           as_aux_lemma =>
                           intro hJ4_5
                           refine join_ (σ := Value) 19 laws_FnBytes.m35 (fun s_ => [(158, s_), (164, .string (strOfNums y323))]) (fun s_ w' => (Kd.R (Kd.int .u8) 5 w' w.heap.size (fun k_ => some k_ ≠ (.slice Ao52 t300.length co52 : Value).ownBlock ∧ some k_ ≠ (.slice Ao54 t310.length co54 : Value).ownBlock) s_ t320) ∧ (Kd.R (Kd.int .u8) 5 w' w.heap.size (fun k_ => some k_ ≠ (s_ : Value).ownBlock ∧ some k_ ≠ (.slice Ao54 t310.length co54 : Value).ownBlock) (.slice Ao52 t300.length co52) t300) ∧ (Kd.R (Kd.int .u8) 5 w' w.heap.size (fun k_ => some k_ ≠ (s_ : Value).ownBlock ∧ some k_ ≠ (.slice Ao52 t300.length co52 : Value).ownBlock) (.slice Ao54 t310.length co54) t310) ∧ (Kd.C (Kd.int .u8) w' A71 y323.length y323) ∧ (Kd.C (Kd.int .u8) w' A72 y330.length y330) ∧ (Below w.heap.size w w')) ?_ ?_
                           rotate_left
                           ·
                            as_aux_lemma =>
                            intro hJ4_10
                            refine join_ (σ := Value) 20 laws_FnBytes.m36 (fun s_ => [(158, s_)]) (fun s_ w' => (Kd.R (Kd.int .u8) 5 w' w.heap.size (fun k_ => some k_ ≠ (.slice Ao52 t300.length co52 : Value).ownBlock ∧ some k_ ≠ (.slice Ao54 t310.length co54 : Value).ownBlock) s_ t320) ∧ (Kd.R (Kd.int .u8) 5 w' w.heap.size (fun k_ => some k_ ≠ (s_ : Value).ownBlock ∧ some k_ ≠ (.slice Ao54 t310.length co54 : Value).ownBlock) (.slice Ao52 t300.length co52) t300) ∧ (Kd.R (Kd.int .u8) 5 w' w.heap.size (fun k_ => some k_ ≠ (s_ : Value).ownBlock ∧ some k_ ≠ (.slice Ao52 t300.length co52 : Value).ownBlock) (.slice Ao54 t310.length co54) t310) ∧ (Kd.C (Kd.int .u8) w' A71 y323.length y323) ∧ (Kd.C (Kd.int .u8) w' A72 y330.length y330) ∧ (Below w.heap.size w w')) ?_ ?_
                            rotate_left
                            ·
                             as_aux_lemma =>
                             intro hJ4
                             refine join_ (σ := Unit) 20 laws_FnBytes.m37 (fun s_ => [(164, .string (strOfNums y323))]) (fun s_ w' => (Kd.R (Kd.int .u8) 5 w' w.heap.size (fun k_ => some k_ ≠ (.slice Ao54 t310.length co54 : Value).ownBlock) (.slice Ao52 t300.length co52) t300) ∧ (Kd.R (Kd.int .u8) 5 w' w.heap.size (fun k_ => some k_ ≠ (.slice Ao52 t300.length co52 : Value).ownBlock) (.slice Ao54 t310.length co54) t310) ∧ (Kd.C (Kd.int .u8) w' A71 y323.length y323) ∧ (Kd.C (Kd.int .u8) w' A72 y330.length y330) ∧ (Below w.heap.size w w')) ?_ ?_
                             rotate_left
                             ·
                              intro hJ10
                              refine two_ (i := 4) (j := 10) (Ni := some 158) (Nj := some 164) laws_FnBytes.m36 laws_FnBytes.m37 rfl rfl rfl rfl (two_of HT_.out (by kernel_rfl)) (by decide) (by decide) (fun K hK => ?_) (fun K hK => ?_)
                              ·
                               skip
                               refine goes_ Try.func35 (by kernel_rfl) rfl #[.int .i64 t304] (by rfl) rfl rfl sm_ ?_
                               with_reducible refine (impl_PutNum.calls kj49 t304 t320 _ A60.out).mono ?_
                               rintro e w73 ⟨v321, rfl, ho0, hb⟩
                               refine ⟨_, rfl, ?_⟩
                               have HO322 := Aside0.mk (Kd.R_lower (Kd.R_new' (Kd.R_new' ho0 (Kd.R_lt (rq_ HO_13.out))) (Kd.R_lt (rq_ HO_21.out))) (below_size (hb_ HB.out)))
                               replace HO_13 := Aside0.mk (Kd.R_elder' (rq_ HO_13.out) (Kd.R_base ho0) hb)
                               replace HO_21 := Aside0.mk (Kd.R_elder' (rq_ HO_21.out) (Kd.R_base ho0) hb)
                               replace HR326 := Aside0.mk (Kd.C_below (qc0_) hb)
                               replace HR333 := Aside0.mk (Kd.C_below (qc2_) hb)
                               replace HB := ch_ HB hb
                               (try clear hb); (try clear hb2); (try clear hk); (try clear hi); (try clear ho0)
                               refine hK.out _ _ trivial (fun hHeld => ?_)
                               clear hK K
                               refine nm_ ?_
                               exact norm_ (qc1_) (hJ4 (v321) _ ⟨(rm_ HO322.out), (rm_ HO_13.out), (rm_ HO_21.out), (qc0_), (qc2_), (hb_ HB.out)⟩)
                              ·
                               skip
                               have hcv73 := Kd.C_string (P := Try.prog) (A := A71) (c := c71) Try.underlying61 Try.underlying5 Try.underlying9 (qc0_)
                               refine value_ (w1 := ?_) (v := ?_) (by rfl) rfl ?_ ?_
                               rotate_left 2
                               ·
                                go_simp
                                constructor
                                ·
                                 rfl
                                ·
                                 rfl
                               clear hcv73
                               refine hK.out _ _ trivial (fun hHeld => ?_)
                               clear hK K
                               refine nm_ ?_
                               exact norm_ (qc1_) (hJ10 () _ ⟨(rq_ HO_13.out), (rq_ HO_21.out), (qc0_), (qc2_), (hb_ HB.out)⟩)
                             ·
                              skip
                              rintro _ w74 ⟨h0_, h1_, h2_, h3_, h4_⟩
                              have n0_ : Aside0 (Kd.R (Kd.int .u8) 5 w74 w.heap.size (fun k_ => some k_ ≠ (.slice Ao54 t310.length co54 : Value).ownBlock) (.slice Ao52 t300.length co52) t300) := ⟨h0_⟩
                              have n1_ : Aside0 (Kd.R (Kd.int .u8) 5 w74 w.heap.size (fun k_ => some k_ ≠ (.slice Ao52 t300.length co52 : Value).ownBlock) (.slice Ao54 t310.length co54) t310) := ⟨h1_⟩
                              have n2_ : Aside0 (Kd.C (Kd.int .u8) w74 A71 y323.length y323) := ⟨h2_⟩
                              have n3_ : Aside0 (Kd.C (Kd.int .u8) w74 A72 y330.length y330) := ⟨h3_⟩
                              have n4_ : Aside0 (Below w.heap.size w w74) := ⟨h4_⟩
                              clear HO_13
                              clear HO_21
                              clear HB
                              clear h0_ h1_ h2_ h3_ h4_
                              have HO_13 := n0_
                              have HO_21 := n1_
                              have HR326 := n2_
                              have HR333 := n3_
                              have HB := n4_
                              clear n0_ n1_ n2_ n3_ n4_
                              have hHeld := trivial
                              refine norm_ (a' := ?_) ?_ ?_
                              rotate_left; (focus simp only [putAll, Act.put, List.setIfInBounds_toArray, List.set_cons_zero, List.set_cons_succ]; rfl)
                              refine on_ 4 158 HT_ laws_FnBytes.m35 rfl rfl (fun K hK => ?_)
                              refine goes_ Try.func35 (by kernel_rfl) rfl #[.int .i64 t304] (by rfl) rfl rfl sm_ ?_
                              with_reducible refine (impl_PutNum.calls kj49 t304 t320 _ A60.out).mono ?_
                              rintro e w75 ⟨v321, rfl, ho0, hb⟩
                              refine ⟨_, rfl, ?_⟩
                              have HO322 := Aside0.mk (Kd.R_lower (Kd.R_new' (Kd.R_new' ho0 (Kd.R_lt (rq_ HO_13.out))) (Kd.R_lt (rq_ HO_21.out))) (below_size (hb_ HB.out)))
                              replace HO_13 := Aside0.mk (Kd.R_elder' (rq_ HO_13.out) (Kd.R_base ho0) hb)
                              replace HO_21 := Aside0.mk (Kd.R_elder' (rq_ HO_21.out) (Kd.R_base ho0) hb)
                              replace HR326 := Aside0.mk (Kd.C_below (qc0_) hb)
                              replace HR333 := Aside0.mk (Kd.C_below (qc2_) hb)
                              replace HB := ch_ HB hb
                              (try clear hb); (try clear hb2); (try clear hk); (try clear hi); (try clear ho0)
                              refine hK.out _ _ trivial (fun hHeld => ?_)
                              clear hK K
                              refine nm_ ?_
                              exact norm_ (qc1_) (hJ4_10 (v321) _ ⟨(rm_ HO322.out), (rm_ HO_13.out), (rm_ HO_21.out), (qc0_), (qc2_), (hb_ HB.out)⟩)
                            ·
                             skip
                             rintro v321 w74 ⟨h0_, h1_, h2_, h3_, h4_, h5_⟩
                             have n0_ : Aside0 (Kd.R (Kd.int .u8) 5 w74 w.heap.size (fun k_ => some k_ ≠ (.slice Ao52 t300.length co52 : Value).ownBlock ∧ some k_ ≠ (.slice Ao54 t310.length co54 : Value).ownBlock) v321 t320) := ⟨h0_⟩
                             have n1_ : Aside0 (Kd.R (Kd.int .u8) 5 w74 w.heap.size (fun k_ => some k_ ≠ (v321 : Value).ownBlock ∧ some k_ ≠ (.slice Ao54 t310.length co54 : Value).ownBlock) (.slice Ao52 t300.length co52) t300) := ⟨h1_⟩
                             have n2_ : Aside0 (Kd.R (Kd.int .u8) 5 w74 w.heap.size (fun k_ => some k_ ≠ (v321 : Value).ownBlock ∧ some k_ ≠ (.slice Ao52 t300.length co52 : Value).ownBlock) (.slice Ao54 t310.length co54) t310) := ⟨h2_⟩
                             have n3_ : Aside0 (Kd.C (Kd.int .u8) w74 A71 y323.length y323) := ⟨h3_⟩
                             have n4_ : Aside0 (Kd.C (Kd.int .u8) w74 A72 y330.length y330) := ⟨h4_⟩
                             have n5_ : Aside0 (Below w.heap.size w w74) := ⟨h5_⟩
                             clear HO_13
                             clear HO_21
                             clear HB
                             clear h0_ h1_ h2_ h3_ h4_ h5_
                             have HO322 := n0_
                             have HO_13 := n1_
                             have HO_21 := n2_
                             have HR326 := n3_
                             have HR333 := n4_
                             have HB := n5_
                             clear n0_ n1_ n2_ n3_ n4_ n5_
                             have hHeld := trivial
                             refine norm_ (a' := ?_) ?_ ?_
                             rotate_left; (focus simp only [putAll, Act.put, List.setIfInBounds_toArray, List.set_cons_zero, List.set_cons_succ]; rfl)
                             refine two_ (i := 5) (j := 10) (Ni := some 159) (Nj := some 164) laws_FnBytes.m34 laws_FnBytes.m35 rfl rfl rfl rfl (two_of HT_.out (by kernel_rfl)) (by decide) (by decide) (fun K hK => ?_) (fun K hK => ?_)
                             ·
                              skip
                              have hcv75 := own_string (P := Try.prog) Try.underlying61 Try.underlying5 Try.underlying9 (Kd.own_of_R HO322.out)
                              refine value_ (w1 := ?_) (v := ?_) (by rfl) rfl ?_ ?_
                              rotate_left 2
                              ·
                               go_simp
                               constructor
                               ·
                                rfl
                               ·
                                rfl
                              clear hcv75
                              refine hK.out _ _ trivial (fun hHeld => ?_)
                              clear hK K
                              refine nm_ ?_
                              exact norm_ (qc1_) (hJ4_5 (v321) _ ⟨(rq_ HO322.out), (rq_ HO_13.out), (rq_ HO_21.out), (qc0_), (qc2_), (hb_ HB.out)⟩)
                             ·
                              skip
                              have hcv75 := Kd.C_string (P := Try.prog) (A := A71) (c := c71) Try.underlying61 Try.underlying5 Try.underlying9 (qc0_)
                              refine value_ (w1 := ?_) (v := ?_) (by rfl) rfl ?_ ?_
                              rotate_left 2
                              ·
                               go_simp
                               constructor
                               ·
                                rfl
                               ·
                                rfl
                              clear hcv75
                              refine hK.out _ _ trivial (fun hHeld => ?_)
                              clear hK K
                              refine nm_ ?_
                              exact norm_ (qc1_) (hJ4_10 (v321) _ ⟨(rq_ HO322.out), (rq_ HO_13.out), (rq_ HO_21.out), (qc0_), (qc2_), (hb_ HB.out)⟩)
                           ·
                            skip
                            rintro v321 w75 ⟨h0_, h1_, h2_, h3_, h4_, h5_⟩
                            have n0_ : Aside0 (Kd.R (Kd.int .u8) 5 w75 w.heap.size (fun k_ => some k_ ≠ (.slice Ao52 t300.length co52 : Value).ownBlock ∧ some k_ ≠ (.slice Ao54 t310.length co54 : Value).ownBlock) v321 t320) := ⟨h0_⟩
                            have n1_ : Aside0 (Kd.R (Kd.int .u8) 5 w75 w.heap.size (fun k_ => some k_ ≠ (v321 : Value).ownBlock ∧ some k_ ≠ (.slice Ao54 t310.length co54 : Value).ownBlock) (.slice Ao52 t300.length co52) t300) := ⟨h1_⟩
                            have n2_ : Aside0 (Kd.R (Kd.int .u8) 5 w75 w.heap.size (fun k_ => some k_ ≠ (v321 : Value).ownBlock ∧ some k_ ≠ (.slice Ao52 t300.length co52 : Value).ownBlock) (.slice Ao54 t310.length co54) t310) := ⟨h2_⟩
                            have n3_ : Aside0 (Kd.C (Kd.int .u8) w75 A71 y323.length y323) := ⟨h3_⟩
                            have n4_ : Aside0 (Kd.C (Kd.int .u8) w75 A72 y330.length y330) := ⟨h4_⟩
                            have n5_ : Aside0 (Below w.heap.size w w75) := ⟨h5_⟩
                            clear HO_13
                            clear HO_21
                            clear HB
                            clear h0_ h1_ h2_ h3_ h4_ h5_
                            have HO322 := n0_
                            have HO_13 := n1_
                            have HO_21 := n2_
                            have HR326 := n3_
                            have HR333 := n4_
                            have HB := n5_
                            clear n0_ n1_ n2_ n3_ n4_ n5_
                            have hHeld := trivial
                            refine norm_ (a' := ?_) ?_ ?_
                            rotate_left; (focus simp only [putAll, Act.put, List.setIfInBounds_toArray, List.set_cons_zero, List.set_cons_succ]; rfl)
                            refine on_ 5 159 HT_ laws_FnBytes.m38 rfl rfl (fun K hK => ?_)
                            have hcv76 := own_string (P := Try.prog) Try.underlying61 Try.underlying5 Try.underlying9 (Kd.own_of_R HO322.out)
                            refine value_ (w1 := ?_) (v := ?_) (by rfl) rfl ?_ ?_
                            rotate_left 2
                            ·
                             go_simp
                             constructor
                             ·
                              rfl
                             ·
                              rfl
                            clear hcv76
                            refine hK.out _ _ trivial (fun hHeld => ?_)
                            clear hK K
                            refine nm_ ?_
                            refine pI_ 11 165 HT_ laws_FnBytes.m39 rfl rfl ?_
                            refine pI_ 12 166 HT_ laws_FnBytes.m40 rfl rfl ?_
                            refine pI_ 13 167 HT_ laws_FnBytes.m41 rfl rfl ?_
                            refine pI_ 14 168 HT_ laws_FnBytes.m42 rfl rfl ?_
                            refine pI_ 15 169 HT_ laws_FnBytes.m43 rfl rfl ?_
                            refine pI_ 16 170 HT_ laws_FnBytes.m44 rfl rfl ?_
                            refine pI_ 17 171 HT_ laws_FnBytes.m45 rfl rfl ?_
                            refine pI_ 20 174 HT_ laws_FnBytes.m46 rfl rfl ?_
                            refine pI_ 21 175 HT_ laws_FnBytes.m47 rfl rfl ?_
                            refine pI_ 22 176 HT_ laws_FnBytes.m48 rfl rfl ?_
                            refine pI_ 23 177 HT_ laws_FnBytes.m33 rfl rfl ?_
                            exact norm_ (qc1_) (hJ4_5_10 (v321) _ ⟨(rq_ HO322.out), (rq_ HO_13.out), (rq_ HO_21.out), (qc0_), (qc2_), (hb_ HB.out)⟩)
                          ·
                           skip
                           rintro v321 w75 ⟨h0_, h1_, h2_, h3_, h4_, h5_⟩
                           have n0_ : Aside0 (Kd.R (Kd.int .u8) 5 w75 w.heap.size (fun k_ => some k_ ≠ (.slice Ao52 t300.length co52 : Value).ownBlock ∧ some k_ ≠ (.slice Ao54 t310.length co54 : Value).ownBlock) v321 t320) := ⟨h0_⟩
                           have n1_ : Aside0 (Kd.R (Kd.int .u8) 5 w75 w.heap.size (fun k_ => some k_ ≠ (v321 : Value).ownBlock ∧ some k_ ≠ (.slice Ao54 t310.length co54 : Value).ownBlock) (.slice Ao52 t300.length co52) t300) := ⟨h1_⟩
                           have n2_ : Aside0 (Kd.R (Kd.int .u8) 5 w75 w.heap.size (fun k_ => some k_ ≠ (v321 : Value).ownBlock ∧ some k_ ≠ (.slice Ao52 t300.length co52 : Value).ownBlock) (.slice Ao54 t310.length co54) t310) := ⟨h2_⟩
                           have n3_ : Aside0 (Kd.C (Kd.int .u8) w75 A71 y323.length y323) := ⟨h3_⟩
                           have n4_ : Aside0 (Kd.C (Kd.int .u8) w75 A72 y330.length y330) := ⟨h4_⟩
                           have n5_ : Aside0 (Below w.heap.size w w75) := ⟨h5_⟩
                           clear HO_13
                           clear HO_21
                           clear HB
                           clear h0_ h1_ h2_ h3_ h4_ h5_
                           have HO322 := n0_
                           have HO_13 := n1_
                           have HO_21 := n2_
                           have HR326 := n3_
                           have HR333 := n4_
                           have HB := n5_
                           clear n0_ n1_ n2_ n3_ n4_ n5_
                           have hHeld := trivial
                           refine norm_ (a' := ?_) ?_ ?_
                           rotate_left; (focus simp only [putAll, Act.put, List.setIfInBounds_toArray, List.set_cons_zero, List.set_cons_succ]; rfl)
                           refine on_ 10 164 HT_ laws_FnBytes.m38 rfl rfl (fun K hK => ?_)
                           have hcv76 := Kd.C_string (P := Try.prog) (A := A71) (c := c71) Try.underlying61 Try.underlying5 Try.underlying9 (qc0_)
                           refine value_ (w1 := ?_) (v := ?_) (by rfl) rfl ?_ ?_
                           rotate_left 2
                           ·
                            go_simp
                            constructor
                            ·
                             rfl
                            ·
                             rfl
                           clear hcv76
                           refine hK.out _ _ trivial (fun hHeld => ?_)
                           clear hK K
                           refine nm_ ?_
                           refine pI_ 11 165 HT_ laws_FnBytes.m39 rfl rfl ?_
                           refine pI_ 12 166 HT_ laws_FnBytes.m40 rfl rfl ?_
                           refine pI_ 13 167 HT_ laws_FnBytes.m41 rfl rfl ?_
                           refine pI_ 14 168 HT_ laws_FnBytes.m42 rfl rfl ?_
                           refine pI_ 15 169 HT_ laws_FnBytes.m43 rfl rfl ?_
                           refine pI_ 16 170 HT_ laws_FnBytes.m44 rfl rfl ?_
                           refine pI_ 17 171 HT_ laws_FnBytes.m45 rfl rfl ?_
                           refine pI_ 20 174 HT_ laws_FnBytes.m46 rfl rfl ?_
                           refine pI_ 21 175 HT_ laws_FnBytes.m47 rfl rfl ?_
                           refine pI_ 22 176 HT_ laws_FnBytes.m48 rfl rfl ?_
                           refine pI_ 23 177 HT_ laws_FnBytes.m33 rfl rfl ?_
                           exact norm_ (qc1_) (hJ4_5_10 (v321) _ ⟨(rq_ HO322.out), (rq_ HO_13.out), (rq_ HO_21.out), (qc0_), (qc2_), (hb_ HB.out)⟩)
                         ·
                          as_aux_lemma =>
                          skip
                          rintro v321 w76 ⟨h0_, h1_, h2_, h3_, h4_, h5_⟩
                          have n0_ : Aside0 (Kd.R (Kd.int .u8) 5 w76 w.heap.size (fun k_ => some k_ ≠ (.slice Ao52 t300.length co52 : Value).ownBlock ∧ some k_ ≠ (.slice Ao54 t310.length co54 : Value).ownBlock) v321 t320) := ⟨h0_⟩
                          have n1_ : Aside0 (Kd.R (Kd.int .u8) 5 w76 w.heap.size (fun k_ => some k_ ≠ (v321 : Value).ownBlock ∧ some k_ ≠ (.slice Ao54 t310.length co54 : Value).ownBlock) (.slice Ao52 t300.length co52) t300) := ⟨h1_⟩
                          have n2_ : Aside0 (Kd.R (Kd.int .u8) 5 w76 w.heap.size (fun k_ => some k_ ≠ (v321 : Value).ownBlock ∧ some k_ ≠ (.slice Ao52 t300.length co52 : Value).ownBlock) (.slice Ao54 t310.length co54) t310) := ⟨h2_⟩
                          have n3_ : Aside0 (Kd.C (Kd.int .u8) w76 A71 y323.length y323) := ⟨h3_⟩
                          have n4_ : Aside0 (Kd.C (Kd.int .u8) w76 A72 y330.length y330) := ⟨h4_⟩
                          have n5_ : Aside0 (Below w.heap.size w w76) := ⟨h5_⟩
                          clear HO_13
                          clear HO_21
                          clear HB
                          clear h0_ h1_ h2_ h3_ h4_ h5_
                          have HO322 := n0_
                          have HO_13 := n1_
                          have HO_21 := n2_
                          have HR326 := n3_
                          have HR333 := n4_
                          have HB := n5_
                          clear n0_ n1_ n2_ n3_ n4_ n5_
                          have hHeld := trivial
                          refine norm_ (a' := ?_) ?_ ?_
                          rotate_left; (focus simp only [putAll, Act.put, List.setIfInBounds_toArray, List.set_cons_zero, List.set_cons_succ]; rfl)
                          refine two_ (i := 18) (j := 24) (Ni := some 172) (Nj := some 178) laws_FnBytes.m31 laws_FnBytes.m32 rfl rfl rfl rfl (two_of HT_.out (by kernel_rfl)) (by decide) (by decide) (fun K hK => ?_) (fun K hK => ?_)
                          ·
                           skip
                           refine goes_ Try.func37 (by kernel_rfl) rfl #[.string t314] (by rfl) rfl rfl sm_ ?_
                           with_reducible refine (impl_PutText.calls kj49 t314 t327 _ A66.out).mono ?_
                           rintro e w77 ⟨v328, rfl, ho0, hb⟩
                           refine ⟨_, rfl, ?_⟩
                           have HO329 := Aside0.mk (Kd.R_lower (Kd.R_new' (Kd.R_new' (Kd.R_new' ho0 (Kd.R_lt (rq_ HO_13.out))) (Kd.R_lt (rq_ HO_21.out))) (Kd.R_lt (rq_ HO322.out))) (below_size (hb_ HB.out)))
                           replace HO_13 := Aside0.mk (Kd.R_elder' (rq_ HO_13.out) (Kd.R_base ho0) hb)
                           replace HO_21 := Aside0.mk (Kd.R_elder' (rq_ HO_21.out) (Kd.R_base ho0) hb)
                           replace HO322 := Aside0.mk (Kd.R_elder' (rq_ HO322.out) (Kd.R_base ho0) hb)
                           replace HR326 := Aside0.mk (Kd.C_below (qc0_) hb)
                           replace HR333 := Aside0.mk (Kd.C_below (qc2_) hb)
                           replace HB := ch_ HB hb
                           (try clear hb); (try clear hb2); (try clear hk); (try clear hi); (try clear ho0)
                           refine hK.out _ _ trivial (fun hHeld => ?_)
                           clear hK K
                           refine nm_ ?_
                           exact norm_ (qc1_) (hJ4_5_10_18 (v321, v328) _ ⟨(rm_ HO322.out), (rm_ HO329.out), (rm_ HO_13.out), (rm_ HO_21.out), (qc0_), (qc2_), (hb_ HB.out)⟩)
                          ·
                           skip
                           have hcv77 := Kd.C_string (P := Try.prog) (A := A72) (c := c72) Try.underlying61 Try.underlying5 Try.underlying9 (qc2_)
                           refine value_ (w1 := ?_) (v := ?_) (by rfl) rfl ?_ ?_
                           rotate_left 2
                           ·
                            go_simp
                            constructor
                            ·
                             rfl
                            ·
                             rfl
                           clear hcv77
                           refine hK.out _ _ trivial (fun hHeld => ?_)
                           clear hK K
                           refine nm_ ?_
                           exact norm_ (qc1_) (hJ4_5_10_24 (v321) _ ⟨(rq_ HO322.out), (rq_ HO_13.out), (rq_ HO_21.out), (qc0_), (qc2_), (hb_ HB.out)⟩)
                        ·
                         skip
                         rintro v321 w77 ⟨h0_, h1_, h2_, h3_, h4_, h5_⟩
                         have n0_ : Aside0 (Kd.R (Kd.int .u8) 5 w77 w.heap.size (fun k_ => some k_ ≠ (.slice Ao52 t300.length co52 : Value).ownBlock ∧ some k_ ≠ (.slice Ao54 t310.length co54 : Value).ownBlock) v321 t320) := ⟨h0_⟩
                         have n1_ : Aside0 (Kd.R (Kd.int .u8) 5 w77 w.heap.size (fun k_ => some k_ ≠ (v321 : Value).ownBlock ∧ some k_ ≠ (.slice Ao54 t310.length co54 : Value).ownBlock) (.slice Ao52 t300.length co52) t300) := ⟨h1_⟩
                         have n2_ : Aside0 (Kd.R (Kd.int .u8) 5 w77 w.heap.size (fun k_ => some k_ ≠ (v321 : Value).ownBlock ∧ some k_ ≠ (.slice Ao52 t300.length co52 : Value).ownBlock) (.slice Ao54 t310.length co54) t310) := ⟨h2_⟩
                         have n3_ : Aside0 (Kd.C (Kd.int .u8) w77 A71 y323.length y323) := ⟨h3_⟩
                         have n4_ : Aside0 (Kd.C (Kd.int .u8) w77 A72 y330.length y330) := ⟨h4_⟩
                         have n5_ : Aside0 (Below w.heap.size w w77) := ⟨h5_⟩
                         clear HO_13
                         clear HO_21
                         clear HB
                         clear h0_ h1_ h2_ h3_ h4_ h5_
                         have HO322 := n0_
                         have HO_13 := n1_
                         have HO_21 := n2_
                         have HR326 := n3_
                         have HR333 := n4_
                         have HB := n5_
                         clear n0_ n1_ n2_ n3_ n4_ n5_
                         have hHeld := trivial
                         refine norm_ (a' := ?_) ?_ ?_
                         rotate_left; (focus simp only [putAll, Act.put, List.setIfInBounds_toArray, List.set_cons_zero, List.set_cons_succ]; rfl)
                         refine on_ 18 172 HT_ laws_FnBytes.m30 rfl rfl (fun K hK => ?_)
                         refine goes_ Try.func37 (by kernel_rfl) rfl #[.string t314] (by rfl) rfl rfl sm_ ?_
                         with_reducible refine (impl_PutText.calls kj49 t314 t327 _ A66.out).mono ?_
                         rintro e w78 ⟨v328, rfl, ho0, hb⟩
                         refine ⟨_, rfl, ?_⟩
                         have HO329 := Aside0.mk (Kd.R_lower (Kd.R_new' (Kd.R_new' (Kd.R_new' ho0 (Kd.R_lt (rq_ HO_13.out))) (Kd.R_lt (rq_ HO_21.out))) (Kd.R_lt (rq_ HO322.out))) (below_size (hb_ HB.out)))
                         replace HO_13 := Aside0.mk (Kd.R_elder' (rq_ HO_13.out) (Kd.R_base ho0) hb)
                         replace HO_21 := Aside0.mk (Kd.R_elder' (rq_ HO_21.out) (Kd.R_base ho0) hb)
                         replace HO322 := Aside0.mk (Kd.R_elder' (rq_ HO322.out) (Kd.R_base ho0) hb)
                         replace HR326 := Aside0.mk (Kd.C_below (qc0_) hb)
                         replace HR333 := Aside0.mk (Kd.C_below (qc2_) hb)
                         replace HB := ch_ HB hb
                         (try clear hb); (try clear hb2); (try clear hk); (try clear hi); (try clear ho0)
                         refine hK.out _ _ trivial (fun hHeld => ?_)
                         clear hK K
                         refine nm_ ?_
                         exact norm_ (qc1_) (hJ4_5_10_18_24 (v321, v328) _ ⟨(rm_ HO322.out), (rm_ HO329.out), (rm_ HO_13.out), (rm_ HO_21.out), (qc0_), (qc2_), (hb_ HB.out)⟩)
                       ·
                        skip
                        rintro ⟨v321, v328⟩ w77 ⟨h0_, h1_, h2_, h3_, h4_, h5_, h6_⟩
                        have n0_ : Aside0 (Kd.R (Kd.int .u8) 5 w77 w.heap.size (fun k_ => some k_ ≠ (v328 : Value).ownBlock ∧ some k_ ≠ (.slice Ao52 t300.length co52 : Value).ownBlock ∧ some k_ ≠ (.slice Ao54 t310.length co54 : Value).ownBlock) v321 t320) := ⟨h0_⟩
                        have n1_ : Aside0 (Kd.R (Kd.int .u8) 5 w77 w.heap.size (fun k_ => some k_ ≠ (v321 : Value).ownBlock ∧ some k_ ≠ (.slice Ao52 t300.length co52 : Value).ownBlock ∧ some k_ ≠ (.slice Ao54 t310.length co54 : Value).ownBlock) v328 t327) := ⟨h1_⟩
                        have n2_ : Aside0 (Kd.R (Kd.int .u8) 5 w77 w.heap.size (fun k_ => some k_ ≠ (v321 : Value).ownBlock ∧ some k_ ≠ (v328 : Value).ownBlock ∧ some k_ ≠ (.slice Ao54 t310.length co54 : Value).ownBlock) (.slice Ao52 t300.length co52) t300) := ⟨h2_⟩
                        have n3_ : Aside0 (Kd.R (Kd.int .u8) 5 w77 w.heap.size (fun k_ => some k_ ≠ (v321 : Value).ownBlock ∧ some k_ ≠ (v328 : Value).ownBlock ∧ some k_ ≠ (.slice Ao52 t300.length co52 : Value).ownBlock) (.slice Ao54 t310.length co54) t310) := ⟨h3_⟩
                        have n4_ : Aside0 (Kd.C (Kd.int .u8) w77 A71 y323.length y323) := ⟨h4_⟩
                        have n5_ : Aside0 (Kd.C (Kd.int .u8) w77 A72 y330.length y330) := ⟨h5_⟩
                        have n6_ : Aside0 (Below w.heap.size w w77) := ⟨h6_⟩
                        clear HO_13
                        clear HO_21
                        clear HB
                        clear h0_ h1_ h2_ h3_ h4_ h5_ h6_
                        have HO322 := n0_
                        have HO329 := n1_
                        have HO_13 := n2_
                        have HO_21 := n3_
                        have HR326 := n4_
                        have HR333 := n5_
                        have HB := n6_
                        clear n0_ n1_ n2_ n3_ n4_ n5_ n6_
                        have hHeld := trivial
                        refine norm_ (a' := ?_) ?_ ?_
                        rotate_left; (focus simp only [putAll, Act.put, List.setIfInBounds_toArray, List.set_cons_zero, List.set_cons_succ]; rfl)
                        refine two_ (i := 19) (j := 24) (Ni := some 173) (Nj := some 178) laws_FnBytes.m29 laws_FnBytes.m30 rfl rfl rfl rfl (two_of HT_.out (by kernel_rfl)) (by decide) (by decide) (fun K hK => ?_) (fun K hK => ?_)
                        ·
                         skip
                         have hcv78 := own_string (P := Try.prog) Try.underlying61 Try.underlying5 Try.underlying9 (Kd.own_of_R HO329.out)
                         refine value_ (w1 := ?_) (v := ?_) (by rfl) rfl ?_ ?_
                         rotate_left 2
                         ·
                          go_simp
                          constructor
                          ·
                           rfl
                          ·
                           rfl
                         clear hcv78
                         refine hK.out _ _ trivial (fun hHeld => ?_)
                         clear hK K
                         refine nm_ ?_
                         exact norm_ (qc1_) (hJ4_5_10_18_19 (v321, v328) _ ⟨(rq_ HO322.out), (rq_ HO329.out), (rq_ HO_13.out), (rq_ HO_21.out), (qc0_), (qc2_), (hb_ HB.out)⟩)
                        ·
                         skip
                         have hcv78 := Kd.C_string (P := Try.prog) (A := A72) (c := c72) Try.underlying61 Try.underlying5 Try.underlying9 (qc2_)
                         refine value_ (w1 := ?_) (v := ?_) (by rfl) rfl ?_ ?_
                         rotate_left 2
                         ·
                          go_simp
                          constructor
                          ·
                           rfl
                          ·
                           rfl
                         clear hcv78
                         refine hK.out _ _ trivial (fun hHeld => ?_)
                         clear hK K
                         refine nm_ ?_
                         exact norm_ (qc1_) (hJ4_5_10_18_24 (v321, v328) _ ⟨(rq_ HO322.out), (rq_ HO329.out), (rq_ HO_13.out), (rq_ HO_21.out), (qc0_), (qc2_), (hb_ HB.out)⟩)
                      ·
                       skip
                       rintro ⟨v321, v328⟩ w78 ⟨h0_, h1_, h2_, h3_, h4_, h5_, h6_⟩
                       have n0_ : Aside0 (Kd.R (Kd.int .u8) 5 w78 w.heap.size (fun k_ => some k_ ≠ (v328 : Value).ownBlock ∧ some k_ ≠ (.slice Ao52 t300.length co52 : Value).ownBlock ∧ some k_ ≠ (.slice Ao54 t310.length co54 : Value).ownBlock) v321 t320) := ⟨h0_⟩
                       have n1_ : Aside0 (Kd.R (Kd.int .u8) 5 w78 w.heap.size (fun k_ => some k_ ≠ (v321 : Value).ownBlock ∧ some k_ ≠ (.slice Ao52 t300.length co52 : Value).ownBlock ∧ some k_ ≠ (.slice Ao54 t310.length co54 : Value).ownBlock) v328 t327) := ⟨h1_⟩
                       have n2_ : Aside0 (Kd.R (Kd.int .u8) 5 w78 w.heap.size (fun k_ => some k_ ≠ (v321 : Value).ownBlock ∧ some k_ ≠ (v328 : Value).ownBlock ∧ some k_ ≠ (.slice Ao54 t310.length co54 : Value).ownBlock) (.slice Ao52 t300.length co52) t300) := ⟨h2_⟩
                       have n3_ : Aside0 (Kd.R (Kd.int .u8) 5 w78 w.heap.size (fun k_ => some k_ ≠ (v321 : Value).ownBlock ∧ some k_ ≠ (v328 : Value).ownBlock ∧ some k_ ≠ (.slice Ao52 t300.length co52 : Value).ownBlock) (.slice Ao54 t310.length co54) t310) := ⟨h3_⟩
                       have n4_ : Aside0 (Kd.C (Kd.int .u8) w78 A71 y323.length y323) := ⟨h4_⟩
                       have n5_ : Aside0 (Kd.C (Kd.int .u8) w78 A72 y330.length y330) := ⟨h5_⟩
                       have n6_ : Aside0 (Below w.heap.size w w78) := ⟨h6_⟩
                       clear HO_13
                       clear HO_21
                       clear HB
                       clear h0_ h1_ h2_ h3_ h4_ h5_ h6_
                       have HO322 := n0_
                       have HO329 := n1_
                       have HO_13 := n2_
                       have HO_21 := n3_
                       have HR326 := n4_
                       have HR333 := n5_
                       have HB := n6_
                       clear n0_ n1_ n2_ n3_ n4_ n5_ n6_
                       have hHeld := trivial
                       refine norm_ (a' := ?_) ?_ ?_
                       rotate_left; (focus simp only [putAll, Act.put, List.setIfInBounds_toArray, List.set_cons_zero, List.set_cons_succ]; rfl)
                       refine on_ 19 173 HT_ laws_FnBytes.m28 rfl rfl (fun K hK => ?_)
                       have hcv79 := own_string (P := Try.prog) Try.underlying61 Try.underlying5 Try.underlying9 (Kd.own_of_R HO329.out)
                       refine value_ (w1 := ?_) (v := ?_) (by rfl) rfl ?_ ?_
                       rotate_left 2
                       ·
                        go_simp
                        constructor
                        ·
                         rfl
                        ·
                         rfl
                       clear hcv79
                       refine hK.out _ _ trivial (fun hHeld => ?_)
                       clear hK K
                       refine nm_ ?_
                       exact norm_ (qc1_) (hJ4_5_10_18_19_24 (v321, v328) _ ⟨(rq_ HO322.out), (rq_ HO329.out), (rq_ HO_13.out), (rq_ HO_21.out), (qc0_), (qc2_), (hb_ HB.out)⟩)
                     ·
                      skip
                      rintro ⟨v321, v328⟩ w78 ⟨h0_, h1_, h2_, h3_, h4_, h5_, h6_⟩
                      have n0_ : Aside0 (Kd.R (Kd.int .u8) 5 w78 w.heap.size (fun k_ => some k_ ≠ (v328 : Value).ownBlock ∧ some k_ ≠ (.slice Ao52 t300.length co52 : Value).ownBlock ∧ some k_ ≠ (.slice Ao54 t310.length co54 : Value).ownBlock) v321 t320) := ⟨h0_⟩
                      have n1_ : Aside0 (Kd.R (Kd.int .u8) 5 w78 w.heap.size (fun k_ => some k_ ≠ (v321 : Value).ownBlock ∧ some k_ ≠ (.slice Ao52 t300.length co52 : Value).ownBlock ∧ some k_ ≠ (.slice Ao54 t310.length co54 : Value).ownBlock) v328 t327) := ⟨h1_⟩
                      have n2_ : Aside0 (Kd.R (Kd.int .u8) 5 w78 w.heap.size (fun k_ => some k_ ≠ (v321 : Value).ownBlock ∧ some k_ ≠ (v328 : Value).ownBlock ∧ some k_ ≠ (.slice Ao54 t310.length co54 : Value).ownBlock) (.slice Ao52 t300.length co52) t300) := ⟨h2_⟩
                      have n3_ : Aside0 (Kd.R (Kd.int .u8) 5 w78 w.heap.size (fun k_ => some k_ ≠ (v321 : Value).ownBlock ∧ some k_ ≠ (v328 : Value).ownBlock ∧ some k_ ≠ (.slice Ao52 t300.length co52 : Value).ownBlock) (.slice Ao54 t310.length co54) t310) := ⟨h3_⟩
                      have n4_ : Aside0 (Kd.C (Kd.int .u8) w78 A71 y323.length y323) := ⟨h4_⟩
                      have n5_ : Aside0 (Kd.C (Kd.int .u8) w78 A72 y330.length y330) := ⟨h5_⟩
                      have n6_ : Aside0 (Below w.heap.size w w78) := ⟨h6_⟩
                      clear HO_13
                      clear HO_21
                      clear HB
                      clear h0_ h1_ h2_ h3_ h4_ h5_ h6_
                      have HO322 := n0_
                      have HO329 := n1_
                      have HO_13 := n2_
                      have HO_21 := n3_
                      have HR326 := n4_
                      have HR333 := n5_
                      have HB := n6_
                      clear n0_ n1_ n2_ n3_ n4_ n5_ n6_
                      have hHeld := trivial
                      refine norm_ (a' := ?_) ?_ ?_
                      rotate_left; (focus simp only [putAll, Act.put, List.setIfInBounds_toArray, List.set_cons_zero, List.set_cons_succ]; rfl)
                      refine on_ 24 178 HT_ laws_FnBytes.m28 rfl rfl (fun K hK => ?_)
                      have hcv79 := Kd.C_string (P := Try.prog) (A := A72) (c := c72) Try.underlying61 Try.underlying5 Try.underlying9 (qc2_)
                      refine value_ (w1 := ?_) (v := ?_) (by rfl) rfl ?_ ?_
                      rotate_left 2
                      ·
                       go_simp
                       constructor
                       ·
                        rfl
                       ·
                        rfl
                      clear hcv79
                      refine hK.out _ _ trivial (fun hHeld => ?_)
                      clear hK K
                      refine nm_ ?_
                      exact norm_ (qc1_) (hJ4_5_10_18_19_24 (v321, v328) _ ⟨(rq_ HO322.out), (rq_ HO329.out), (rq_ HO_13.out), (rq_ HO_21.out), (qc0_), (qc2_), (hb_ HB.out)⟩)
                    rintro ⟨v321, v328⟩ w79 ⟨h0_, h1_, h2_, h3_, h4_, h5_, h6_⟩
                    have n0_ : Aside0 (Kd.R (Kd.int .u8) 5 w79 w.heap.size (fun k_ => some k_ ≠ (v328 : Value).ownBlock ∧ some k_ ≠ (.slice Ao52 t300.length co52 : Value).ownBlock ∧ some k_ ≠ (.slice Ao54 t310.length co54 : Value).ownBlock) v321 t320) := ⟨h0_⟩
                    have n1_ : Aside0 (Kd.R (Kd.int .u8) 5 w79 w.heap.size (fun k_ => some k_ ≠ (v321 : Value).ownBlock ∧ some k_ ≠ (.slice Ao52 t300.length co52 : Value).ownBlock ∧ some k_ ≠ (.slice Ao54 t310.length co54 : Value).ownBlock) v328 t327) := ⟨h1_⟩
                    have n2_ : Aside0 (Kd.R (Kd.int .u8) 5 w79 w.heap.size (fun k_ => some k_ ≠ (v321 : Value).ownBlock ∧ some k_ ≠ (v328 : Value).ownBlock ∧ some k_ ≠ (.slice Ao54 t310.length co54 : Value).ownBlock) (.slice Ao52 t300.length co52) t300) := ⟨h2_⟩
                    have n3_ : Aside0 (Kd.R (Kd.int .u8) 5 w79 w.heap.size (fun k_ => some k_ ≠ (v321 : Value).ownBlock ∧ some k_ ≠ (v328 : Value).ownBlock ∧ some k_ ≠ (.slice Ao52 t300.length co52 : Value).ownBlock) (.slice Ao54 t310.length co54) t310) := ⟨h3_⟩
                    have n4_ : Aside0 (Kd.C (Kd.int .u8) w79 A71 y323.length y323) := ⟨h4_⟩
                    have n5_ : Aside0 (Kd.C (Kd.int .u8) w79 A72 y330.length y330) := ⟨h5_⟩
                    have n6_ : Aside0 (Below w.heap.size w w79) := ⟨h6_⟩
                    clear HO_13
                    clear HO_21
                    clear HB
                    clear h0_ h1_ h2_ h3_ h4_ h5_ h6_
                    have HO322 := n0_
                    have HO329 := n1_
                    have HO_13 := n2_
                    have HO_21 := n3_
                    have HR326 := n4_
                    have HR333 := n5_
                    have HB := n6_
                    clear n0_ n1_ n2_ n3_ n4_ n5_ n6_
                    have hHeld := trivial
                    refine norm_ (a' := ?_) ?_ ?_
                    rotate_left; (focus simp only [putAll, Act.put, List.setIfInBounds_toArray, List.set_cons_zero, List.set_cons_succ]; rfl)
                    refine pI_ 25 179 HT_ laws_FnBytes.m49 rfl rfl ?_
                    refine pI_ 26 180 HT_ laws_FnBytes.m50 rfl rfl ?_
                    refine pI_ 27 181 HT_ laws_FnBytes.m51 rfl rfl ?_
                    refine pI_ 28 2 HT_ laws_FnBytes.m52 rfl rfl ?_
                    refine done_ (done_of HT_.out (by kernel_rfl)) ?_
                    try go_wp2
                    go_ret
                    exact ⟨er_, hb_ HB.out⟩
                   ·
                    rw [if_neg c69] at H
                    exact absurd H (by simp)
                  ·
                   rw [if_neg c68] at H
                   exact absurd H (by simp)
                 ·
                  rw [if_neg c67] at H
                  exact absurd H (by simp)
                ·
                 as_aux_lemma =>
                 replace c65 := Bool.eq_false_iff.mpr c65
                 subst c65
                 have H1 : (some true) = some r := by rw [if_neg (show ¬ (false = true) by decide)] at H; exact H
                 clear H
                 have H := H1
                 clear H1
                 obtain rfl := Option.some.inj H
                 try go_wp2
                 replace HO_13 := Aside0.mk (Kd.R_drew HO_13.out)
                 replace HO_21 := Aside0.mk (Kd.R_drew HO_21.out)
                 replace HB := Aside0.mk (below_drew1 HB.out)
                 have q81 : (t305 : Int) ≤ ((t300.length : Int) : Int) := of_decide_eq_true dt_
                 obtain ⟨i081, hi081, _, hsz81, _⟩ := info_parts info5
                 have hroom81 : t300.length ≤ co52 := (Kd.R_reads' HO_13.out).2.1
                 have hC81 : Kd.C (Kd.int .u8) _ Ao52 t300.length t300 := (Kd.R_reads' HO_13.out).2.2
                 have ql81 : (t301 : Int) ≤ (t305 : Int) := of_decide_eq_true dt_
                 have q081 : (0 : Int) ≤ (t301 : Int) := of_decide_eq_true dt_
                 have hcut81 := cut_mid (P := Try.prog) 61 5 .i64 .i64 Try.underlying61 hi081 1 hsz81 Ao52 t300.length co52 t301 t305 q081 ql81 q81 hroom81
                 have hr81 := Kd.C_mid (lo := (t301 : Int).toNat) (hi := (t305 : Int).toNat) (c := co52) hC81 (by omega) (by omega) hroom81
                 obtain ⟨A81, hA81⟩ : ∃ A1, A1 = (if co52 = (t301 : Int).toNat then Ao52 else (Ao52 : Option Addr).map (·.add ((t301 : Int).toNat * 1))) := ⟨_, rfl⟩
                 obtain ⟨c81, hc81⟩ : ∃ c1, c1 = co52 - (t301 : Int).toNat := ⟨_, rfl⟩
                 have hy81 : y323.length = (t305 : Int).toNat - (t301 : Int).toNat := (qc8_)
                 rw [show ((t300).take (t305 : Int).toNat).drop (t301 : Int).toNat = y323 from Ny323.out.symm] at hr81
                 replace hr81 : Kd.C (Kd.int .u8) _ A81 y323.length y323 := (by rw [hA81]; exact hr81)
                 rw [← hy81, ← hA81, ← hc81] at hcut81
                 have HR326 := Aside0.mk hr81
                 have HC326 := Aside0.mk (show y323.length ≤ c81 from by rw [hy81, hc81]; exact Nat.sub_le_sub_right (Nat.le_trans (by omega) hroom81) _)
                 clear hr81 hC81 hroom81 hi081 hsz81 hc81
                 have KY81 := Aside0.mk hy81
                 have KA81 := Aside0.mk hA81
                 clear hy81 hA81
                 have KL81 := Aside0.mk (show (t305 : Int).toNat ≤ t300.length from by omega)
                 have KM81 := Aside0.mk (show (t301 : Int).toNat ≤ (t305 : Int).toNat from by omega)
                 replace q81 := eq_true q81
                 refine start_ (n := 29) (S := fun w' => True) (ds := []) laws_FnBytes.m19 (by kernel_rfl) rfl rfl trivial (fun hHeld => ?_); refine with_tabW laws_FnBytes.tab21 laws_FnBytes.bits21 (fun HT_ HW_ => ?_)
                 generalize wc.drew = w80 at HO_13 HO_21 HB HR326 hHeld ⊢
                 refine pI_ 0 154 HT_ laws_FnBytes.m20 rfl rfl ?_
                 refine pI_ 1 155 HT_ laws_FnBytes.m21 rfl rfl ?_
                 refine pI_ 2 156 HT_ laws_FnBytes.m22 rfl rfl ?_
                 refine pI_ 3 157 HT_ laws_FnBytes.m23 rfl rfl ?_
                 refine pI_ 6 160 HT_ laws_FnBytes.m24 rfl rfl ?_
                 refine pI_ 7 161 HT_ laws_FnBytes.m25 rfl rfl ?_
                 refine pI_ 8 162 HT_ laws_FnBytes.m26 rfl rfl ?_
                 refine pI_ 9 163 HT_ laws_FnBytes.m27 rfl rfl ?_
                 refine join_ (σ := Value) 18 laws_FnBytes.m38 (fun s_ => [(158, s_), (159, .string (strOfNums t320)), (164, .string (strOfNums y323))]) (fun s_ w' => (Kd.R (Kd.int .u8) 5 w' w.heap.size (fun k_ => some k_ ≠ (.slice Ao52 t300.length co52 : Value).ownBlock ∧ some k_ ≠ (.slice Ao54 t310.length co54 : Value).ownBlock) s_ t320) ∧ (Kd.R (Kd.int .u8) 5 w' w.heap.size (fun k_ => some k_ ≠ (s_ : Value).ownBlock ∧ some k_ ≠ (.slice Ao54 t310.length co54 : Value).ownBlock) (.slice Ao52 t300.length co52) t300) ∧ (Kd.R (Kd.int .u8) 5 w' w.heap.size (fun k_ => some k_ ≠ (s_ : Value).ownBlock ∧ some k_ ≠ (.slice Ao52 t300.length co52 : Value).ownBlock) (.slice Ao54 t310.length co54) t310) ∧ (Kd.C (Kd.int .u8) w' A81 y323.length y323) ∧ (Below w.heap.size w w')) ?_ ?_
                 rotate_left
                 ·
                  as_aux_lemma =>
                  intro hCont
                  refine two_ (i := 4) (j := 10) (Ni := some 158) (Nj := some 164) laws_FnBytes.m36 laws_FnBytes.m37 rfl rfl rfl rfl (two_of HT_.out (by kernel_rfl)) (by decide) (by decide) (fun K hK => ?_) (fun K hK => ?_)
                  ·
                   as_aux_lemma =>
                   skip
                   refine goes_ Try.func35 (by kernel_rfl) rfl #[.int .i64 t304] (by rfl) rfl rfl sm_ ?_
                   with_reducible refine (impl_PutNum.calls kj49 t304 t320 _ A60.out).mono ?_
                   rintro e w82 ⟨v321, rfl, ho0, hb⟩
                   refine ⟨_, rfl, ?_⟩
                   have HO322 := Aside0.mk (Kd.R_lower (Kd.R_new' (Kd.R_new' ho0 (Kd.R_lt (rq_ HO_13.out))) (Kd.R_lt (rq_ HO_21.out))) (below_size (hb_ HB.out)))
                   replace HO_13 := Aside0.mk (Kd.R_elder' (rq_ HO_13.out) (Kd.R_base ho0) hb)
                   replace HO_21 := Aside0.mk (Kd.R_elder' (rq_ HO_21.out) (Kd.R_base ho0) hb)
                   replace HR326 := Aside0.mk (Kd.C_below (qc0_) hb)
                   replace HB := ch_ HB hb
                   (try clear hb); (try clear hb2); (try clear hk); (try clear hi); (try clear ho0)
                   refine hK.out _ _ trivial (fun hHeld => ?_)
                   clear hK K
                   refine nm_ ?_
                   refine two_ (i := 5) (j := 10) (Ni := some 159) (Nj := some 164) laws_FnBytes.m34 laws_FnBytes.m35 rfl rfl rfl rfl (two_of HT_.out (by kernel_rfl)) (by decide) (by decide) (fun K hK => ?_) (fun K hK => ?_)
                   ·
                    skip
                    have hcv83 := own_string (P := Try.prog) Try.underlying61 Try.underlying5 Try.underlying9 (Kd.own_of_R HO322.out)
                    refine value_ (w1 := ?_) (v := ?_) (by rfl) rfl ?_ ?_
                    rotate_left 2
                    ·
                     go_simp
                     constructor
                     ·
                      rfl
                     ·
                      rfl
                    clear hcv83
                    refine hK.out _ _ trivial (fun hHeld => ?_)
                    clear hK K
                    refine nm_ ?_
                    refine on_ 10 164 HT_ laws_FnBytes.m38 rfl rfl (fun K hK => ?_)
                    have hcv84 := Kd.C_string (P := Try.prog) (A := A81) (c := c81) Try.underlying61 Try.underlying5 Try.underlying9 (qc0_)
                    refine value_ (w1 := ?_) (v := ?_) (by rfl) rfl ?_ ?_
                    rotate_left 2
                    ·
                     go_simp
                     constructor
                     ·
                      rfl
                     ·
                      rfl
                    clear hcv84
                    refine hK.out _ _ trivial (fun hHeld => ?_)
                    clear hK K
                    refine nm_ ?_
                    exact norm_ (qc4_) (hCont (v321) _ ⟨(rm_ HO322.out), (rm_ HO_13.out), (rm_ HO_21.out), (qc0_), (hb_ HB.out)⟩)
                   ·
                    skip
                    have hcv83 := Kd.C_string (P := Try.prog) (A := A81) (c := c81) Try.underlying61 Try.underlying5 Try.underlying9 (qc0_)
                    refine value_ (w1 := ?_) (v := ?_) (by rfl) rfl ?_ ?_
                    rotate_left 2
                    ·
                     go_simp
                     constructor
                     ·
                      rfl
                     ·
                      rfl
                    clear hcv83
                    refine hK.out _ _ trivial (fun hHeld => ?_)
                    clear hK K
                    refine nm_ ?_
                    refine on_ 5 159 HT_ laws_FnBytes.m38 rfl rfl (fun K hK => ?_)
                    have hcv84 := own_string (P := Try.prog) Try.underlying61 Try.underlying5 Try.underlying9 (Kd.own_of_R HO322.out)
                    refine value_ (w1 := ?_) (v := ?_) (by rfl) rfl ?_ ?_
                    rotate_left 2
                    ·
                     go_simp
                     constructor
                     ·
                      rfl
                     ·
                      rfl
                    clear hcv84
                    refine hK.out _ _ trivial (fun hHeld => ?_)
                    clear hK K
                    refine nm_ ?_
                    exact norm_ (qc4_) (hCont (v321) _ ⟨(rm_ HO322.out), (rm_ HO_13.out), (rm_ HO_21.out), (qc0_), (hb_ HB.out)⟩)
                  ·
                   skip
                   have hcv82 := Kd.C_string (P := Try.prog) (A := A81) (c := c81) Try.underlying61 Try.underlying5 Try.underlying9 (qc0_)
                   refine value_ (w1 := ?_) (v := ?_) (by rfl) rfl ?_ ?_
                   rotate_left 2
                   ·
                    go_simp
                    constructor
                    ·
                     rfl
                    ·
                     rfl
                   clear hcv82
                   refine hK.out _ _ trivial (fun hHeld => ?_)
                   clear hK K
                   refine nm_ ?_
                   refine on_ 4 158 HT_ laws_FnBytes.m35 rfl rfl (fun K hK => ?_)
                   refine goes_ Try.func35 (by kernel_rfl) rfl #[.int .i64 t304] (by rfl) rfl rfl sm_ ?_
                   with_reducible refine (impl_PutNum.calls kj49 t304 t320 _ A60.out).mono ?_
                   rintro e w83 ⟨v321, rfl, ho0, hb⟩
                   refine ⟨_, rfl, ?_⟩
                   have HO322 := Aside0.mk (Kd.R_lower (Kd.R_new' (Kd.R_new' ho0 (Kd.R_lt (rq_ HO_13.out))) (Kd.R_lt (rq_ HO_21.out))) (below_size (hb_ HB.out)))
                   replace HO_13 := Aside0.mk (Kd.R_elder' (rq_ HO_13.out) (Kd.R_base ho0) hb)
                   replace HO_21 := Aside0.mk (Kd.R_elder' (rq_ HO_21.out) (Kd.R_base ho0) hb)
                   replace HR326 := Aside0.mk (Kd.C_below (qc0_) hb)
                   replace HB := ch_ HB hb
                   (try clear hb); (try clear hb2); (try clear hk); (try clear hi); (try clear ho0)
                   refine hK.out _ _ trivial (fun hHeld => ?_)
                   clear hK K
                   refine nm_ ?_
                   refine on_ 5 159 HT_ laws_FnBytes.m38 rfl rfl (fun K hK => ?_)
                   have hcv84 := own_string (P := Try.prog) Try.underlying61 Try.underlying5 Try.underlying9 (Kd.own_of_R HO322.out)
                   refine value_ (w1 := ?_) (v := ?_) (by rfl) rfl ?_ ?_
                   rotate_left 2
                   ·
                    go_simp
                    constructor
                    ·
                     rfl
                    ·
                     rfl
                   clear hcv84
                   refine hK.out _ _ trivial (fun hHeld => ?_)
                   clear hK K
                   refine nm_ ?_
                   exact norm_ (qc4_) (hCont (v321) _ ⟨(rm_ HO322.out), (rm_ HO_13.out), (rm_ HO_21.out), (qc0_), (hb_ HB.out)⟩)
                 rintro v321 w85 ⟨h0_, h1_, h2_, h3_, h4_⟩
                 have n0_ : Aside0 (Kd.R (Kd.int .u8) 5 w85 w.heap.size (fun k_ => some k_ ≠ (.slice Ao52 t300.length co52 : Value).ownBlock ∧ some k_ ≠ (.slice Ao54 t310.length co54 : Value).ownBlock) v321 t320) := ⟨h0_⟩
                 have n1_ : Aside0 (Kd.R (Kd.int .u8) 5 w85 w.heap.size (fun k_ => some k_ ≠ (v321 : Value).ownBlock ∧ some k_ ≠ (.slice Ao54 t310.length co54 : Value).ownBlock) (.slice Ao52 t300.length co52) t300) := ⟨h1_⟩
                 have n2_ : Aside0 (Kd.R (Kd.int .u8) 5 w85 w.heap.size (fun k_ => some k_ ≠ (v321 : Value).ownBlock ∧ some k_ ≠ (.slice Ao52 t300.length co52 : Value).ownBlock) (.slice Ao54 t310.length co54) t310) := ⟨h2_⟩
                 have n3_ : Aside0 (Kd.C (Kd.int .u8) w85 A81 y323.length y323) := ⟨h3_⟩
                 have n4_ : Aside0 (Below w.heap.size w w85) := ⟨h4_⟩
                 clear HO_13
                 clear HO_21
                 clear HB
                 clear h0_ h1_ h2_ h3_ h4_
                 have HO322 := n0_
                 have HO_13 := n1_
                 have HO_21 := n2_
                 have HR326 := n3_
                 have HB := n4_
                 clear n0_ n1_ n2_ n3_ n4_
                 have hHeld := trivial
                 refine norm_ (a' := ?_) ?_ ?_
                 rotate_left; (focus simp only [putAll, Act.put, List.setIfInBounds_toArray, List.set_cons_zero, List.set_cons_succ]; rfl)
                 refine pI_ 11 165 HT_ laws_FnBytes.m39 rfl rfl ?_
                 refine pI_ 12 166 HT_ laws_FnBytes.m40 rfl rfl ?_
                 refine pI_ 13 167 HT_ laws_FnBytes.m41 rfl rfl ?_
                 refine pI_ 14 168 HT_ laws_FnBytes.m42 rfl rfl ?_
                 refine pI_ 15 169 HT_ laws_FnBytes.m43 rfl rfl ?_
                 refine pI_ 16 170 HT_ laws_FnBytes.m44 rfl rfl ?_
                 refine pU_ 17 171 HT_ laws_FnBytes.m45 rfl rfl ?_
                 refine pU_ 18 172 HT_ laws_FnBytes.m53 rfl rfl ?_
                 refine pU_ 19 173 HT_ laws_FnBytes.m54 rfl rfl ?_
                 refine pU_ 20 174 HT_ laws_FnBytes.m55 rfl rfl ?_
                 refine pU_ 21 175 HT_ laws_FnBytes.m56 rfl rfl ?_
                 refine pU_ 22 176 HT_ laws_FnBytes.m57 rfl rfl ?_
                 refine pU_ 23 177 HT_ laws_FnBytes.m29 rfl rfl ?_
                 refine pU_ 24 178 HT_ laws_FnBytes.m28 rfl rfl ?_
                 refine pU_ 25 179 HT_ laws_FnBytes.m49 rfl rfl ?_
                 refine pI_ 26 180 HT_ laws_FnBytes.m50 rfl rfl ?_
                 refine pI_ 27 181 HT_ laws_FnBytes.m51 rfl rfl ?_
                 refine pI_ 28 2 HT_ laws_FnBytes.m52 rfl rfl ?_
                 refine done_ (done_of HT_.out (by kernel_rfl)) ?_
                 try go_wp2
                 go_ret
                 exact ⟨er_, hb_ HB.out⟩
               ·
                as_aux_lemma =>
                rw [if_neg c64] at H
                have c64b0 : ((strOfNums t320).toList == (strOfNums y323).toList) = false := beq_eq_false_iff_ne.mpr c64
                have c64b1 : ((strOfNums t320).toList != (strOfNums y323).toList) = true := bne_iff_ne.mpr c64
                obtain rfl := Option.some.inj H
                try go_wp2
                replace HO_13 := Aside0.mk (Kd.R_drew HO_13.out)
                replace HO_21 := Aside0.mk (Kd.R_drew HO_21.out)
                replace HB := Aside0.mk (below_drew1 HB.out)
                have q87 : (t305 : Int) ≤ ((t300.length : Int) : Int) := of_decide_eq_true dt_
                obtain ⟨i087, hi087, _, hsz87, _⟩ := info_parts info5
                have hroom87 : t300.length ≤ co52 := (Kd.R_reads' HO_13.out).2.1
                have hC87 : Kd.C (Kd.int .u8) _ Ao52 t300.length t300 := (Kd.R_reads' HO_13.out).2.2
                have ql87 : (t301 : Int) ≤ (t305 : Int) := of_decide_eq_true dt_
                have q087 : (0 : Int) ≤ (t301 : Int) := of_decide_eq_true dt_
                have hcut87 := cut_mid (P := Try.prog) 61 5 .i64 .i64 Try.underlying61 hi087 1 hsz87 Ao52 t300.length co52 t301 t305 q087 ql87 q87 hroom87
                have hr87 := Kd.C_mid (lo := (t301 : Int).toNat) (hi := (t305 : Int).toNat) (c := co52) hC87 (by omega) (by omega) hroom87
                obtain ⟨A87, hA87⟩ : ∃ A1, A1 = (if co52 = (t301 : Int).toNat then Ao52 else (Ao52 : Option Addr).map (·.add ((t301 : Int).toNat * 1))) := ⟨_, rfl⟩
                obtain ⟨c87, hc87⟩ : ∃ c1, c1 = co52 - (t301 : Int).toNat := ⟨_, rfl⟩
                have hy87 : y323.length = (t305 : Int).toNat - (t301 : Int).toNat := (qc8_)
                rw [show ((t300).take (t305 : Int).toNat).drop (t301 : Int).toNat = y323 from Ny323.out.symm] at hr87
                replace hr87 : Kd.C (Kd.int .u8) _ A87 y323.length y323 := (by rw [hA87]; exact hr87)
                rw [← hy87, ← hA87, ← hc87] at hcut87
                have HR326 := Aside0.mk hr87
                have HC326 := Aside0.mk (show y323.length ≤ c87 from by rw [hy87, hc87]; exact Nat.sub_le_sub_right (Nat.le_trans (by omega) hroom87) _)
                clear hr87 hC87 hroom87 hi087 hsz87 hc87
                have KY87 := Aside0.mk hy87
                have KA87 := Aside0.mk hA87
                clear hy87 hA87
                have KL87 := Aside0.mk (show (t305 : Int).toNat ≤ t300.length from by omega)
                have KM87 := Aside0.mk (show (t301 : Int).toNat ≤ (t305 : Int).toNat from by omega)
                replace q87 := eq_true q87
                refine start_ (n := 29) (S := fun w' => True) (ds := []) laws_FnBytes.m19 (by kernel_rfl) rfl rfl trivial (fun hHeld => ?_); refine with_tabW laws_FnBytes.tab21 laws_FnBytes.bits21 (fun HT_ HW_ => ?_)
                generalize wc.drew = w86 at HO_13 HO_21 HB HR326 hHeld ⊢
                refine pI_ 0 154 HT_ laws_FnBytes.m20 rfl rfl ?_
                refine pI_ 1 155 HT_ laws_FnBytes.m21 rfl rfl ?_
                refine pI_ 2 156 HT_ laws_FnBytes.m22 rfl rfl ?_
                refine pI_ 3 157 HT_ laws_FnBytes.m23 rfl rfl ?_
                refine pI_ 6 160 HT_ laws_FnBytes.m24 rfl rfl ?_
                refine pI_ 7 161 HT_ laws_FnBytes.m25 rfl rfl ?_
                refine pI_ 8 162 HT_ laws_FnBytes.m26 rfl rfl ?_
                refine pI_ 9 163 HT_ laws_FnBytes.m27 rfl rfl ?_
                refine join_ (σ := Value) 18 laws_FnBytes.m38 (fun s_ => [(158, s_), (159, .string (strOfNums t320)), (164, .string (strOfNums y323))]) (fun s_ w' => (Kd.R (Kd.int .u8) 5 w' w.heap.size (fun k_ => some k_ ≠ (.slice Ao52 t300.length co52 : Value).ownBlock ∧ some k_ ≠ (.slice Ao54 t310.length co54 : Value).ownBlock) s_ t320) ∧ (Kd.R (Kd.int .u8) 5 w' w.heap.size (fun k_ => some k_ ≠ (s_ : Value).ownBlock ∧ some k_ ≠ (.slice Ao54 t310.length co54 : Value).ownBlock) (.slice Ao52 t300.length co52) t300) ∧ (Kd.R (Kd.int .u8) 5 w' w.heap.size (fun k_ => some k_ ≠ (s_ : Value).ownBlock ∧ some k_ ≠ (.slice Ao52 t300.length co52 : Value).ownBlock) (.slice Ao54 t310.length co54) t310) ∧ (Kd.C (Kd.int .u8) w' A87 y323.length y323) ∧ (Below w.heap.size w w')) ?_ ?_
                rotate_left
                ·
                 as_aux_lemma =>
                 intro hCont
                 refine two_ (i := 4) (j := 10) (Ni := some 158) (Nj := some 164) laws_FnBytes.m36 laws_FnBytes.m37 rfl rfl rfl rfl (two_of HT_.out (by kernel_rfl)) (by decide) (by decide) (fun K hK => ?_) (fun K hK => ?_)
                 ·
                  as_aux_lemma =>
                  skip
                  refine goes_ Try.func35 (by kernel_rfl) rfl #[.int .i64 t304] (by rfl) rfl rfl sm_ ?_
                  with_reducible refine (impl_PutNum.calls kj49 t304 t320 _ A60.out).mono ?_
                  rintro e w88 ⟨v321, rfl, ho0, hb⟩
                  refine ⟨_, rfl, ?_⟩
                  have HO322 := Aside0.mk (Kd.R_lower (Kd.R_new' (Kd.R_new' ho0 (Kd.R_lt (rq_ HO_13.out))) (Kd.R_lt (rq_ HO_21.out))) (below_size (hb_ HB.out)))
                  replace HO_13 := Aside0.mk (Kd.R_elder' (rq_ HO_13.out) (Kd.R_base ho0) hb)
                  replace HO_21 := Aside0.mk (Kd.R_elder' (rq_ HO_21.out) (Kd.R_base ho0) hb)
                  replace HR326 := Aside0.mk (Kd.C_below (qc0_) hb)
                  replace HB := ch_ HB hb
                  (try clear hb); (try clear hb2); (try clear hk); (try clear hi); (try clear ho0)
                  refine hK.out _ _ trivial (fun hHeld => ?_)
                  clear hK K
                  refine nm_ ?_
                  refine two_ (i := 5) (j := 10) (Ni := some 159) (Nj := some 164) laws_FnBytes.m34 laws_FnBytes.m35 rfl rfl rfl rfl (two_of HT_.out (by kernel_rfl)) (by decide) (by decide) (fun K hK => ?_) (fun K hK => ?_)
                  ·
                   skip
                   have hcv89 := own_string (P := Try.prog) Try.underlying61 Try.underlying5 Try.underlying9 (Kd.own_of_R HO322.out)
                   refine value_ (w1 := ?_) (v := ?_) (by rfl) rfl ?_ ?_
                   rotate_left 2
                   ·
                    go_simp
                    constructor
                    ·
                     rfl
                    ·
                     rfl
                   clear hcv89
                   refine hK.out _ _ trivial (fun hHeld => ?_)
                   clear hK K
                   refine nm_ ?_
                   refine on_ 10 164 HT_ laws_FnBytes.m38 rfl rfl (fun K hK => ?_)
                   have hcv90 := Kd.C_string (P := Try.prog) (A := A87) (c := c87) Try.underlying61 Try.underlying5 Try.underlying9 (qc0_)
                   refine value_ (w1 := ?_) (v := ?_) (by rfl) rfl ?_ ?_
                   rotate_left 2
                   ·
                    go_simp
                    constructor
                    ·
                     rfl
                    ·
                     rfl
                   clear hcv90
                   refine hK.out _ _ trivial (fun hHeld => ?_)
                   clear hK K
                   refine nm_ ?_
                   exact norm_ (qc4_) (hCont (v321) _ ⟨(rm_ HO322.out), (rm_ HO_13.out), (rm_ HO_21.out), (qc0_), (hb_ HB.out)⟩)
                  ·
                   skip
                   have hcv89 := Kd.C_string (P := Try.prog) (A := A87) (c := c87) Try.underlying61 Try.underlying5 Try.underlying9 (qc0_)
                   refine value_ (w1 := ?_) (v := ?_) (by rfl) rfl ?_ ?_
                   rotate_left 2
                   ·
                    go_simp
                    constructor
                    ·
                     rfl
                    ·
                     rfl
                   clear hcv89
                   refine hK.out _ _ trivial (fun hHeld => ?_)
                   clear hK K
                   refine nm_ ?_
                   refine on_ 5 159 HT_ laws_FnBytes.m38 rfl rfl (fun K hK => ?_)
                   have hcv90 := own_string (P := Try.prog) Try.underlying61 Try.underlying5 Try.underlying9 (Kd.own_of_R HO322.out)
                   refine value_ (w1 := ?_) (v := ?_) (by rfl) rfl ?_ ?_
                   rotate_left 2
                   ·
                    go_simp
                    constructor
                    ·
                     rfl
                    ·
                     rfl
                   clear hcv90
                   refine hK.out _ _ trivial (fun hHeld => ?_)
                   clear hK K
                   refine nm_ ?_
                   exact norm_ (qc4_) (hCont (v321) _ ⟨(rm_ HO322.out), (rm_ HO_13.out), (rm_ HO_21.out), (qc0_), (hb_ HB.out)⟩)
                 ·
                  skip
                  have hcv88 := Kd.C_string (P := Try.prog) (A := A87) (c := c87) Try.underlying61 Try.underlying5 Try.underlying9 (qc0_)
                  refine value_ (w1 := ?_) (v := ?_) (by rfl) rfl ?_ ?_
                  rotate_left 2
                  ·
                   go_simp
                   constructor
                   ·
                    rfl
                   ·
                    rfl
                  clear hcv88
                  refine hK.out _ _ trivial (fun hHeld => ?_)
                  clear hK K
                  refine nm_ ?_
                  refine on_ 4 158 HT_ laws_FnBytes.m35 rfl rfl (fun K hK => ?_)
                  refine goes_ Try.func35 (by kernel_rfl) rfl #[.int .i64 t304] (by rfl) rfl rfl sm_ ?_
                  with_reducible refine (impl_PutNum.calls kj49 t304 t320 _ A60.out).mono ?_
                  rintro e w89 ⟨v321, rfl, ho0, hb⟩
                  refine ⟨_, rfl, ?_⟩
                  have HO322 := Aside0.mk (Kd.R_lower (Kd.R_new' (Kd.R_new' ho0 (Kd.R_lt (rq_ HO_13.out))) (Kd.R_lt (rq_ HO_21.out))) (below_size (hb_ HB.out)))
                  replace HO_13 := Aside0.mk (Kd.R_elder' (rq_ HO_13.out) (Kd.R_base ho0) hb)
                  replace HO_21 := Aside0.mk (Kd.R_elder' (rq_ HO_21.out) (Kd.R_base ho0) hb)
                  replace HR326 := Aside0.mk (Kd.C_below (qc0_) hb)
                  replace HB := ch_ HB hb
                  (try clear hb); (try clear hb2); (try clear hk); (try clear hi); (try clear ho0)
                  refine hK.out _ _ trivial (fun hHeld => ?_)
                  clear hK K
                  refine nm_ ?_
                  refine on_ 5 159 HT_ laws_FnBytes.m38 rfl rfl (fun K hK => ?_)
                  have hcv90 := own_string (P := Try.prog) Try.underlying61 Try.underlying5 Try.underlying9 (Kd.own_of_R HO322.out)
                  refine value_ (w1 := ?_) (v := ?_) (by rfl) rfl ?_ ?_
                  rotate_left 2
                  ·
                   go_simp
                   constructor
                   ·
                    rfl
                   ·
                    rfl
                  clear hcv90
                  refine hK.out _ _ trivial (fun hHeld => ?_)
                  clear hK K
                  refine nm_ ?_
                  exact norm_ (qc4_) (hCont (v321) _ ⟨(rm_ HO322.out), (rm_ HO_13.out), (rm_ HO_21.out), (qc0_), (hb_ HB.out)⟩)
                rintro v321 w91 ⟨h0_, h1_, h2_, h3_, h4_⟩
                have n0_ : Aside0 (Kd.R (Kd.int .u8) 5 w91 w.heap.size (fun k_ => some k_ ≠ (.slice Ao52 t300.length co52 : Value).ownBlock ∧ some k_ ≠ (.slice Ao54 t310.length co54 : Value).ownBlock) v321 t320) := ⟨h0_⟩
                have n1_ : Aside0 (Kd.R (Kd.int .u8) 5 w91 w.heap.size (fun k_ => some k_ ≠ (v321 : Value).ownBlock ∧ some k_ ≠ (.slice Ao54 t310.length co54 : Value).ownBlock) (.slice Ao52 t300.length co52) t300) := ⟨h1_⟩
                have n2_ : Aside0 (Kd.R (Kd.int .u8) 5 w91 w.heap.size (fun k_ => some k_ ≠ (v321 : Value).ownBlock ∧ some k_ ≠ (.slice Ao52 t300.length co52 : Value).ownBlock) (.slice Ao54 t310.length co54) t310) := ⟨h2_⟩
                have n3_ : Aside0 (Kd.C (Kd.int .u8) w91 A87 y323.length y323) := ⟨h3_⟩
                have n4_ : Aside0 (Below w.heap.size w w91) := ⟨h4_⟩
                clear HO_13
                clear HO_21
                clear HB
                clear h0_ h1_ h2_ h3_ h4_
                have HO322 := n0_
                have HO_13 := n1_
                have HO_21 := n2_
                have HR326 := n3_
                have HB := n4_
                clear n0_ n1_ n2_ n3_ n4_
                have hHeld := trivial
                refine norm_ (a' := ?_) ?_ ?_
                rotate_left; (focus simp only [putAll, Act.put, List.setIfInBounds_toArray, List.set_cons_zero, List.set_cons_succ]; rfl)
                refine pI_ 11 165 HT_ laws_FnBytes.m39 rfl rfl ?_
                refine pI_ 12 166 HT_ laws_FnBytes.m40 rfl rfl ?_
                refine pI_ 13 167 HT_ laws_FnBytes.m41 rfl rfl ?_
                refine pU_ 14 168 HT_ laws_FnBytes.m42 rfl rfl ?_
                refine pU_ 15 169 HT_ laws_FnBytes.m43 rfl rfl ?_
                refine pU_ 16 170 HT_ laws_FnBytes.m44 rfl rfl ?_
                refine pU_ 17 171 HT_ laws_FnBytes.m45 rfl rfl ?_
                refine pU_ 18 172 HT_ laws_FnBytes.m53 rfl rfl ?_
                refine pU_ 19 173 HT_ laws_FnBytes.m54 rfl rfl ?_
                refine pU_ 20 174 HT_ laws_FnBytes.m55 rfl rfl ?_
                refine pU_ 21 175 HT_ laws_FnBytes.m56 rfl rfl ?_
                refine pU_ 22 176 HT_ laws_FnBytes.m57 rfl rfl ?_
                refine pU_ 23 177 HT_ laws_FnBytes.m29 rfl rfl ?_
                refine pU_ 24 178 HT_ laws_FnBytes.m28 rfl rfl ?_
                refine pU_ 25 179 HT_ laws_FnBytes.m49 rfl rfl ?_
                refine pU_ 26 180 HT_ laws_FnBytes.m50 rfl rfl ?_
                refine pI_ 27 181 HT_ laws_FnBytes.m51 rfl rfl ?_
                refine pI_ 28 2 HT_ laws_FnBytes.m52 rfl rfl ?_
                refine done_ (done_of HT_.out (by kernel_rfl)) ?_
                try go_wp2
                go_ret
                exact ⟨er_, hb_ HB.out⟩
              ·
               rw [if_neg c63] at H
               exact absurd H (by simp)
             ·
              rw [if_neg c62] at H
              exact absurd H (by simp)
            ·
             rw [if_neg c61] at H
             exact absurd H (by simp)
           ·
            as_aux_lemma =>
            replace c59 := Bool.eq_false_iff.mpr c59
            subst c59
            have H1 : (if t316 = true then ((impl_PutText.f kj49 t314).bind fun t334 => (if 0 ≤ t311 then (if t311 ≤ t315 then (if t315 ≤ (t310.length : Int) then (some ((strOfNums t334).toList == (strOfNums ((t310.take (t315 : Int).toNat).drop (t311 : Int).toNat)).toList)) else (none)) else (none)) else (none))) else (some true)) = some r := by rw [if_neg (show ¬ (false = true) by decide)] at H; exact H
            clear H
            have H := H1
            clear H1
            by_cases c92 : t316 = true
            ·
             as_aux_lemma =>
             subst c92
             have H1 : ((impl_PutText.f kj49 t314).bind fun t334 => (if 0 ≤ t311 then (if t311 ≤ t315 then (if t315 ≤ (t310.length : Int) then (some ((strOfNums t334).toList == (strOfNums ((t310.take (t315 : Int).toNat).drop (t311 : Int).toNat)).toList)) else (none)) else (none)) else (none))) = some r := by rw [if_pos rfl] at H; exact H
             clear H
             have H := H1
             clear H1
             replace H := Option.bind_eq_some_iff.mp H
             obtain ⟨t334, A930, H⟩ := H
             replace H : (if 0 ≤ t311 then (if t311 ≤ t315 then (if t315 ≤ (t310.length : Int) then (some ((strOfNums t334).toList == (strOfNums ((t310.take (t315 : Int).toNat).drop (t311 : Int).toNat)).toList)) else (none)) else (none)) else (none)) = some r := H
             have A93 := Aside0.mk A930
             clear A930
             by_cases c94 : 0 ≤ t311
             ·
              as_aux_lemma =>
              rw [if_pos c94] at H
              have c94b0 := eq_true c94
              have c94b1 : decide (0 ≤ t311) = true := decide_eq_true c94
              clear c94
              by_cases c95 : t311 ≤ t315
              ·
               as_aux_lemma =>
               rw [if_pos c95] at H
               have c95b0 := eq_true c95
               have c95b1 : decide (t311 ≤ t315) = true := decide_eq_true c95
               clear c95
               by_cases c96 : t315 ≤ (t310.length : Int)
               ·
                as_aux_lemma =>
                rw [if_pos c96] at H
                have c96b0 := eq_true c96
                have c96b1 : decide (t315 ≤ (t310.length : Int)) = true := decide_eq_true c96
                clear c96
                obtain ⟨y337, hy337⟩ : ∃ y_ : List Int, y_ = ((t310.take (t315 : Int).toNat).drop (t311 : Int).toNat) := ⟨_, rfl⟩
                replace H : (some ((strOfNums t334).toList == (strOfNums y337).toList)) = some r := by first | (rw [hy337]; with_reducible exact H) | (have H2_ := (Option.bind_some _ _).symm.trans H; rw [hy337]; with_reducible exact H2_) | (have H2_ := (Option.bind_some _ _).symm.trans H; with_reducible exact H2_) | with_reducible exact H | (rw [hy337]; exact H) | exact H
                have Ny337 := Aside0.mk hy337
                clear hy337
                obtain rfl := Option.some.inj H
                try go_wp2
                replace HO_13 := Aside0.mk (Kd.R_drew HO_13.out)
                replace HO_21 := Aside0.mk (Kd.R_drew HO_21.out)
                replace HB := Aside0.mk (below_drew1 HB.out)
                have q98 : (t315 : Int) ≤ ((t310.length : Int) : Int) := of_decide_eq_true dt_
                obtain ⟨i098, hi098, _, hsz98, _⟩ := info_parts info5
                have hroom98 : t310.length ≤ co54 := (Kd.R_reads' HO_21.out).2.1
                have hC98 : Kd.C (Kd.int .u8) _ Ao54 t310.length t310 := (Kd.R_reads' HO_21.out).2.2
                have ql98 : (t311 : Int) ≤ (t315 : Int) := of_decide_eq_true dt_
                have q098 : (0 : Int) ≤ (t311 : Int) := of_decide_eq_true dt_
                have hcut98 := cut_mid (P := Try.prog) 61 5 .i64 .i64 Try.underlying61 hi098 1 hsz98 Ao54 t310.length co54 t311 t315 q098 ql98 q98 hroom98
                have hr98 := Kd.C_mid (lo := (t311 : Int).toNat) (hi := (t315 : Int).toNat) (c := co54) hC98 (by omega) (by omega) hroom98
                obtain ⟨A98, hA98⟩ : ∃ A1, A1 = (if co54 = (t311 : Int).toNat then Ao54 else (Ao54 : Option Addr).map (·.add ((t311 : Int).toNat * 1))) := ⟨_, rfl⟩
                obtain ⟨c98, hc98⟩ : ∃ c1, c1 = co54 - (t311 : Int).toNat := ⟨_, rfl⟩
                have hy98 : y337.length = (t315 : Int).toNat - (t311 : Int).toNat := (by rw [Ny337.out, List.length_drop, List.length_take] <;> omega)
                rw [show ((t310).take (t315 : Int).toNat).drop (t311 : Int).toNat = y337 from Ny337.out.symm] at hr98
                replace hr98 : Kd.C (Kd.int .u8) _ A98 y337.length y337 := (by rw [hA98]; exact hr98)
                rw [← hy98, ← hA98, ← hc98] at hcut98
                have HR340 := Aside0.mk hr98
                have HC340 := Aside0.mk (show y337.length ≤ c98 from by rw [hy98, hc98]; exact Nat.sub_le_sub_right (Nat.le_trans (by omega) hroom98) _)
                clear hr98 hC98 hroom98 hi098 hsz98 hc98
                have KY98 := Aside0.mk hy98
                have KA98 := Aside0.mk hA98
                clear hy98 hA98
                have KL98 := Aside0.mk (show (t315 : Int).toNat ≤ t310.length from by omega)
                have KM98 := Aside0.mk (show (t311 : Int).toNat ≤ (t315 : Int).toNat from by omega)
                replace q98 := eq_true q98
                refine start_ (n := 29) (S := fun w' => True) (ds := []) laws_FnBytes.m19 (by kernel_rfl) rfl rfl trivial (fun hHeld => ?_); refine with_tabW laws_FnBytes.tab21 laws_FnBytes.bits21 (fun HT_ HW_ => ?_)
                generalize wc.drew = w97 at HO_13 HO_21 HB HR340 hHeld ⊢
                refine pI_ 0 154 HT_ laws_FnBytes.m20 rfl rfl ?_
                refine pI_ 1 155 HT_ laws_FnBytes.m21 rfl rfl ?_
                refine pI_ 2 156 HT_ laws_FnBytes.m22 rfl rfl ?_
                refine pU_ 3 157 HT_ laws_FnBytes.m23 rfl rfl ?_
                refine pU_ 4 158 HT_ laws_FnBytes.m58 rfl rfl ?_
                refine pU_ 5 159 HT_ laws_FnBytes.m59 rfl rfl ?_
                refine pU_ 6 160 HT_ laws_FnBytes.m60 rfl rfl ?_
                refine pU_ 7 161 HT_ laws_FnBytes.m61 rfl rfl ?_
                refine pU_ 8 162 HT_ laws_FnBytes.m62 rfl rfl ?_
                refine pU_ 9 163 HT_ laws_FnBytes.m34 rfl rfl ?_
                refine pU_ 10 164 HT_ laws_FnBytes.m38 rfl rfl ?_
                refine pU_ 11 165 HT_ laws_FnBytes.m39 rfl rfl ?_
                refine pI_ 12 166 HT_ laws_FnBytes.m40 rfl rfl ?_
                refine pI_ 13 167 HT_ laws_FnBytes.m41 rfl rfl ?_
                refine pI_ 14 168 HT_ laws_FnBytes.m42 rfl rfl ?_
                refine pI_ 15 169 HT_ laws_FnBytes.m43 rfl rfl ?_
                refine pI_ 16 170 HT_ laws_FnBytes.m44 rfl rfl ?_
                refine pI_ 17 171 HT_ laws_FnBytes.m45 rfl rfl ?_
                refine pI_ 20 174 HT_ laws_FnBytes.m46 rfl rfl ?_
                refine pI_ 21 175 HT_ laws_FnBytes.m47 rfl rfl ?_
                refine pI_ 22 176 HT_ laws_FnBytes.m48 rfl rfl ?_
                refine pI_ 23 177 HT_ laws_FnBytes.m33 rfl rfl ?_
                refine join_ (σ := Value) 4 laws_FnBytes.m28 (fun s_ => [(172, s_), (173, .string (strOfNums t334)), (178, .string (strOfNums y337))]) (fun s_ w' => (Kd.R (Kd.int .u8) 5 w' w.heap.size (fun k_ => some k_ ≠ (.slice Ao52 t300.length co52 : Value).ownBlock ∧ some k_ ≠ (.slice Ao54 t310.length co54 : Value).ownBlock) s_ t334) ∧ (Kd.R (Kd.int .u8) 5 w' w.heap.size (fun k_ => some k_ ≠ (s_ : Value).ownBlock ∧ some k_ ≠ (.slice Ao54 t310.length co54 : Value).ownBlock) (.slice Ao52 t300.length co52) t300) ∧ (Kd.R (Kd.int .u8) 5 w' w.heap.size (fun k_ => some k_ ≠ (s_ : Value).ownBlock ∧ some k_ ≠ (.slice Ao52 t300.length co52 : Value).ownBlock) (.slice Ao54 t310.length co54) t310) ∧ (Kd.C (Kd.int .u8) w' A98 y337.length y337) ∧ (Below w.heap.size w w')) ?_ ?_
                rotate_left
                ·
                 as_aux_lemma =>
                 intro hCont
                 refine two_ (i := 18) (j := 24) (Ni := some 172) (Nj := some 178) laws_FnBytes.m31 laws_FnBytes.m32 rfl rfl rfl rfl (two_of HT_.out (by kernel_rfl)) (by decide) (by decide) (fun K hK => ?_) (fun K hK => ?_)
                 ·
                  as_aux_lemma =>
                  skip
                  refine goes_ Try.func37 (by kernel_rfl) rfl #[.string t314] (by rfl) rfl rfl sm_ ?_
                  with_reducible refine (impl_PutText.calls kj49 t314 t334 _ A93.out).mono ?_
                  rintro e w99 ⟨v335, rfl, ho0, hb⟩
                  refine ⟨_, rfl, ?_⟩
                  have HO336 := Aside0.mk (Kd.R_lower (Kd.R_new' (Kd.R_new' ho0 (Kd.R_lt (rq_ HO_13.out))) (Kd.R_lt (rq_ HO_21.out))) (below_size (hb_ HB.out)))
                  replace HO_13 := Aside0.mk (Kd.R_elder' (rq_ HO_13.out) (Kd.R_base ho0) hb)
                  replace HO_21 := Aside0.mk (Kd.R_elder' (rq_ HO_21.out) (Kd.R_base ho0) hb)
                  replace HR340 := Aside0.mk (Kd.C_below (qc3_) hb)
                  replace HB := ch_ HB hb
                  (try clear hb); (try clear hb2); (try clear hk); (try clear hi); (try clear ho0)
                  refine hK.out _ _ trivial (fun hHeld => ?_)
                  clear hK K
                  refine nm_ ?_
                  refine two_ (i := 19) (j := 24) (Ni := some 173) (Nj := some 178) laws_FnBytes.m29 laws_FnBytes.m30 rfl rfl rfl rfl (two_of HT_.out (by kernel_rfl)) (by decide) (by decide) (fun K hK => ?_) (fun K hK => ?_)
                  ·
                   skip
                   have hcv100 := own_string (P := Try.prog) Try.underlying61 Try.underlying5 Try.underlying9 (Kd.own_of_R HO336.out)
                   refine value_ (w1 := ?_) (v := ?_) (by rfl) rfl ?_ ?_
                   rotate_left 2
                   ·
                    go_simp
                    constructor
                    ·
                     rfl
                    ·
                     rfl
                   clear hcv100
                   refine hK.out _ _ trivial (fun hHeld => ?_)
                   clear hK K
                   refine nm_ ?_
                   refine on_ 24 178 HT_ laws_FnBytes.m28 rfl rfl (fun K hK => ?_)
                   have hcv101 := Kd.C_string (P := Try.prog) (A := A98) (c := c98) Try.underlying61 Try.underlying5 Try.underlying9 (qc3_)
                   refine value_ (w1 := ?_) (v := ?_) (by rfl) rfl ?_ ?_
                   rotate_left 2
                   ·
                    go_simp
                    constructor
                    ·
                     rfl
                    ·
                     rfl
                   clear hcv101
                   refine hK.out _ _ trivial (fun hHeld => ?_)
                   clear hK K
                   refine nm_ ?_
                   exact norm_ (qc4_) (hCont (v335) _ ⟨(rm_ HO336.out), (rm_ HO_13.out), (rm_ HO_21.out), (qc3_), (hb_ HB.out)⟩)
                  ·
                   skip
                   have hcv100 := Kd.C_string (P := Try.prog) (A := A98) (c := c98) Try.underlying61 Try.underlying5 Try.underlying9 (qc3_)
                   refine value_ (w1 := ?_) (v := ?_) (by rfl) rfl ?_ ?_
                   rotate_left 2
                   ·
                    go_simp
                    constructor
                    ·
                     rfl
                    ·
                     rfl
                   clear hcv100
                   refine hK.out _ _ trivial (fun hHeld => ?_)
                   clear hK K
                   refine nm_ ?_
                   refine on_ 19 173 HT_ laws_FnBytes.m28 rfl rfl (fun K hK => ?_)
                   have hcv101 := own_string (P := Try.prog) Try.underlying61 Try.underlying5 Try.underlying9 (Kd.own_of_R HO336.out)
                   refine value_ (w1 := ?_) (v := ?_) (by rfl) rfl ?_ ?_
                   rotate_left 2
                   ·
                    go_simp
                    constructor
                    ·
                     rfl
                    ·
                     rfl
                   clear hcv101
                   refine hK.out _ _ trivial (fun hHeld => ?_)
                   clear hK K
                   refine nm_ ?_
                   exact norm_ (qc4_) (hCont (v335) _ ⟨(rm_ HO336.out), (rm_ HO_13.out), (rm_ HO_21.out), (qc3_), (hb_ HB.out)⟩)
                 ·
                  skip
                  have hcv99 := Kd.C_string (P := Try.prog) (A := A98) (c := c98) Try.underlying61 Try.underlying5 Try.underlying9 (qc3_)
                  refine value_ (w1 := ?_) (v := ?_) (by rfl) rfl ?_ ?_
                  rotate_left 2
                  ·
                   go_simp
                   constructor
                   ·
                    rfl
                   ·
                    rfl
                  clear hcv99
                  refine hK.out _ _ trivial (fun hHeld => ?_)
                  clear hK K
                  refine nm_ ?_
                  refine on_ 18 172 HT_ laws_FnBytes.m30 rfl rfl (fun K hK => ?_)
                  refine goes_ Try.func37 (by kernel_rfl) rfl #[.string t314] (by rfl) rfl rfl sm_ ?_
                  with_reducible refine (impl_PutText.calls kj49 t314 t334 _ A93.out).mono ?_
                  rintro e w100 ⟨v335, rfl, ho0, hb⟩
                  refine ⟨_, rfl, ?_⟩
                  have HO336 := Aside0.mk (Kd.R_lower (Kd.R_new' (Kd.R_new' ho0 (Kd.R_lt (rq_ HO_13.out))) (Kd.R_lt (rq_ HO_21.out))) (below_size (hb_ HB.out)))
                  replace HO_13 := Aside0.mk (Kd.R_elder' (rq_ HO_13.out) (Kd.R_base ho0) hb)
                  replace HO_21 := Aside0.mk (Kd.R_elder' (rq_ HO_21.out) (Kd.R_base ho0) hb)
                  replace HR340 := Aside0.mk (Kd.C_below (qc3_) hb)
                  replace HB := ch_ HB hb
                  (try clear hb); (try clear hb2); (try clear hk); (try clear hi); (try clear ho0)
                  refine hK.out _ _ trivial (fun hHeld => ?_)
                  clear hK K
                  refine nm_ ?_
                  refine on_ 19 173 HT_ laws_FnBytes.m28 rfl rfl (fun K hK => ?_)
                  have hcv101 := own_string (P := Try.prog) Try.underlying61 Try.underlying5 Try.underlying9 (Kd.own_of_R HO336.out)
                  refine value_ (w1 := ?_) (v := ?_) (by rfl) rfl ?_ ?_
                  rotate_left 2
                  ·
                   go_simp
                   constructor
                   ·
                    rfl
                   ·
                    rfl
                  clear hcv101
                  refine hK.out _ _ trivial (fun hHeld => ?_)
                  clear hK K
                  refine nm_ ?_
                  exact norm_ (qc4_) (hCont (v335) _ ⟨(rm_ HO336.out), (rm_ HO_13.out), (rm_ HO_21.out), (qc3_), (hb_ HB.out)⟩)
                rintro v335 w102 ⟨h0_, h1_, h2_, h3_, h4_⟩
                have n0_ : Aside0 (Kd.R (Kd.int .u8) 5 w102 w.heap.size (fun k_ => some k_ ≠ (.slice Ao52 t300.length co52 : Value).ownBlock ∧ some k_ ≠ (.slice Ao54 t310.length co54 : Value).ownBlock) v335 t334) := ⟨h0_⟩
                have n1_ : Aside0 (Kd.R (Kd.int .u8) 5 w102 w.heap.size (fun k_ => some k_ ≠ (v335 : Value).ownBlock ∧ some k_ ≠ (.slice Ao54 t310.length co54 : Value).ownBlock) (.slice Ao52 t300.length co52) t300) := ⟨h1_⟩
                have n2_ : Aside0 (Kd.R (Kd.int .u8) 5 w102 w.heap.size (fun k_ => some k_ ≠ (v335 : Value).ownBlock ∧ some k_ ≠ (.slice Ao52 t300.length co52 : Value).ownBlock) (.slice Ao54 t310.length co54) t310) := ⟨h2_⟩
                have n3_ : Aside0 (Kd.C (Kd.int .u8) w102 A98 y337.length y337) := ⟨h3_⟩
                have n4_ : Aside0 (Below w.heap.size w w102) := ⟨h4_⟩
                clear HO_13
                clear HO_21
                clear HB
                clear h0_ h1_ h2_ h3_ h4_
                have HO336 := n0_
                have HO_13 := n1_
                have HO_21 := n2_
                have HR340 := n3_
                have HB := n4_
                clear n0_ n1_ n2_ n3_ n4_
                have hHeld := trivial
                refine norm_ (a' := ?_) ?_ ?_
                rotate_left; (focus simp only [putAll, Act.put, List.setIfInBounds_toArray, List.set_cons_zero, List.set_cons_succ]; rfl)
                refine pI_ 25 179 HT_ laws_FnBytes.m49 rfl rfl ?_
                refine pI_ 26 180 HT_ laws_FnBytes.m50 rfl rfl ?_
                refine pI_ 27 181 HT_ laws_FnBytes.m51 rfl rfl ?_
                refine pI_ 28 2 HT_ laws_FnBytes.m52 rfl rfl ?_
                refine done_ (done_of HT_.out (by kernel_rfl)) ?_
                try go_wp2
                go_ret
                exact ⟨er_, hb_ HB.out⟩
               ·
                rw [if_neg c96] at H
                exact absurd H (by simp)
              ·
               rw [if_neg c95] at H
               exact absurd H (by simp)
             ·
              rw [if_neg c94] at H
              exact absurd H (by simp)
            ·
             replace c92 := Bool.eq_false_iff.mpr c92
             subst c92
             have H1 : (some true) = some r := by rw [if_neg (show ¬ (false = true) by decide)] at H; exact H
             clear H
             have H := H1
             clear H1
             obtain rfl := Option.some.inj H
             try go_wp2
             replace HO_13 := Aside0.mk (Kd.R_drew HO_13.out)
             replace HO_21 := Aside0.mk (Kd.R_drew HO_21.out)
             replace HB := Aside0.mk (below_drew1 HB.out)
             refine start_ (n := 29) (S := fun w' => True) (ds := []) laws_FnBytes.m19 (by kernel_rfl) rfl rfl trivial (fun hHeld => ?_); refine with_tabW laws_FnBytes.tab21 laws_FnBytes.bits21 (fun HT_ HW_ => ?_)
             generalize wc.drew = w103 at HO_13 HO_21 HB hHeld ⊢
             refine pI_ 0 154 HT_ laws_FnBytes.m20 rfl rfl ?_
             refine pI_ 1 155 HT_ laws_FnBytes.m21 rfl rfl ?_
             refine pI_ 2 156 HT_ laws_FnBytes.m22 rfl rfl ?_
             refine pU_ 3 157 HT_ laws_FnBytes.m23 rfl rfl ?_
             refine pU_ 4 158 HT_ laws_FnBytes.m58 rfl rfl ?_
             refine pU_ 5 159 HT_ laws_FnBytes.m59 rfl rfl ?_
             refine pU_ 6 160 HT_ laws_FnBytes.m60 rfl rfl ?_
             refine pU_ 7 161 HT_ laws_FnBytes.m61 rfl rfl ?_
             refine pU_ 8 162 HT_ laws_FnBytes.m62 rfl rfl ?_
             refine pU_ 9 163 HT_ laws_FnBytes.m34 rfl rfl ?_
             refine pU_ 10 164 HT_ laws_FnBytes.m38 rfl rfl ?_
             refine pU_ 11 165 HT_ laws_FnBytes.m39 rfl rfl ?_
             refine pI_ 12 166 HT_ laws_FnBytes.m40 rfl rfl ?_
             refine pI_ 13 167 HT_ laws_FnBytes.m41 rfl rfl ?_
             refine pI_ 14 168 HT_ laws_FnBytes.m42 rfl rfl ?_
             refine pI_ 15 169 HT_ laws_FnBytes.m43 rfl rfl ?_
             refine pI_ 16 170 HT_ laws_FnBytes.m44 rfl rfl ?_
             refine pU_ 17 171 HT_ laws_FnBytes.m45 rfl rfl ?_
             refine pU_ 18 172 HT_ laws_FnBytes.m53 rfl rfl ?_
             refine pU_ 19 173 HT_ laws_FnBytes.m54 rfl rfl ?_
             refine pU_ 20 174 HT_ laws_FnBytes.m55 rfl rfl ?_
             refine pU_ 21 175 HT_ laws_FnBytes.m56 rfl rfl ?_
             refine pU_ 22 176 HT_ laws_FnBytes.m57 rfl rfl ?_
             refine pU_ 23 177 HT_ laws_FnBytes.m29 rfl rfl ?_
             refine pU_ 24 178 HT_ laws_FnBytes.m28 rfl rfl ?_
             refine pU_ 25 179 HT_ laws_FnBytes.m49 rfl rfl ?_
             refine pI_ 26 180 HT_ laws_FnBytes.m50 rfl rfl ?_
             refine pI_ 27 181 HT_ laws_FnBytes.m51 rfl rfl ?_
             refine pI_ 28 2 HT_ laws_FnBytes.m52 rfl rfl ?_
             refine done_ (done_of HT_.out (by kernel_rfl)) ?_
             try go_wp2
             go_ret
             exact ⟨er_, hb_ HB.out⟩

/-- THE ONE PURE STATEMENT of laws_FnBytes: yours. -/
def laws_FnBytes.Pure : Prop := ∀ (l0 : List Int), l0.length ≤ maxLen → l0.length * 1 ≤ 140737488351232 → (∀ x ∈ l0, (Lit.int .u8 x).wf = true) → ∃ k, laws_FnBytes.f k l0 = some true
theorem laws_FnBytes.walk (P : laws_FnBytes.Pure) (a0 : Option Addr) (len0 cap0 : Nat) (z0 : List Int) (w : World) (w0 : (a0 = none ∧ len0 = 0 ∧ cap0 = 0 ∧ z0 = []) ∨ ∃ x, a0 = some x ∧ len0 ≤ cap0 ∧ cap0 ≤ maxLen ∧ z0.length = cap0 ∧ (∀ i, i < z0.length → w.cell? (x.add i) = some (.int .u8 (z0.getD i 0))) ∧ ∀ n ∈ z0, (Lit.int .u8 n).wf = true) (y0 : len0 * 1 ≤ 140737488351232) :
 Calls Try.prog 7 #[.slice a0 len0 cap0] w fun e w' => e = .returned (.bool true) ∧ Below w.heap.size w w' := by
 obtain ⟨l0, rfl, hr0, hm0, hw0, hc0⟩ := ReadsInt.ofRowC w0
 obtain ⟨k, h⟩ := P l0 hm0 y0 hw0
 refine (laws_FnBytes.calls k _ _ l0 true w (Kd.C_of_reads (d := (0 : Int)) (h1 := fun _ => rfl) hr0) hc0 h).mono ?_
 rintro e w' ⟨rfl, hd⟩
 exact ⟨rfl, hd⟩
end Go.Proofs.Ytgkeapbeogmfjaa.Q
