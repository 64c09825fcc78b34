/- Made by a program of ours out of the print of the loaded functions: for each of some functions a plain function, and the walk that shows that a call comes to what it says. No condition but those of each theorem. -/
import Derived.Test.YthmjhhkheohgfaaZFnMakers0
import Derived.Test.YthmjhhkheohgfaaZFnMakersa
import Derived.Test.YthmjhhkheohgfaaZFnMakersb
import Derived.Test.YthmjhhkheohgfaaZFnMakersc
import Derived.Test.YthmjhhkheohgfaaZFnMakersd
import Derived.Test.YthmjhhkheohgfaaZFnMakerse
import Derived.Test.YthmjhhkheohgfaaZFnMakersf
namespace Go.Proofs.Ythmjhhkheohgfaa.Q
open Go.RowKit Go.Proofs.YthmjhhkheohgfaaW.PrintWords Go.Proofs.YthmjhhkheohgfaaW.PrintLast Go.Proofs.YthmjhhkheohgfaaW.PrintMore
attribute [local go_sem] max2_int min2_int max_two min_two max_three min_three max_four min_four   -- for this text's walks alone
set_option linter.unusedVariables false
set_option linter.unusedSimpArgs false
theorem qg0_ {P : Prop} (h : P := by (with_reducible repeat (first | apply Kd.S_alloc | apply Kd.S_drewN | apply Kd.S_drew)); exact HO1035.out) : P := h
theorem qg1_ {P : Prop} (h : P := by (with_reducible repeat (first | apply Kd.S_alloc | apply Kd.S_drewN | apply Kd.S_drew)); exact HO1046.out) : P := h
theorem qg2_ {P : Prop} (h : P := by rw [qe_]; exact by (with_reducible repeat (first | apply Kd.S_alloc | apply Kd.S_drewN | apply Kd.S_drew)); exact Kd.S_mono (Kd.S_far (p := ⟨gb1060, 4, none⟩) (Kd.S_far (p := ⟨gb1060, 3, none⟩) (Kd.S_far (p := ⟨gb1060, 2, none⟩) (Kd.S_far (p := ⟨gb1060, 1, none⟩) (Kd.S_far (p := ⟨gb1060, 0, none⟩) (Kd.S_mono HO1051.out (fun k_ hk => (⟨hk, hk.2⟩ : _ ∧ k_ ≠ gb1060))) (fun _ hk => hk.2) (.int .i64 t1052)) (fun _ hk => hk.2) (.int .i64 t1053)) (fun _ hk => hk.2) (.int .i64 t1054)) (fun _ hk => hk.2) (.int .i64 t1055)) (fun _ hk => hk.2) (.slice Ao36 t1056.length co36)) (fun _ hk => ⟨hk.1.1.1.1.1.1.1.1.1.1.2, ⟨hk.1.1.1.1.1.1.1.1.1.2, ⟨hk.1.1.1.1.1.1.1.1.2, ⟨hk.1.1.1.1.1.1.1.2, ⟨hk.1.1.1.1.1.1.2, ⟨hk.1.1.2, ⟨hk.1.1.1.1.1.2, ⟨hk.1.1.1.1.2, ⟨hk.1.1.1.2, hk.1.2⟩⟩⟩⟩⟩⟩⟩⟩⟩)) : P := h
theorem qg3_ {P : Prop} (h : P := by rw [qe_]; exact by (with_reducible repeat (first | apply Kd.S_alloc | apply Kd.S_drewN | apply Kd.S_drew)); exact Kd.S_mono (Kd.S_far (p := ⟨gb1060, 4, none⟩) (Kd.S_far (p := ⟨gb1060, 3, none⟩) (Kd.S_far (p := ⟨gb1060, 2, none⟩) (Kd.S_far (p := ⟨gb1060, 1, none⟩) (Kd.S_far (p := ⟨gb1060, 0, none⟩) (Kd.S_mono HO1046.out (fun k_ hk => (⟨hk, hk.2⟩ : _ ∧ k_ ≠ gb1060))) (fun _ hk => hk.2) (.int .i64 t1052)) (fun _ hk => hk.2) (.int .i64 t1053)) (fun _ hk => hk.2) (.int .i64 t1054)) (fun _ hk => hk.2) (.int .i64 t1055)) (fun _ hk => hk.2) (.slice Ao36 t1056.length co36)) (fun _ hk => ⟨hk.1.1.1.1.1.1.1.1.1.1.2, ⟨hk.1.1.1.1.1.1.1.1.1.2, ⟨hk.1.1.1.1.1.1.1.1.2, ⟨hk.1.1.1.1.1.1.1.2, ⟨hk.1.1.1.2, ⟨hk.1.1.2, ⟨hk.1.1.1.1.1.1.2, ⟨hk.1.1.1.1.1.2, ⟨hk.1.1.1.1.2, hk.1.2⟩⟩⟩⟩⟩⟩⟩⟩⟩)) : P := h
theorem qg4_ {P : Prop} (h : P := by rw [qe_]; exact by (with_reducible repeat (first | apply Kd.S_alloc | apply Kd.S_drewN | apply Kd.S_drew)); exact Kd.S_mono (Kd.S_far (p := ⟨gb1060, 4, none⟩) (Kd.S_far (p := ⟨gb1060, 3, none⟩) (Kd.S_far (p := ⟨gb1060, 2, none⟩) (Kd.S_far (p := ⟨gb1060, 1, none⟩) (Kd.S_far (p := ⟨gb1060, 0, none⟩) (Kd.S_mono HO1035.out (fun k_ hk => (⟨hk, hk.2⟩ : _ ∧ k_ ≠ gb1060))) (fun _ hk => hk.2) (.int .i64 t1052)) (fun _ hk => hk.2) (.int .i64 t1053)) (fun _ hk => hk.2) (.int .i64 t1054)) (fun _ hk => hk.2) (.int .i64 t1055)) (fun _ hk => hk.2) (.slice Ao36 t1056.length co36)) (fun _ hk => ⟨hk.1.1.1.1.1.1.1.1.1.2, ⟨hk.1.1.1.1.1.1.1.1.2, ⟨hk.1.1.1.1.1.1.1.1.1.1, ⟨hk.1.1.1.1.2, ⟨hk.1.1.1.2, ⟨hk.1.1.2, ⟨hk.1.1.1.1.1.1.1.2, ⟨hk.1.1.1.1.1.1.2, ⟨hk.1.1.1.1.1.2, hk.1.2⟩⟩⟩⟩⟩⟩⟩⟩⟩)) : P := h
theorem qg5_ {P : Prop} (h : P := by (with_reducible repeat (first | apply Kd.S_alloc | apply Kd.S_drewN | apply Kd.S_drew)); exact HO1051.out) : P := h
theorem qg6_ {P : Prop} (h : P := by rw [qe_]; exact by (with_reducible repeat (first | apply Kd.R_alloc | apply Kd.R_drewN | apply Kd.R_drew)); exact Kd.R_mono (Kd.R_far (p := ⟨gb1060, 4, none⟩) (Kd.R_far (p := ⟨gb1060, 3, none⟩) (Kd.R_far (p := ⟨gb1060, 2, none⟩) (Kd.R_far (p := ⟨gb1060, 1, none⟩) (Kd.R_far (p := ⟨gb1060, 0, none⟩) (Kd.R_types HO1058.out BK1060.out (by decide)) (fun _ hk => hk.2) (.int .i64 t1052)) (fun _ hk => hk.2) (.int .i64 t1053)) (fun _ hk => hk.2) (.int .i64 t1054)) (fun _ hk => hk.2) (.int .i64 t1055)) (fun _ hk => hk.2) (.slice Ao36 t1056.length co36)) (fun _ hk => ⟨hk.1.1.1.2, ⟨hk.1.1.2, hk.1.2⟩⟩)) : P := h
theorem qg7_ {P : Prop} (h : P := by rw [qe_]; exact by (with_reducible repeat (first | apply Kd.R_alloc | apply Kd.R_drewN | apply Kd.R_drew)); exact Kd.R_mono (Kd.R_far (p := ⟨gb1060, 4, none⟩) (Kd.R_far (p := ⟨gb1060, 3, none⟩) (Kd.R_far (p := ⟨gb1060, 2, none⟩) (Kd.R_far (p := ⟨gb1060, 1, none⟩) (Kd.R_far (p := ⟨gb1060, 0, none⟩) (Kd.R_types HO1042.out BK1060.out (by decide)) (fun _ hk => hk.2) (.int .i64 t1052)) (fun _ hk => hk.2) (.int .i64 t1053)) (fun _ hk => hk.2) (.int .i64 t1054)) (fun _ hk => hk.2) (.int .i64 t1055)) (fun _ hk => hk.2) (.slice Ao36 t1056.length co36)) (fun _ hk => ⟨hk.1.1.1.2, ⟨hk.1.1.2, hk.1.2⟩⟩)) : P := h
theorem qg8_ {P : Prop} (h : P := by rw [qe_]; exact by (with_reducible repeat (first | apply Kd.R_alloc | apply Kd.R_drewN | apply Kd.R_drew)); exact Kd.R_mono (Kd.R_far (p := ⟨gb1060, 4, none⟩) (Kd.R_far (p := ⟨gb1060, 3, none⟩) (Kd.R_far (p := ⟨gb1060, 2, none⟩) (Kd.R_far (p := ⟨gb1060, 1, none⟩) (Kd.R_far (p := ⟨gb1060, 0, none⟩) (Kd.R_types HO1031.out BK1060.out (by decide)) (fun _ hk => hk.2) (.int .i64 t1052)) (fun _ hk => hk.2) (.int .i64 t1053)) (fun _ hk => hk.2) (.int .i64 t1054)) (fun _ hk => hk.2) (.int .i64 t1055)) (fun _ hk => hk.2) (.slice Ao36 t1056.length co36)) (fun _ hk => ⟨hk.1.1.1.2, ⟨hk.1.1.2, hk.1.2⟩⟩)) : P := h
theorem qg9_ {P : Prop} (h : P := by rw [qe_]; exact by (with_reducible repeat (first | apply Kd.R_alloc | apply Kd.R_drewN | apply Kd.R_drew)); exact Kd.R_mono (Kd.R_far (p := ⟨gb1060, 4, none⟩) (Kd.R_far (p := ⟨gb1060, 3, none⟩) (Kd.R_far (p := ⟨gb1060, 2, none⟩) (Kd.R_far (p := ⟨gb1060, 1, none⟩) (Kd.R_far (p := ⟨gb1060, 0, none⟩) (Kd.R_types HO1019.out BK1060.out (by decide)) (fun _ hk => hk.2) (.int .i64 t1052)) (fun _ hk => hk.2) (.int .i64 t1053)) (fun _ hk => hk.2) (.int .i64 t1054)) (fun _ hk => hk.2) (.int .i64 t1055)) (fun _ hk => hk.2) (.slice Ao36 t1056.length co36)) (fun _ hk => ⟨hk.1.1.1.2, ⟨hk.1.1.2, hk.1.2⟩⟩)) : P := h
theorem qg10_ {P : Prop} (h : P := by (with_reducible repeat (first | apply Kd.S_alloc | apply Kd.S_drewN | apply Kd.S_drew)); exact (Kd.S_mono (Kd.S_far (p := ⟨gb1043, 4, none⟩) (Kd.S_far (p := ⟨gb1043, 3, none⟩) (Kd.S_far (p := ⟨gb1043, 2, none⟩) (Kd.S_far (p := ⟨gb1043, 1, none⟩) (Kd.S_far (p := ⟨gb1043, 0, none⟩) (Kd.S_mono HO1035.out (fun k_ hk => (⟨hk, hk.2⟩ : _ ∧ k_ ≠ gb1043))) (fun _ hk => hk.2) (.int .i64 t1036)) (fun _ hk => hk.2) (.int .i64 t1037)) (fun _ hk => hk.2) (.int .i64 t1038)) (fun _ hk => hk.2) (.int .i64 t1039)) (fun _ hk => hk.2) (.slice Ao26 t1040.length co26)) (fun _ h_ => h_.1))) : P := h
theorem qg11_ {P : Prop} (h : P := by (with_reducible repeat (first | apply Kd.S_alloc | apply Kd.S_drewN | apply Kd.S_drew)); exact HO1071.out) : P := h
theorem qg12_ {P : Prop} (h : P := by (with_reducible repeat (first | apply Kd.S_alloc | apply Kd.S_drewN | apply Kd.S_drew)); exact Kd.S_mono HO1046.out (fun _ hk => ⟨hk.1.1.1.1.1, ⟨hk.1.1.1.1.2.1, ⟨hk.1.1.1.1.2.2.2.1, ⟨hk.1.1.1.1.2.2.2.2.2.1, ⟨hk.1.1.1.1.2.2.2.2.2.2.1, ⟨hk.1.1.1.1.2.2.2.2.2.2.2.1, ⟨hk.1.1.1.1.2.2.2.2.2.2.2.2.1, hk.1.1.1.1.2.2.2.2.2.2.2.2.2⟩⟩⟩⟩⟩⟩⟩)) : P := h
theorem qg13_ {P : Prop} (h : P := by (with_reducible repeat (first | apply Kd.S_alloc | apply Kd.S_drewN | apply Kd.S_drew)); exact HO_11.out) : P := h
theorem qg14_ {P : Prop} (h : P := by have := HJ2.out; first | omega | exact Nat.le_refl _) : P := h
theorem qg15_ {P : Prop} (h : P := by first | rfl | (simp; done) | (simp [*]; done)) : P := h

set_option maxHeartbeats 8000000 in
set_option maxRecDepth 100000 in
theorem laws_FnMakers.calls (k : Nat) (A0 : Option Addr) (c0 : Nat) (l0 : List Int) (r : Bool) (w : World) (hr0 : Kd.C (Kd.int .u8) w A0 l0.length l0) (hc0 : l0.length ≤ c0) (h : laws_FnMakers.f k l0 = some r) :
 Calls Try.prog 7 #[.slice A0 l0.length c0] w fun e w' => e = .returned (.bool r) ∧ Below w.heap.size w w' := by
 have hu38 := Try.underlying38
 have HR0 := Aside0.mk hr0
 have HC0 := Aside0.mk hc0
 clear hr0 hc0
 have HB := Aside0.mk (Below.refl w.heap.size w)
 have H : ((laws_big.f l0).bind fun t1012 => (if t1012 = true then (some true) else (laws_FnMakers.j0 k l0))) = some r := h
 clear h
 replace H := Option.bind_eq_some_iff.mp H
 obtain ⟨t1012, A20, H⟩ := H
 replace H : (if t1012 = true then (some true) else (laws_FnMakers.j0 k l0)) = some r := H
 have A2 := Aside0.mk A20
 clear A20
 have HC3 := Aside0.mk H
 clear H
 go_enter Try.func7, Try.ntmps7
 go_upto_if 20 with (first | ((with_reducible refine gate_callee (f := 9) rfl ?_); refine goesL_ (some 20) rfl rfl Try.func9 (by kernel_rfl) rfl #[.slice A0 l0.length c0] rfl sm_ ?_; (with_reducible refine (laws_big.calls _ _ l0 t1012 _ ?side1 ?side2 A2.out).mono ?_); (case side1 => repeat (first | exact HR0.out | (with_reducible refine Kd.C_alloc ?_ _) | (with_reducible refine Kd.C_drewN ?_ _) | (with_reducible refine Kd.C_drew ?_))); (case side2 => exact HC0.out); rintro e w' ⟨rfl, ⟨nd, rfl⟩⟩; refine ⟨_, rfl, ?_⟩))
 (try simp only [Act.put, List.setIfInBounds_toArray, List.set_cons_zero, List.set_cons_succ])
 go_cut [] (fun wc => ∃ (kq : Nat), Aside0 (laws_FnMakers.j0 kq l0 = some r) ∧ Aside0 (kq ≤ k) ∧ Aside0 (Below w.heap.size w wc))
 case first =>
  have H := HC3.out
  clear HC3
  by_cases c4 : t1012 = true
  ·
   subst c4
   have H1 : (some true) = some r := by rw [if_pos rfl] at H; exact H
   clear H
   have H := H1
   clear H1
   obtain rfl := Option.some.inj H
   go_wp2
   go_ret
   exact ⟨er_, hb_ HB.out⟩
  ·
   replace c4 := Bool.eq_false_iff.mpr c4
   subst c4
   have H1 : (laws_FnMakers.j0 k l0) = some r := by rw [if_neg (show ¬ (false = true) by decide)] at H; exact H
   clear H
   have H := H1
   clear H1
   have H' := Aside0.mk H
   clear H
   go_wp2
   go_meet
   case rel => exact ⟨_, H', ⟨by first | omega | exact Nat.le_refl _⟩, ⟨hb_ HB.out⟩⟩
 case rest =>
  clear HC3
  obtain ⟨kq, HA, HJ2, HB⟩ := hcut
  cases kq with
  | zero => exact absurd HA.out (by simp [laws_FnMakers.j0])
  | succ kj2 =>
   have H := HA.out
   clear HA
   simp only [laws_FnMakers.j0] at H
   replace H := Option.bind_eq_some_iff.mp H
   obtain ⟨⟨t1013, t1014, t1015, t1016, t1017, t1020, t1021, t1022, t1023⟩, A50, H⟩ := H
   replace H : ((impl_MakerPut.f kj2 t1013 t1014 t1015 t1016 t1017 t1020 t1021 t1022 t1023).bind fun bt1025 => ((spec_DrawMakerSet.f kj2 l0).bind fun bt1033 => ((impl_MakerSet.f kj2 bt1033.1 bt1033.2.1 bt1033.2.2.1 bt1033.2.2.2.1 bt1033.2.2.2.2.1 bt1033.2.2.2.2.2).bind fun t1044 => ((spec_DrawMakerOf.f kj2 l0).bind fun bt1047 => ((spec_DrawMakerOk.f kj2 l0).bind fun bt1052 => ((spec_MakerPut.f kj2 t1013 t1014 t1015 t1016 t1017 t1020 t1021 t1022 t1023).bind fun bt1061 => ((laws_sameMaker.f kj2 bt1025.1 bt1025.2.1 bt1025.2.2.1 bt1025.2.2.2.1 bt1025.2.2.2.2 bt1061.1 bt1061.2.1 bt1061.2.2.1 bt1061.2.2.2.1 bt1061.2.2.2.2).bind fun t1068 => (if t1068 = true then ((spec_MakerSet.f kj2 bt1033.1 bt1033.2.1 bt1033.2.2.1 bt1033.2.2.2.1 bt1033.2.2.2.2.1 bt1033.2.2.2.2.2).bind fun t1069 => (if (t1044.length : Int) = (t1069.length : Int) then ((impl_MakerOf.f kj2 bt1047.1 bt1047.2.1 bt1047.2.2).bind fun bt1072 => ((spec_MakerOf.f kj2 bt1047.1 bt1047.2.1 bt1047.2.2).bind fun bt1079 => ((laws_sameMaker.f kj2 bt1072.1 bt1072.2.1 bt1072.2.2.1 bt1072.2.2.2.1 bt1072.2.2.2.2 bt1079.1 bt1079.2.1 bt1079.2.2.1 bt1079.2.2.2.1 bt1079.2.2.2.2).bind fun t1086 => (if t1086 = true then ((impl_MakerOk.f kj2 bt1052.1 bt1052.2.1 bt1052.2.2.1 bt1052.2.2.2.1 bt1052.2.2.2.2.1 bt1052.2.2.2.2.2).bind fun t1087 => ((spec_MakerOk.f kj2 bt1052.1 bt1052.2.1 bt1052.2.2.1 bt1052.2.2.2.1 bt1052.2.2.2.2.1 bt1052.2.2.2.2.2).bind fun t1088 => (laws_FnMakers.j1 kj2 t1020 t1021 t1022 t1044 (t1087 != t1088) t1013 t1014 t1015 t1016 t1017 bt1025.1 bt1025.2.1 bt1025.2.2.1 bt1025.2.2.2.1 bt1025.2.2.2.2 bt1033.2.1 bt1033.2.2.1 bt1033.2.2.2.1 bt1033.2.2.2.2.1 bt1033.2.2.2.2.2))) else (laws_FnMakers.j1 kj2 t1020 t1021 t1022 t1044 true t1013 t1014 t1015 t1016 t1017 bt1025.1 bt1025.2.1 bt1025.2.2.1 bt1025.2.2.2.1 bt1025.2.2.2.2 bt1033.2.1 bt1033.2.2.1 bt1033.2.2.2.1 bt1033.2.2.2.2.1 bt1033.2.2.2.2.2))))) else (laws_FnMakers.j1 kj2 t1020 t1021 t1022 t1044 true t1013 t1014 t1015 t1016 t1017 bt1025.1 bt1025.2.1 bt1025.2.2.1 bt1025.2.2.2.1 bt1025.2.2.2.2 bt1033.2.1 bt1033.2.2.1 bt1033.2.2.2.1 bt1033.2.2.2.2.1 bt1033.2.2.2.2.2))) else (laws_FnMakers.j1 kj2 t1020 t1021 t1022 t1044 true t1013 t1014 t1015 t1016 t1017 bt1025.1 bt1025.2.1 bt1025.2.2.1 bt1025.2.2.2.1 bt1025.2.2.2.2 bt1033.2.1 bt1033.2.2.1 bt1033.2.2.2.1 bt1033.2.2.2.2.1 bt1033.2.2.2.2.2))))))))) = some r := H
   have A5 := Aside0.mk A50
   clear A50
   replace H := Option.bind_eq_some_iff.mp H
   obtain ⟨⟨t1025, t1026, t1027, t1028, t1029⟩, A60, H⟩ := H
   replace H : ((spec_DrawMakerSet.f kj2 l0).bind fun bt1033 => ((impl_MakerSet.f kj2 bt1033.1 bt1033.2.1 bt1033.2.2.1 bt1033.2.2.2.1 bt1033.2.2.2.2.1 bt1033.2.2.2.2.2).bind fun t1044 => ((spec_DrawMakerOf.f kj2 l0).bind fun bt1047 => ((spec_DrawMakerOk.f kj2 l0).bind fun bt1052 => ((spec_MakerPut.f kj2 t1013 t1014 t1015 t1016 t1017 t1020 t1021 t1022 t1023).bind fun bt1061 => ((laws_sameMaker.f kj2 t1025 t1026 t1027 t1028 t1029 bt1061.1 bt1061.2.1 bt1061.2.2.1 bt1061.2.2.2.1 bt1061.2.2.2.2).bind fun t1068 => (if t1068 = true then ((spec_MakerSet.f kj2 bt1033.1 bt1033.2.1 bt1033.2.2.1 bt1033.2.2.2.1 bt1033.2.2.2.2.1 bt1033.2.2.2.2.2).bind fun t1069 => (if (t1044.length : Int) = (t1069.length : Int) then ((impl_MakerOf.f kj2 bt1047.1 bt1047.2.1 bt1047.2.2).bind fun bt1072 => ((spec_MakerOf.f kj2 bt1047.1 bt1047.2.1 bt1047.2.2).bind fun bt1079 => ((laws_sameMaker.f kj2 bt1072.1 bt1072.2.1 bt1072.2.2.1 bt1072.2.2.2.1 bt1072.2.2.2.2 bt1079.1 bt1079.2.1 bt1079.2.2.1 bt1079.2.2.2.1 bt1079.2.2.2.2).bind fun t1086 => (if t1086 = true then ((impl_MakerOk.f kj2 bt1052.1 bt1052.2.1 bt1052.2.2.1 bt1052.2.2.2.1 bt1052.2.2.2.2.1 bt1052.2.2.2.2.2).bind fun t1087 => ((spec_MakerOk.f kj2 bt1052.1 bt1052.2.1 bt1052.2.2.1 bt1052.2.2.2.1 bt1052.2.2.2.2.1 bt1052.2.2.2.2.2).bind fun t1088 => (laws_FnMakers.j1 kj2 t1020 t1021 t1022 t1044 (t1087 != t1088) t1013 t1014 t1015 t1016 t1017 t1025 t1026 t1027 t1028 t1029 bt1033.2.1 bt1033.2.2.1 bt1033.2.2.2.1 bt1033.2.2.2.2.1 bt1033.2.2.2.2.2))) else (laws_FnMakers.j1 kj2 t1020 t1021 t1022 t1044 true t1013 t1014 t1015 t1016 t1017 t1025 t1026 t1027 t1028 t1029 bt1033.2.1 bt1033.2.2.1 bt1033.2.2.2.1 bt1033.2.2.2.2.1 bt1033.2.2.2.2.2))))) else (laws_FnMakers.j1 kj2 t1020 t1021 t1022 t1044 true t1013 t1014 t1015 t1016 t1017 t1025 t1026 t1027 t1028 t1029 bt1033.2.1 bt1033.2.2.1 bt1033.2.2.2.1 bt1033.2.2.2.2.1 bt1033.2.2.2.2.2))) else (laws_FnMakers.j1 kj2 t1020 t1021 t1022 t1044 true t1013 t1014 t1015 t1016 t1017 t1025 t1026 t1027 t1028 t1029 bt1033.2.1 bt1033.2.2.1 bt1033.2.2.2.1 bt1033.2.2.2.2.1 bt1033.2.2.2.2.2)))))))) = some r := H
   have A6 := Aside0.mk A60
   clear A60
   replace H := Option.bind_eq_some_iff.mp H
   obtain ⟨⟨t1033, t1036, t1037, t1038, t1039, t1040⟩, A70, H⟩ := H
   replace H : ((impl_MakerSet.f kj2 t1033 t1036 t1037 t1038 t1039 t1040).bind fun t1044 => ((spec_DrawMakerOf.f kj2 l0).bind fun bt1047 => ((spec_DrawMakerOk.f kj2 l0).bind fun bt1052 => ((spec_MakerPut.f kj2 t1013 t1014 t1015 t1016 t1017 t1020 t1021 t1022 t1023).bind fun bt1061 => ((laws_sameMaker.f kj2 t1025 t1026 t1027 t1028 t1029 bt1061.1 bt1061.2.1 bt1061.2.2.1 bt1061.2.2.2.1 bt1061.2.2.2.2).bind fun t1068 => (if t1068 = true then ((spec_MakerSet.f kj2 t1033 t1036 t1037 t1038 t1039 t1040).bind fun t1069 => (if (t1044.length : Int) = (t1069.length : Int) then ((impl_MakerOf.f kj2 bt1047.1 bt1047.2.1 bt1047.2.2).bind fun bt1072 => ((spec_MakerOf.f kj2 bt1047.1 bt1047.2.1 bt1047.2.2).bind fun bt1079 => ((laws_sameMaker.f kj2 bt1072.1 bt1072.2.1 bt1072.2.2.1 bt1072.2.2.2.1 bt1072.2.2.2.2 bt1079.1 bt1079.2.1 bt1079.2.2.1 bt1079.2.2.2.1 bt1079.2.2.2.2).bind fun t1086 => (if t1086 = true then ((impl_MakerOk.f kj2 bt1052.1 bt1052.2.1 bt1052.2.2.1 bt1052.2.2.2.1 bt1052.2.2.2.2.1 bt1052.2.2.2.2.2).bind fun t1087 => ((spec_MakerOk.f kj2 bt1052.1 bt1052.2.1 bt1052.2.2.1 bt1052.2.2.2.1 bt1052.2.2.2.2.1 bt1052.2.2.2.2.2).bind fun t1088 => (laws_FnMakers.j1 kj2 t1020 t1021 t1022 t1044 (t1087 != t1088) t1013 t1014 t1015 t1016 t1017 t1025 t1026 t1027 t1028 t1029 t1036 t1037 t1038 t1039 t1040))) else (laws_FnMakers.j1 kj2 t1020 t1021 t1022 t1044 true t1013 t1014 t1015 t1016 t1017 t1025 t1026 t1027 t1028 t1029 t1036 t1037 t1038 t1039 t1040))))) else (laws_FnMakers.j1 kj2 t1020 t1021 t1022 t1044 true t1013 t1014 t1015 t1016 t1017 t1025 t1026 t1027 t1028 t1029 t1036 t1037 t1038 t1039 t1040))) else (laws_FnMakers.j1 kj2 t1020 t1021 t1022 t1044 true t1013 t1014 t1015 t1016 t1017 t1025 t1026 t1027 t1028 t1029 t1036 t1037 t1038 t1039 t1040))))))) = some r := H
   have A7 := Aside0.mk A70
   clear A70
   replace H := Option.bind_eq_some_iff.mp H
   obtain ⟨t1044, A80, H⟩ := H
   replace H : ((spec_DrawMakerOf.f kj2 l0).bind fun bt1047 => ((spec_DrawMakerOk.f kj2 l0).bind fun bt1052 => ((spec_MakerPut.f kj2 t1013 t1014 t1015 t1016 t1017 t1020 t1021 t1022 t1023).bind fun bt1061 => ((laws_sameMaker.f kj2 t1025 t1026 t1027 t1028 t1029 bt1061.1 bt1061.2.1 bt1061.2.2.1 bt1061.2.2.2.1 bt1061.2.2.2.2).bind fun t1068 => (if t1068 = true then ((spec_MakerSet.f kj2 t1033 t1036 t1037 t1038 t1039 t1040).bind fun t1069 => (if (t1044.length : Int) = (t1069.length : Int) then ((impl_MakerOf.f kj2 bt1047.1 bt1047.2.1 bt1047.2.2).bind fun bt1072 => ((spec_MakerOf.f kj2 bt1047.1 bt1047.2.1 bt1047.2.2).bind fun bt1079 => ((laws_sameMaker.f kj2 bt1072.1 bt1072.2.1 bt1072.2.2.1 bt1072.2.2.2.1 bt1072.2.2.2.2 bt1079.1 bt1079.2.1 bt1079.2.2.1 bt1079.2.2.2.1 bt1079.2.2.2.2).bind fun t1086 => (if t1086 = true then ((impl_MakerOk.f kj2 bt1052.1 bt1052.2.1 bt1052.2.2.1 bt1052.2.2.2.1 bt1052.2.2.2.2.1 bt1052.2.2.2.2.2).bind fun t1087 => ((spec_MakerOk.f kj2 bt1052.1 bt1052.2.1 bt1052.2.2.1 bt1052.2.2.2.1 bt1052.2.2.2.2.1 bt1052.2.2.2.2.2).bind fun t1088 => (laws_FnMakers.j1 kj2 t1020 t1021 t1022 t1044 (t1087 != t1088) t1013 t1014 t1015 t1016 t1017 t1025 t1026 t1027 t1028 t1029 t1036 t1037 t1038 t1039 t1040))) else (laws_FnMakers.j1 kj2 t1020 t1021 t1022 t1044 true t1013 t1014 t1015 t1016 t1017 t1025 t1026 t1027 t1028 t1029 t1036 t1037 t1038 t1039 t1040))))) else (laws_FnMakers.j1 kj2 t1020 t1021 t1022 t1044 true t1013 t1014 t1015 t1016 t1017 t1025 t1026 t1027 t1028 t1029 t1036 t1037 t1038 t1039 t1040))) else (laws_FnMakers.j1 kj2 t1020 t1021 t1022 t1044 true t1013 t1014 t1015 t1016 t1017 t1025 t1026 t1027 t1028 t1029 t1036 t1037 t1038 t1039 t1040)))))) = some r := H
   have A8 := Aside0.mk A80
   clear A80
   replace H := Option.bind_eq_some_iff.mp H
   obtain ⟨⟨t1047, t1048, t1049⟩, A90, H⟩ := H
   replace H : ((spec_DrawMakerOk.f kj2 l0).bind fun bt1052 => ((spec_MakerPut.f kj2 t1013 t1014 t1015 t1016 t1017 t1020 t1021 t1022 t1023).bind fun bt1061 => ((laws_sameMaker.f kj2 t1025 t1026 t1027 t1028 t1029 bt1061.1 bt1061.2.1 bt1061.2.2.1 bt1061.2.2.2.1 bt1061.2.2.2.2).bind fun t1068 => (if t1068 = true then ((spec_MakerSet.f kj2 t1033 t1036 t1037 t1038 t1039 t1040).bind fun t1069 => (if (t1044.length : Int) = (t1069.length : Int) then ((impl_MakerOf.f kj2 t1047 t1048 t1049).bind fun bt1072 => ((spec_MakerOf.f kj2 t1047 t1048 t1049).bind fun bt1079 => ((laws_sameMaker.f kj2 bt1072.1 bt1072.2.1 bt1072.2.2.1 bt1072.2.2.2.1 bt1072.2.2.2.2 bt1079.1 bt1079.2.1 bt1079.2.2.1 bt1079.2.2.2.1 bt1079.2.2.2.2).bind fun t1086 => (if t1086 = true then ((impl_MakerOk.f kj2 bt1052.1 bt1052.2.1 bt1052.2.2.1 bt1052.2.2.2.1 bt1052.2.2.2.2.1 bt1052.2.2.2.2.2).bind fun t1087 => ((spec_MakerOk.f kj2 bt1052.1 bt1052.2.1 bt1052.2.2.1 bt1052.2.2.2.1 bt1052.2.2.2.2.1 bt1052.2.2.2.2.2).bind fun t1088 => (laws_FnMakers.j1 kj2 t1020 t1021 t1022 t1044 (t1087 != t1088) t1013 t1014 t1015 t1016 t1017 t1025 t1026 t1027 t1028 t1029 t1036 t1037 t1038 t1039 t1040))) else (laws_FnMakers.j1 kj2 t1020 t1021 t1022 t1044 true t1013 t1014 t1015 t1016 t1017 t1025 t1026 t1027 t1028 t1029 t1036 t1037 t1038 t1039 t1040))))) else (laws_FnMakers.j1 kj2 t1020 t1021 t1022 t1044 true t1013 t1014 t1015 t1016 t1017 t1025 t1026 t1027 t1028 t1029 t1036 t1037 t1038 t1039 t1040))) else (laws_FnMakers.j1 kj2 t1020 t1021 t1022 t1044 true t1013 t1014 t1015 t1016 t1017 t1025 t1026 t1027 t1028 t1029 t1036 t1037 t1038 t1039 t1040))))) = some r := H
   have A9 := Aside0.mk A90
   clear A90
   replace H := Option.bind_eq_some_iff.mp H
   obtain ⟨⟨t1052, t1053, t1054, t1055, t1056, t1059⟩, A100, H⟩ := H
   replace H : ((spec_MakerPut.f kj2 t1013 t1014 t1015 t1016 t1017 t1020 t1021 t1022 t1023).bind fun bt1061 => ((laws_sameMaker.f kj2 t1025 t1026 t1027 t1028 t1029 bt1061.1 bt1061.2.1 bt1061.2.2.1 bt1061.2.2.2.1 bt1061.2.2.2.2).bind fun t1068 => (if t1068 = true then ((spec_MakerSet.f kj2 t1033 t1036 t1037 t1038 t1039 t1040).bind fun t1069 => (if (t1044.length : Int) = (t1069.length : Int) then ((impl_MakerOf.f kj2 t1047 t1048 t1049).bind fun bt1072 => ((spec_MakerOf.f kj2 t1047 t1048 t1049).bind fun bt1079 => ((laws_sameMaker.f kj2 bt1072.1 bt1072.2.1 bt1072.2.2.1 bt1072.2.2.2.1 bt1072.2.2.2.2 bt1079.1 bt1079.2.1 bt1079.2.2.1 bt1079.2.2.2.1 bt1079.2.2.2.2).bind fun t1086 => (if t1086 = true then ((impl_MakerOk.f kj2 t1052 t1053 t1054 t1055 t1056 t1059).bind fun t1087 => ((spec_MakerOk.f kj2 t1052 t1053 t1054 t1055 t1056 t1059).bind fun t1088 => (laws_FnMakers.j1 kj2 t1020 t1021 t1022 t1044 (t1087 != t1088) t1013 t1014 t1015 t1016 t1017 t1025 t1026 t1027 t1028 t1029 t1036 t1037 t1038 t1039 t1040))) else (laws_FnMakers.j1 kj2 t1020 t1021 t1022 t1044 true t1013 t1014 t1015 t1016 t1017 t1025 t1026 t1027 t1028 t1029 t1036 t1037 t1038 t1039 t1040))))) else (laws_FnMakers.j1 kj2 t1020 t1021 t1022 t1044 true t1013 t1014 t1015 t1016 t1017 t1025 t1026 t1027 t1028 t1029 t1036 t1037 t1038 t1039 t1040))) else (laws_FnMakers.j1 kj2 t1020 t1021 t1022 t1044 true t1013 t1014 t1015 t1016 t1017 t1025 t1026 t1027 t1028 t1029 t1036 t1037 t1038 t1039 t1040)))) = some r := H
   have A10 := Aside0.mk A100
   clear A100
   have HC11 := Aside0.mk H
   clear H
   go_upto_region 9 with (first | ((with_reducible refine gate_callee (f := 34) rfl ?_); refine goesL_ (some 23) rfl rfl Try.func34 (by kernel_rfl) rfl #[.slice A0 l0.length c0] rfl sm_ ?_; (with_reducible refine (spec_DrawMakerPut.calls kj2 _ _ l0 t1013 t1014 t1015 t1016 t1017 t1020 t1021 t1022 t1023 _ ?side1 ?side2 A5.out).mono ?_); (case side1 => repeat (first | exact (Kd.C_below HR0.out HB.out) | (with_reducible refine Kd.C_alloc ?_ _) | (with_reducible refine Kd.C_drewN ?_ _) | (with_reducible refine Kd.C_drew ?_))); (case side2 => exact HC0.out); rintro e w12 ⟨v1018, rfl, ho0, hb⟩; refine ⟨_, rfl, ?_⟩; have HO1019 := Aside0.mk (Kd.R_lower ho0 (below_size (hb_ HB.out))); replace HB := ch_ HB hb; (try clear hb); (try clear hb2); (try clear hk); (try clear hi); (try clear ho0)) | ((with_reducible refine gate_dst (N := 3) rfl ?_); (try (refine gate_guard (by rfl) ?_; dsimp only)); refine box_event ?hg (N := 3) ?hd (cs := #[.int .i64 0, .int .i64 0, .int .i64 0, .int .i64 0, .slice none 0 0]) (t := 38) ?hr ?_; (case hd => rfl); (case hg => rfl); (case hr => first | (go_simp; done) | (go_simp; rfl)); intro gb1024 hg w13 hbox hb; have BK1024 := Aside0.mk (hbox); have GW1024 := cz_ HB hg; have GE1024 := cz_ HB hg; replace HO1019 := cr_ HO1019 hb; replace HB := ch_ HB hb; clear hb hbox hg; have hcz14_0 : w13.cell? ⟨gb1024, 0, none⟩ = some (.int .i64 0) := bc_ BK1024 0; have hcz14_1 : w13.cell? ⟨gb1024, 1, none⟩ = some (.int .i64 0) := bc_ BK1024 1; have hcz14_2 : w13.cell? ⟨gb1024, 2, none⟩ = some (.int .i64 0) := bc_ BK1024 2; have hcz14_3 : w13.cell? ⟨gb1024, 3, none⟩ = some (.int .i64 0) := bc_ BK1024 3; have hcz14_4 : w13.cell? ⟨gb1024, 4, none⟩ = some (.slice none 0 0) := bc_ BK1024 4; have hfz14_0 := blk_frozen BK1024.out 0; have hfz14_1 := blk_frozen BK1024.out 1; have hfz14_2 := blk_frozen BK1024.out 2; have hfz14_3 := blk_frozen BK1024.out 3; have hfz14_4 := blk_frozen BK1024.out 4; obtain ⟨Ao15, co15, eo15⟩ := Kd.R_slice HO1019.out; subst eo15) | ((with_reducible refine gate_callee (f := 35) rfl ?_); refine goesL_ (some 34) rfl rfl Try.func35 (by kernel_rfl) rfl #[.agg #[.int .i64 t1013, .int .i64 t1014, .int .i64 t1015, .int .i64 t1016, .slice Ao15 t1017.length co15], .int .i64 t1020, .int .i64 t1021, .int .i64 t1022, .int .i64 t1023] rfl sm_ ?_; (with_reducible refine (impl_MakerPut.calls kj2 t1013 t1014 t1015 t1016 _ _ t1017 t1020 t1021 t1022 t1023 t1025 t1026 t1027 t1028 t1029 _ ?side1 ?side2 A6.out).mono ?_); (case side1 => refine (Kd.R_reads' (e := 110) (base := w.heap.size) (ok := fun k_ => True) (n := t1017.length) (c := co15) ?_).2.2; exact (rk_ HO1019.out BK1024.out)); (case side2 => exact (Kd.R_reads' HO1019.out).2.1); rintro e w16 ⟨v1030, rfl, ho0, hb⟩; refine ⟨_, rfl, ?_⟩; have HO1031 := Aside0.mk (Kd.R_lower (Kd.R_new' ho0 (Kd.R_lt (rk_ HO1019.out BK1024.out))) (below_size (hb_ HB.out))); replace HO1019 := Aside0.mk (Kd.R_elder' (rk_ HO1019.out BK1024.out) (Kd.R_base ho0) hb); replace BK1024 := Aside0.mk (blk_below (g := gb1024) (o := .cells #[.int .i64 t1013, .int .i64 t1014, .int .i64 t1015, .int .i64 t1016, .slice Ao15 t1017.length co15] 38 (0, 0)) (bp_ BK1024.out) hb); replace HB := ch_ HB hb; (try clear hb); (try clear hb2); (try clear hk); (try clear hi); (try clear ho0)) | ((with_reducible refine gate_dst (N := 8) rfl ?_); (try (refine gate_guard (by rfl) ?_; dsimp only)); refine box_event ?hg (N := 8) ?hd (cs := #[.int .i64 0, .int .i64 0, .int .i64 0, .int .i64 0, .slice none 0 0]) (t := 38) ?hr ?_; (case hd => rfl); (case hg => rfl); (case hr => first | (go_simp; done) | (go_simp; rfl)); intro gb1032 hg w17 hbox hb; have BK1032 := Aside0.mk (hbox); have GW1032 := cz_ HB hg; have GE1032 := cz_ HB hg; have NB1024_1032 := cn_ BK1024 hg; have NB1032_1024 := cm_ BK1024 hg; replace HO1019 := cr_ HO1019 hb; replace HO1031 := cr_ HO1031 hb; replace BK1024 := cb_ BK1024 hb; replace HB := ch_ HB hb; clear hb hbox hg; have hnb18 := NB1032_1024.out; have hnc18 := NB1024_1032.out; have hcz19_0 : w17.cell? ⟨gb1032, 0, none⟩ = some (.int .i64 0) := bc_ BK1032 0; have hcz19_1 : w17.cell? ⟨gb1032, 1, none⟩ = some (.int .i64 0) := bc_ BK1032 1; have hcz19_2 : w17.cell? ⟨gb1032, 2, none⟩ = some (.int .i64 0) := bc_ BK1032 2; have hcz19_3 : w17.cell? ⟨gb1032, 3, none⟩ = some (.int .i64 0) := bc_ BK1032 3; have hcz19_4 : w17.cell? ⟨gb1032, 4, none⟩ = some (.slice none 0 0) := bc_ BK1032 4; have hfz19_0 := blk_frozen BK1032.out 0; have hfz19_1 := blk_frozen BK1032.out 1; have hfz19_2 := blk_frozen BK1032.out 2; have hfz19_3 := blk_frozen BK1032.out 3; have hfz19_4 := blk_frozen BK1032.out 4; obtain ⟨Ao20, co20, eo20⟩ := Kd.R_slice HO1031.out; subst eo20) | ((with_reducible refine gate_callee (f := 36) rfl ?_); refine goesL_ (some 37) rfl rfl Try.func36 (by kernel_rfl) rfl #[.slice A0 l0.length c0] rfl sm_ ?_; (with_reducible refine (spec_DrawMakerSet.calls kj2 _ _ l0 t1033 t1036 t1037 t1038 t1039 t1040 _ ?side1 ?side2 A7.out).mono ?_); (case side1 => exact Kd.C_below HR0.out (hb_ HB.out)); (case side2 => exact HC0.out); rintro e w21 ⟨v1034, v1041, rfl, ho0, ho1, hb⟩; refine ⟨_, rfl, ?_⟩; have HO1035 := Aside0.mk (Kd.S_lower (Kd.S_newB (Kd.S_newB (Kd.S_new' (Kd.S_new' ho0 (Kd.R_lt (rk_ HO1019.out BK1032.out))) (Kd.R_lt (rk_ HO1031.out BK1032.out))) (g := gb1024) (o := .cells #[.int .i64 t1013, .int .i64 t1014, .int .i64 t1015, .int .i64 t1016, .slice Ao15 t1017.length co15] 38 (0, 0)) (bf_ NB1024_1032.out BK1024.out)) (g := gb1032) (o := .cells #[.int .i64 t1025, .int .i64 t1026, .int .i64 t1027, .int .i64 t1028, .slice Ao20 t1029.length co20] 38 (0, 0)) (bp_ BK1032.out)) (below_size (hb_ HB.out))); have HO1042 := Aside0.mk (Kd.R_lower (Kd.R_new' (Kd.R_new' ho1 (Kd.R_lt (rk_ HO1019.out BK1032.out))) (Kd.R_lt (rk_ HO1031.out BK1032.out))) (below_size (hb_ HB.out))); replace HO1019 := Aside0.mk (Kd.R_elder' (rk_ HO1019.out BK1032.out) (Kd.R_base ho1) hb); replace HO1031 := Aside0.mk (Kd.R_elder' (rk_ HO1031.out BK1032.out) (Kd.R_base ho1) hb); replace BK1024 := Aside0.mk (blk_below (g := gb1024) (o := .cells #[.int .i64 t1013, .int .i64 t1014, .int .i64 t1015, .int .i64 t1016, .slice Ao15 t1017.length co15] 38 (0, 0)) (bf_ NB1024_1032.out BK1024.out) hb); replace BK1032 := Aside0.mk (blk_below (g := gb1032) (o := .cells #[.int .i64 t1025, .int .i64 t1026, .int .i64 t1027, .int .i64 t1028, .slice Ao20 t1029.length co20] 38 (0, 0)) (bp_ BK1032.out) hb); replace HB := ch_ HB hb; (try clear hb); (try clear hb2); (try clear hk); (try clear hi); (try clear ho0); (try clear ho1)) | ((with_reducible refine gate_dst (N := 10) rfl ?_); (try (refine gate_guard (by rfl) ?_; dsimp only)); refine box_event ?hg (N := 10) ?hd (cs := #[.int .i64 0, .int .i64 0, .int .i64 0, .int .i64 0, .slice none 0 0]) (t := 38) ?hr ?_; (case hd => rfl); (case hg => rfl); (case hr => first | (go_simp; done) | (go_simp; rfl)); intro gb1043 hg w22 hbox hb; have BK1043 := Aside0.mk (hbox); have GW1043 := cz_ HB hg; have GE1043 := cz_ HB hg; have NB1024_1043 := cn_ BK1024 hg; have NB1043_1024 := cm_ BK1024 hg; have NB1032_1043 := cn_ BK1032 hg; have NB1043_1032 := cm_ BK1032 hg; replace HO1019 := cr_ HO1019 hb; replace HO1031 := cr_ HO1031 hb; replace HO1035 := Aside0.mk (Kd.S_below (Kd.S_elderB (qg0_) gb1043 (Nat.le_of_eq hg.symm)) hb); replace HO1042 := cr_ HO1042 hb; replace BK1024 := cb_ BK1024 hb; replace BK1032 := cb_ BK1032 hb; replace HB := ch_ HB hb; clear hb hbox hg; have hnb23 := NB1043_1024.out; have hnc23 := NB1024_1043.out; have hnb24 := NB1043_1032.out; have hnc24 := NB1032_1043.out; have hcz25_0 : w22.cell? ⟨gb1043, 0, none⟩ = some (.int .i64 0) := bc_ BK1043 0; have hcz25_1 : w22.cell? ⟨gb1043, 1, none⟩ = some (.int .i64 0) := bc_ BK1043 1; have hcz25_2 : w22.cell? ⟨gb1043, 2, none⟩ = some (.int .i64 0) := bc_ BK1043 2; have hcz25_3 : w22.cell? ⟨gb1043, 3, none⟩ = some (.int .i64 0) := bc_ BK1043 3; have hcz25_4 : w22.cell? ⟨gb1043, 4, none⟩ = some (.slice none 0 0) := bc_ BK1043 4; have hfz25_0 := blk_frozen BK1043.out 0; have hfz25_1 := blk_frozen BK1043.out 1; have hfz25_2 := blk_frozen BK1043.out 2; have hfz25_3 := blk_frozen BK1043.out 3; have hfz25_4 := blk_frozen BK1043.out 4; obtain ⟨Ao26, co26, eo26⟩ := Kd.R_slice HO1042.out; subst eo26; obtain ⟨Ao27, co27, eo27⟩ := Kd.S_slice HO1035.out; subst eo27) | ((with_reducible refine gate_callee (f := 27) rfl ?_); refine goesL_ (some 42) rfl rfl Try.func27 (by kernel_rfl) rfl #[.slice Ao27 t1033.length co27, .agg #[.int .i64 t1036, .int .i64 t1037, .int .i64 t1038, .int .i64 t1039, .slice Ao26 t1040.length co26]] rfl sm_ ?_; (with_reducible refine (impl_MakerSet.calls kj2 _ _ t1033 t1036 t1037 t1038 t1039 _ _ t1040 t1044 _ ?side1 ?side2 ?side3 ?side4 A8.out).mono ?_); (case side1 => refine (Kd.S_reads' (e := 38) (base := w.heap.size) (ok := fun k_ => (((((some k_ ≠ (.slice Ao26 t1040.length co26 : Value).ownBlock ∧ some k_ ≠ (.slice Ao15 t1017.length co15 : Value).ownBlock) ∧ some k_ ≠ (.slice Ao20 t1029.length co20 : Value).ownBlock) ∧ k_ ≠ gb1024) ∧ k_ ≠ gb1032) ∧ k_ ≠ gb1043)) (n := t1033.length) (c := co27) ?_).2.2; exact (qg10_)); (case side2 => exact (Kd.S_reads' HO1035.out).2.1); (case side3 => refine (Kd.R_reads' (e := 110) (base := w.heap.size) (ok := fun k_ => ((True ∧ some k_ ≠ (.slice Ao15 t1017.length co15 : Value).ownBlock) ∧ some k_ ≠ (.slice Ao20 t1029.length co20 : Value).ownBlock)) (n := t1040.length) (c := co26) ?_).2.2; exact (rk_ HO1042.out BK1043.out)); (case side4 => exact (Kd.R_reads' HO1042.out).2.1); rintro e w28 ⟨v1045, rfl, ho0, hb⟩; refine ⟨_, rfl, ?_⟩; have HO1046 := Aside0.mk (Kd.S_lower (Kd.S_newB (Kd.S_newB (Kd.S_newB (Kd.S_new' (Kd.S_new' (Kd.S_new' (Kd.S_new' ho0 (Kd.R_lt (rk_ HO1019.out BK1043.out))) (Kd.R_lt (rk_ HO1031.out BK1043.out))) (Kd.S_lt (qg10_))) (Kd.R_lt (rk_ HO1042.out BK1043.out))) (g := gb1024) (o := .cells #[.int .i64 t1013, .int .i64 t1014, .int .i64 t1015, .int .i64 t1016, .slice Ao15 t1017.length co15] 38 (0, 0)) (bf_ NB1024_1043.out BK1024.out)) (g := gb1032) (o := .cells #[.int .i64 t1025, .int .i64 t1026, .int .i64 t1027, .int .i64 t1028, .slice Ao20 t1029.length co20] 38 (0, 0)) (bf_ NB1032_1043.out BK1032.out)) (g := gb1043) (o := .cells #[.int .i64 t1036, .int .i64 t1037, .int .i64 t1038, .int .i64 t1039, .slice Ao26 t1040.length co26] 38 (0, 0)) (bp_ BK1043.out)) (below_size (hb_ HB.out))); replace HO1019 := Aside0.mk (Kd.R_below (rk_ HO1019.out BK1043.out) hb); replace HO1031 := Aside0.mk (Kd.R_below (rk_ HO1031.out BK1043.out) hb); replace HO1035 := Aside0.mk (Kd.S_elder' (qg10_) (Kd.S_base ho0) hb); replace HO1042 := Aside0.mk (Kd.R_below (rk_ HO1042.out BK1043.out) hb); replace BK1024 := Aside0.mk (blk_below (g := gb1024) (o := .cells #[.int .i64 t1013, .int .i64 t1014, .int .i64 t1015, .int .i64 t1016, .slice Ao15 t1017.length co15] 38 (0, 0)) (bf_ NB1024_1043.out BK1024.out) hb); replace BK1032 := Aside0.mk (blk_below (g := gb1032) (o := .cells #[.int .i64 t1025, .int .i64 t1026, .int .i64 t1027, .int .i64 t1028, .slice Ao20 t1029.length co20] 38 (0, 0)) (bf_ NB1032_1043.out BK1032.out) hb); replace BK1043 := Aside0.mk (blk_below (g := gb1043) (o := .cells #[.int .i64 t1036, .int .i64 t1037, .int .i64 t1038, .int .i64 t1039, .slice Ao26 t1040.length co26] 38 (0, 0)) (bp_ BK1043.out) hb); replace HB := ch_ HB hb; (try clear hb); (try clear hb2); (try clear hk); (try clear hi); (try clear ho0)) | ((with_reducible refine gate_callee (f := 37) rfl ?_); refine goesL_ (some 45) rfl rfl Try.func37 (by kernel_rfl) rfl #[.slice A0 l0.length c0] rfl sm_ ?_; (with_reducible refine (spec_DrawMakerOf.calls kj2 _ _ l0 t1047 t1048 t1049 _ ?side1 ?side2 A9.out).mono ?_); (case side1 => repeat (first | exact (Kd.C_below HR0.out HB.out) | (with_reducible refine Kd.C_alloc ?_ _) | (with_reducible refine Kd.C_drewN ?_ _) | (with_reducible refine Kd.C_drew ?_))); (case side2 => exact HC0.out); rintro e w29 ⟨v1050, rfl, ho0, hb⟩; refine ⟨_, rfl, ?_⟩; have HO1051 := Aside0.mk (Kd.S_lower (Kd.S_newB (Kd.S_newB (Kd.S_newB (Kd.S_new' (Kd.S_new' (Kd.S_new' (Kd.S_new' (Kd.S_new' ho0 (Kd.R_lt (rq_ HO1019.out))) (Kd.R_lt (rq_ HO1031.out))) (Kd.S_lt (qg0_))) (Kd.R_lt (rq_ HO1042.out))) (Kd.S_lt (qg1_))) (g := gb1024) (o := .cells #[.int .i64 t1013, .int .i64 t1014, .int .i64 t1015, .int .i64 t1016, .slice Ao15 t1017.length co15] 38 (0, 0)) (bq_ BK1024.out)) (g := gb1032) (o := .cells #[.int .i64 t1025, .int .i64 t1026, .int .i64 t1027, .int .i64 t1028, .slice Ao20 t1029.length co20] 38 (0, 0)) (bq_ BK1032.out)) (g := gb1043) (o := .cells #[.int .i64 t1036, .int .i64 t1037, .int .i64 t1038, .int .i64 t1039, .slice Ao26 t1040.length co26] 38 (0, 0)) (bq_ BK1043.out)) (below_size (hb_ HB.out))); replace HO1019 := cr_ HO1019 hb; replace HO1031 := cr_ HO1031 hb; replace HO1035 := Aside0.mk (Kd.S_elder' (qg0_) (Kd.S_base ho0) hb); replace HO1042 := cr_ HO1042 hb; replace HO1046 := Aside0.mk (Kd.S_elder' (qg1_) (Kd.S_base ho0) hb); replace BK1024 := cb_ BK1024 hb; replace BK1032 := cb_ BK1032 hb; replace BK1043 := cb_ BK1043 hb; replace HB := ch_ HB hb; (try clear hb); (try clear hb2); (try clear hk); (try clear hi); (try clear ho0)) | ((with_reducible refine gate_callee (f := 38) rfl ?_); refine goesL_ (some 51) rfl rfl Try.func38 (by kernel_rfl) rfl #[.slice A0 l0.length c0] rfl sm_ ?_; (with_reducible refine (spec_DrawMakerOk.calls kj2 _ _ l0 t1052 t1053 t1054 t1055 t1056 t1059 _ ?side1 ?side2 A10.out).mono ?_); (case side1 => repeat (first | exact (Kd.C_below HR0.out HB.out) | (with_reducible refine Kd.C_alloc ?_ _) | (with_reducible refine Kd.C_drewN ?_ _) | (with_reducible refine Kd.C_drew ?_))); (case side2 => exact HC0.out); rintro e w30 ⟨v1057, rfl, ho0, hb⟩; refine ⟨_, rfl, ?_⟩; have HO1058 := Aside0.mk (Kd.R_lower (Kd.R_new' (Kd.R_new' (Kd.R_new' ho0 (Kd.R_lt (rq_ HO1019.out))) (Kd.R_lt (rq_ HO1031.out))) (Kd.R_lt (rq_ HO1042.out))) (below_size (hb_ HB.out))); replace HO1019 := Aside0.mk (Kd.R_elder' (rq_ HO1019.out) (Kd.R_base ho0) hb); replace HO1031 := Aside0.mk (Kd.R_elder' (rq_ HO1031.out) (Kd.R_base ho0) hb); replace HO1035 := Aside0.mk (Kd.S_elder' (qg0_) (Kd.R_base ho0) hb); replace HO1042 := Aside0.mk (Kd.R_elder' (rq_ HO1042.out) (Kd.R_base ho0) hb); replace HO1046 := Aside0.mk (Kd.S_elder' (qg1_) (Kd.R_base ho0) hb); replace HO1051 := Aside0.mk (Kd.S_elder' (qg5_) (Kd.R_base ho0) hb); replace BK1024 := cb_ BK1024 hb; replace BK1032 := cb_ BK1032 hb; replace BK1043 := cb_ BK1043 hb; replace HB := ch_ HB hb; (try clear hb); (try clear hb2); (try clear hk); (try clear hi); (try clear ho0)) | ((with_reducible refine gate_dst (N := 15) rfl ?_); (try (refine gate_guard (by rfl) ?_; dsimp only)); refine box_event ?hg (N := 15) ?hd (cs := #[.int .i64 0, .int .i64 0, .int .i64 0, .int .i64 0, .slice none 0 0]) (t := 38) ?hr ?_; (case hd => rfl); (case hg => rfl); (case hr => first | (go_simp; done) | (go_simp; rfl)); intro gb1060 hg w31 hbox hb; have BK1060 := Aside0.mk (hbox); have GW1060 := cz_ HB hg; have GE1060 := cz_ HB hg; have NB1024_1060 := cn_ BK1024 hg; have NB1060_1024 := cm_ BK1024 hg; have NB1032_1060 := cn_ BK1032 hg; have NB1060_1032 := cm_ BK1032 hg; have NB1043_1060 := cn_ BK1043 hg; have NB1060_1043 := cm_ BK1043 hg; replace HO1019 := cr_ HO1019 hb; replace HO1031 := cr_ HO1031 hb; replace HO1035 := Aside0.mk (Kd.S_below (Kd.S_elderB (qg0_) gb1060 (Nat.le_of_eq hg.symm)) hb); replace HO1042 := cr_ HO1042 hb; replace HO1046 := Aside0.mk (Kd.S_below (Kd.S_elderB (qg1_) gb1060 (Nat.le_of_eq hg.symm)) hb); replace HO1051 := Aside0.mk (Kd.S_below (Kd.S_elderB (qg5_) gb1060 (Nat.le_of_eq hg.symm)) hb); replace HO1058 := cr_ HO1058 hb; replace BK1024 := cb_ BK1024 hb; replace BK1032 := cb_ BK1032 hb; replace BK1043 := cb_ BK1043 hb; replace HB := ch_ HB hb; clear hb hbox hg; have hnb32 := NB1060_1024.out; have hnc32 := NB1024_1060.out; have hnb33 := NB1060_1032.out; have hnc33 := NB1032_1060.out; have hnb34 := NB1060_1043.out; have hnc34 := NB1043_1060.out; have hcz35_0 : w31.cell? ⟨gb1060, 0, none⟩ = some (.int .i64 0) := bc_ BK1060 0; have hcz35_1 : w31.cell? ⟨gb1060, 1, none⟩ = some (.int .i64 0) := bc_ BK1060 1; have hcz35_2 : w31.cell? ⟨gb1060, 2, none⟩ = some (.int .i64 0) := bc_ BK1060 2; have hcz35_3 : w31.cell? ⟨gb1060, 3, none⟩ = some (.int .i64 0) := bc_ BK1060 3; have hcz35_4 : w31.cell? ⟨gb1060, 4, none⟩ = some (.slice none 0 0) := bc_ BK1060 4; have hfz35_0 := blk_frozen BK1060.out 0; have hfz35_1 := blk_frozen BK1060.out 1; have hfz35_2 := blk_frozen BK1060.out 2; have hfz35_3 := blk_frozen BK1060.out 3; have hfz35_4 := blk_frozen BK1060.out 4; obtain ⟨Ao36, co36, eo36⟩ := Kd.R_slice HO1058.out; subst eo36))
   (try simp only [Act.put, List.setIfInBounds_toArray, List.set_cons_zero, List.set_cons_succ])
   go_cut [92] (fun v92 wc => ∃ (kq : Nat) (x92_10 : Bool), v92 = .bool x92_10 ∧ Aside0 (laws_FnMakers.j1 kq t1020 t1021 t1022 t1044 x92_10 t1013 t1014 t1015 t1016 t1017 t1025 t1026 t1027 t1028 t1029 t1036 t1037 t1038 t1039 t1040 = some r) ∧ Aside0 (kq ≤ kj2) ∧ Aside0 (Kd.S k_Maker 38 wc w.heap.size (fun k_ => some k_ ≠ ((.slice Ao15 t1017.length co15) : Value).ownBlock ∧ some k_ ≠ ((.slice Ao20 t1029.length co20) : Value).ownBlock ∧ some k_ ≠ ((.slice Ao26 t1040.length co26) : Value).ownBlock ∧ some k_ ≠ ((.slice Ao36 t1056.length co36) : Value).ownBlock ∧ k_ ≠ gb1024 ∧ k_ ≠ gb1032 ∧ k_ ≠ gb1043 ∧ k_ ≠ gb1060) v1045 t1044) ∧ Aside0 (Kd.R k_Mark 110 wc w.heap.size (fun k_ => some k_ ≠ ((.slice Ao20 t1029.length co20) : Value).ownBlock ∧ some k_ ≠ ((.slice Ao26 t1040.length co26) : Value).ownBlock ∧ some k_ ≠ ((.slice Ao36 t1056.length co36) : Value).ownBlock) (.slice Ao15 t1017.length co15) t1017) ∧ Aside0 (Kd.R k_Mark 110 wc w.heap.size (fun k_ => some k_ ≠ ((.slice Ao15 t1017.length co15) : Value).ownBlock ∧ some k_ ≠ ((.slice Ao26 t1040.length co26) : Value).ownBlock ∧ some k_ ≠ ((.slice Ao36 t1056.length co36) : Value).ownBlock) (.slice Ao20 t1029.length co20) t1029) ∧ Aside0 (Kd.R k_Mark 110 wc w.heap.size (fun k_ => some k_ ≠ ((.slice Ao15 t1017.length co15) : Value).ownBlock ∧ some k_ ≠ ((.slice Ao20 t1029.length co20) : Value).ownBlock ∧ some k_ ≠ ((.slice Ao36 t1056.length co36) : Value).ownBlock) (.slice Ao26 t1040.length co26) t1040) ∧ Aside0 (Kd.R k_Mark 110 wc w.heap.size (fun k_ => some k_ ≠ ((.slice Ao15 t1017.length co15) : Value).ownBlock ∧ some k_ ≠ ((.slice Ao20 t1029.length co20) : Value).ownBlock ∧ some k_ ≠ ((.slice Ao26 t1040.length co26) : Value).ownBlock) (.slice Ao36 t1056.length co36) t1056) ∧ Aside0 (wc.heap[gb1024]? = some (.cells #[.int .i64 t1013, .int .i64 t1014, .int .i64 t1015, .int .i64 t1016, (.slice Ao15 t1017.length co15)] 38 (0, 0))) ∧ Aside0 (wc.heap[gb1032]? = some (.cells #[.int .i64 t1025, .int .i64 t1026, .int .i64 t1027, .int .i64 t1028, (.slice Ao20 t1029.length co20)] 38 (0, 0))) ∧ Aside0 (wc.heap[gb1043]? = some (.cells #[.int .i64 t1036, .int .i64 t1037, .int .i64 t1038, .int .i64 t1039, (.slice Ao26 t1040.length co26)] 38 (0, 0))) ∧ Aside0 (wc.heap[gb1060]? = some (.cells #[.int .i64 t1052, .int .i64 t1053, .int .i64 t1054, .int .i64 t1055, (.slice Ao36 t1056.length co36)] 38 (0, 0))) ∧ Aside0 (Below w.heap.size w wc))
   case first =>
    have H := HC11.out
    clear HC11
    replace H := Option.bind_eq_some_iff.mp H
    obtain ⟨⟨t1061, t1062, t1063, t1064, t1065⟩, A370, H⟩ := H
    replace H : ((laws_sameMaker.f kj2 t1025 t1026 t1027 t1028 t1029 t1061 t1062 t1063 t1064 t1065).bind fun t1068 => (if t1068 = true then ((spec_MakerSet.f kj2 t1033 t1036 t1037 t1038 t1039 t1040).bind fun t1069 => (if (t1044.length : Int) = (t1069.length : Int) then ((impl_MakerOf.f kj2 t1047 t1048 t1049).bind fun bt1072 => ((spec_MakerOf.f kj2 t1047 t1048 t1049).bind fun bt1079 => ((laws_sameMaker.f kj2 bt1072.1 bt1072.2.1 bt1072.2.2.1 bt1072.2.2.2.1 bt1072.2.2.2.2 bt1079.1 bt1079.2.1 bt1079.2.2.1 bt1079.2.2.2.1 bt1079.2.2.2.2).bind fun t1086 => (if t1086 = true then ((impl_MakerOk.f kj2 t1052 t1053 t1054 t1055 t1056 t1059).bind fun t1087 => ((spec_MakerOk.f kj2 t1052 t1053 t1054 t1055 t1056 t1059).bind fun t1088 => (laws_FnMakers.j1 kj2 t1020 t1021 t1022 t1044 (t1087 != t1088) t1013 t1014 t1015 t1016 t1017 t1025 t1026 t1027 t1028 t1029 t1036 t1037 t1038 t1039 t1040))) else (laws_FnMakers.j1 kj2 t1020 t1021 t1022 t1044 true t1013 t1014 t1015 t1016 t1017 t1025 t1026 t1027 t1028 t1029 t1036 t1037 t1038 t1039 t1040))))) else (laws_FnMakers.j1 kj2 t1020 t1021 t1022 t1044 true t1013 t1014 t1015 t1016 t1017 t1025 t1026 t1027 t1028 t1029 t1036 t1037 t1038 t1039 t1040))) else (laws_FnMakers.j1 kj2 t1020 t1021 t1022 t1044 true t1013 t1014 t1015 t1016 t1017 t1025 t1026 t1027 t1028 t1029 t1036 t1037 t1038 t1039 t1040))) = some r := H
    have A37 := Aside0.mk A370
    clear A370
    replace H := Option.bind_eq_some_iff.mp H
    obtain ⟨t1068, A380, H⟩ := H
    replace H : (if t1068 = true then ((spec_MakerSet.f kj2 t1033 t1036 t1037 t1038 t1039 t1040).bind fun t1069 => (if (t1044.length : Int) = (t1069.length : Int) then ((impl_MakerOf.f kj2 t1047 t1048 t1049).bind fun bt1072 => ((spec_MakerOf.f kj2 t1047 t1048 t1049).bind fun bt1079 => ((laws_sameMaker.f kj2 bt1072.1 bt1072.2.1 bt1072.2.2.1 bt1072.2.2.2.1 bt1072.2.2.2.2 bt1079.1 bt1079.2.1 bt1079.2.2.1 bt1079.2.2.2.1 bt1079.2.2.2.2).bind fun t1086 => (if t1086 = true then ((impl_MakerOk.f kj2 t1052 t1053 t1054 t1055 t1056 t1059).bind fun t1087 => ((spec_MakerOk.f kj2 t1052 t1053 t1054 t1055 t1056 t1059).bind fun t1088 => (laws_FnMakers.j1 kj2 t1020 t1021 t1022 t1044 (t1087 != t1088) t1013 t1014 t1015 t1016 t1017 t1025 t1026 t1027 t1028 t1029 t1036 t1037 t1038 t1039 t1040))) else (laws_FnMakers.j1 kj2 t1020 t1021 t1022 t1044 true t1013 t1014 t1015 t1016 t1017 t1025 t1026 t1027 t1028 t1029 t1036 t1037 t1038 t1039 t1040))))) else (laws_FnMakers.j1 kj2 t1020 t1021 t1022 t1044 true t1013 t1014 t1015 t1016 t1017 t1025 t1026 t1027 t1028 t1029 t1036 t1037 t1038 t1039 t1040))) else (laws_FnMakers.j1 kj2 t1020 t1021 t1022 t1044 true t1013 t1014 t1015 t1016 t1017 t1025 t1026 t1027 t1028 t1029 t1036 t1037 t1038 t1039 t1040)) = some r := H
    have A38 := Aside0.mk A380
    clear A380
    by_cases c39 : t1068 = true
    ·
     subst c39
     have H1 : ((spec_MakerSet.f kj2 t1033 t1036 t1037 t1038 t1039 t1040).bind fun t1069 => (if (t1044.length : Int) = (t1069.length : Int) then ((impl_MakerOf.f kj2 t1047 t1048 t1049).bind fun bt1072 => ((spec_MakerOf.f kj2 t1047 t1048 t1049).bind fun bt1079 => ((laws_sameMaker.f kj2 bt1072.1 bt1072.2.1 bt1072.2.2.1 bt1072.2.2.2.1 bt1072.2.2.2.2 bt1079.1 bt1079.2.1 bt1079.2.2.1 bt1079.2.2.2.1 bt1079.2.2.2.2).bind fun t1086 => (if t1086 = true then ((impl_MakerOk.f kj2 t1052 t1053 t1054 t1055 t1056 t1059).bind fun t1087 => ((spec_MakerOk.f kj2 t1052 t1053 t1054 t1055 t1056 t1059).bind fun t1088 => (laws_FnMakers.j1 kj2 t1020 t1021 t1022 t1044 (t1087 != t1088) t1013 t1014 t1015 t1016 t1017 t1025 t1026 t1027 t1028 t1029 t1036 t1037 t1038 t1039 t1040))) else (laws_FnMakers.j1 kj2 t1020 t1021 t1022 t1044 true t1013 t1014 t1015 t1016 t1017 t1025 t1026 t1027 t1028 t1029 t1036 t1037 t1038 t1039 t1040))))) else (laws_FnMakers.j1 kj2 t1020 t1021 t1022 t1044 true t1013 t1014 t1015 t1016 t1017 t1025 t1026 t1027 t1028 t1029 t1036 t1037 t1038 t1039 t1040))) = some r := by rw [if_pos rfl] at H; exact H
     clear H
     have H := H1
     clear H1
     replace H := Option.bind_eq_some_iff.mp H
     obtain ⟨t1069, A400, H⟩ := H
     replace H : (if (t1044.length : Int) = (t1069.length : Int) then ((impl_MakerOf.f kj2 t1047 t1048 t1049).bind fun bt1072 => ((spec_MakerOf.f kj2 t1047 t1048 t1049).bind fun bt1079 => ((laws_sameMaker.f kj2 bt1072.1 bt1072.2.1 bt1072.2.2.1 bt1072.2.2.2.1 bt1072.2.2.2.2 bt1079.1 bt1079.2.1 bt1079.2.2.1 bt1079.2.2.2.1 bt1079.2.2.2.2).bind fun t1086 => (if t1086 = true then ((impl_MakerOk.f kj2 t1052 t1053 t1054 t1055 t1056 t1059).bind fun t1087 => ((spec_MakerOk.f kj2 t1052 t1053 t1054 t1055 t1056 t1059).bind fun t1088 => (laws_FnMakers.j1 kj2 t1020 t1021 t1022 t1044 (t1087 != t1088) t1013 t1014 t1015 t1016 t1017 t1025 t1026 t1027 t1028 t1029 t1036 t1037 t1038 t1039 t1040))) else (laws_FnMakers.j1 kj2 t1020 t1021 t1022 t1044 true t1013 t1014 t1015 t1016 t1017 t1025 t1026 t1027 t1028 t1029 t1036 t1037 t1038 t1039 t1040))))) else (laws_FnMakers.j1 kj2 t1020 t1021 t1022 t1044 true t1013 t1014 t1015 t1016 t1017 t1025 t1026 t1027 t1028 t1029 t1036 t1037 t1038 t1039 t1040)) = some r := H
     have A40 := Aside0.mk A400
     clear A400
     by_cases c41 : (t1044.length : Int) = (t1069.length : Int)
     ·
      rw [if_pos c41] at H
      have c41b0 : ((t1044.length : Int) == (t1069.length : Int)) = true := beq_iff_eq.mpr c41
      have c41b1 : ((t1044.length : Int) != (t1069.length : Int)) = false := bne_eq_false_iff_eq.mpr c41
      have c41b2 : (t1044.length == t1069.length) = true := by first | simpa using c41 | (simp at c41 ⊢; omega)
      clear c41
      (first | rw [c41b0] | (simp only [i64_w, i32_w]; rw [c41b0]) | rw [c41b4] | rw [c41b3] | skip)
      replace H := Option.bind_eq_some_iff.mp H
      obtain ⟨⟨t1072, t1073, t1074, t1075, t1076⟩, A420, H⟩ := H
      replace H : ((spec_MakerOf.f kj2 t1047 t1048 t1049).bind fun bt1079 => ((laws_sameMaker.f kj2 t1072 t1073 t1074 t1075 t1076 bt1079.1 bt1079.2.1 bt1079.2.2.1 bt1079.2.2.2.1 bt1079.2.2.2.2).bind fun t1086 => (if t1086 = true then ((impl_MakerOk.f kj2 t1052 t1053 t1054 t1055 t1056 t1059).bind fun t1087 => ((spec_MakerOk.f kj2 t1052 t1053 t1054 t1055 t1056 t1059).bind fun t1088 => (laws_FnMakers.j1 kj2 t1020 t1021 t1022 t1044 (t1087 != t1088) t1013 t1014 t1015 t1016 t1017 t1025 t1026 t1027 t1028 t1029 t1036 t1037 t1038 t1039 t1040))) else (laws_FnMakers.j1 kj2 t1020 t1021 t1022 t1044 true t1013 t1014 t1015 t1016 t1017 t1025 t1026 t1027 t1028 t1029 t1036 t1037 t1038 t1039 t1040)))) = some r := H
      have A42 := Aside0.mk A420
      clear A420
      replace H := Option.bind_eq_some_iff.mp H
      obtain ⟨⟨t1079, t1080, t1081, t1082, t1083⟩, A430, H⟩ := H
      replace H : ((laws_sameMaker.f kj2 t1072 t1073 t1074 t1075 t1076 t1079 t1080 t1081 t1082 t1083).bind fun t1086 => (if t1086 = true then ((impl_MakerOk.f kj2 t1052 t1053 t1054 t1055 t1056 t1059).bind fun t1087 => ((spec_MakerOk.f kj2 t1052 t1053 t1054 t1055 t1056 t1059).bind fun t1088 => (laws_FnMakers.j1 kj2 t1020 t1021 t1022 t1044 (t1087 != t1088) t1013 t1014 t1015 t1016 t1017 t1025 t1026 t1027 t1028 t1029 t1036 t1037 t1038 t1039 t1040))) else (laws_FnMakers.j1 kj2 t1020 t1021 t1022 t1044 true t1013 t1014 t1015 t1016 t1017 t1025 t1026 t1027 t1028 t1029 t1036 t1037 t1038 t1039 t1040))) = some r := H
      have A43 := Aside0.mk A430
      clear A430
      replace H := Option.bind_eq_some_iff.mp H
      obtain ⟨t1086, A440, H⟩ := H
      replace H : (if t1086 = true then ((impl_MakerOk.f kj2 t1052 t1053 t1054 t1055 t1056 t1059).bind fun t1087 => ((spec_MakerOk.f kj2 t1052 t1053 t1054 t1055 t1056 t1059).bind fun t1088 => (laws_FnMakers.j1 kj2 t1020 t1021 t1022 t1044 (t1087 != t1088) t1013 t1014 t1015 t1016 t1017 t1025 t1026 t1027 t1028 t1029 t1036 t1037 t1038 t1039 t1040))) else (laws_FnMakers.j1 kj2 t1020 t1021 t1022 t1044 true t1013 t1014 t1015 t1016 t1017 t1025 t1026 t1027 t1028 t1029 t1036 t1037 t1038 t1039 t1040)) = some r := H
      have A44 := Aside0.mk A440
      clear A440
      by_cases c45 : t1086 = true
      ·
       subst c45
       have H1 : ((impl_MakerOk.f kj2 t1052 t1053 t1054 t1055 t1056 t1059).bind fun t1087 => ((spec_MakerOk.f kj2 t1052 t1053 t1054 t1055 t1056 t1059).bind fun t1088 => (laws_FnMakers.j1 kj2 t1020 t1021 t1022 t1044 (t1087 != t1088) t1013 t1014 t1015 t1016 t1017 t1025 t1026 t1027 t1028 t1029 t1036 t1037 t1038 t1039 t1040))) = some r := by rw [if_pos rfl] at H; exact H
       clear H
       have H := H1
       clear H1
       replace H := Option.bind_eq_some_iff.mp H
       obtain ⟨t1087, A460, H⟩ := H
       replace H : ((spec_MakerOk.f kj2 t1052 t1053 t1054 t1055 t1056 t1059).bind fun t1088 => (laws_FnMakers.j1 kj2 t1020 t1021 t1022 t1044 (t1087 != t1088) t1013 t1014 t1015 t1016 t1017 t1025 t1026 t1027 t1028 t1029 t1036 t1037 t1038 t1039 t1040)) = some r := H
       have A46 := Aside0.mk A460
       clear A460
       replace H := Option.bind_eq_some_iff.mp H
       obtain ⟨t1088, A470, H⟩ := H
       replace H : (laws_FnMakers.j1 kj2 t1020 t1021 t1022 t1044 (t1087 != t1088) t1013 t1014 t1015 t1016 t1017 t1025 t1026 t1027 t1028 t1029 t1036 t1037 t1038 t1039 t1040) = some r := H
       have A47 := Aside0.mk A470
       clear A470
       have H' := Aside0.mk H
       clear H
       try go_wp2
       obtain ⟨w48, qe_⟩ : ∃ x_, x_ = (((((w31.setCell ⟨gb1060, 0, none⟩ (.int .i64 t1052)).setCell ⟨gb1060, 1, none⟩ (.int .i64 t1053)).setCell ⟨gb1060, 2, none⟩ (.int .i64 t1054)).setCell ⟨gb1060, 3, none⟩ (.int .i64 t1055)).setCell ⟨gb1060, 4, none⟩ (.slice Ao36 t1056.length co36)) := ⟨_, rfl⟩
       rw [← qe_]
       replace HO1019 : Aside0 (Kd.R k_Mark 110 w48 w.heap.size (fun k_ => some k_ ≠ (.slice Ao20 t1029.length co20 : Value).ownBlock ∧ some k_ ≠ (.slice Ao26 t1040.length co26 : Value).ownBlock ∧ some k_ ≠ (.slice Ao36 t1056.length co36 : Value).ownBlock) (.slice Ao15 t1017.length co15) t1017) := ⟨qg9_⟩
       replace HO1031 : Aside0 (Kd.R k_Mark 110 w48 w.heap.size (fun k_ => some k_ ≠ (.slice Ao15 t1017.length co15 : Value).ownBlock ∧ some k_ ≠ (.slice Ao26 t1040.length co26 : Value).ownBlock ∧ some k_ ≠ (.slice Ao36 t1056.length co36 : Value).ownBlock) (.slice Ao20 t1029.length co20) t1029) := ⟨qg8_⟩
       replace HO1035 : Aside0 (Kd.S k_Maker 38 w48 w.heap.size (fun k_ => some k_ ≠ (.slice Ao15 t1017.length co15 : Value).ownBlock ∧ some k_ ≠ (.slice Ao20 t1029.length co20 : Value).ownBlock ∧ some k_ ≠ (.slice Ao26 t1040.length co26 : Value).ownBlock ∧ some k_ ≠ (v1045 : Value).ownBlock ∧ some k_ ≠ (v1050 : Value).ownBlock ∧ some k_ ≠ (.slice Ao36 t1056.length co36 : Value).ownBlock ∧ k_ ≠ gb1024 ∧ k_ ≠ gb1032 ∧ k_ ≠ gb1043 ∧ k_ ≠ gb1060) (.slice Ao27 t1033.length co27) t1033) := ⟨qg4_⟩
       replace HO1042 : Aside0 (Kd.R k_Mark 110 w48 w.heap.size (fun k_ => some k_ ≠ (.slice Ao15 t1017.length co15 : Value).ownBlock ∧ some k_ ≠ (.slice Ao20 t1029.length co20 : Value).ownBlock ∧ some k_ ≠ (.slice Ao36 t1056.length co36 : Value).ownBlock) (.slice Ao26 t1040.length co26) t1040) := ⟨qg7_⟩
       replace HO1046 : Aside0 (Kd.S k_Maker 38 w48 w.heap.size (fun k_ => some k_ ≠ (.slice Ao15 t1017.length co15 : Value).ownBlock ∧ some k_ ≠ (.slice Ao20 t1029.length co20 : Value).ownBlock ∧ some k_ ≠ (.slice Ao27 t1033.length co27 : Value).ownBlock ∧ some k_ ≠ (.slice Ao26 t1040.length co26 : Value).ownBlock ∧ some k_ ≠ (v1050 : Value).ownBlock ∧ some k_ ≠ (.slice Ao36 t1056.length co36 : Value).ownBlock ∧ k_ ≠ gb1024 ∧ k_ ≠ gb1032 ∧ k_ ≠ gb1043 ∧ k_ ≠ gb1060) v1045 t1044) := ⟨qg3_⟩
       replace HO1051 : Aside0 (Kd.S k_Maker 38 w48 w.heap.size (fun k_ => some k_ ≠ (.slice Ao15 t1017.length co15 : Value).ownBlock ∧ some k_ ≠ (.slice Ao20 t1029.length co20 : Value).ownBlock ∧ some k_ ≠ (.slice Ao27 t1033.length co27 : Value).ownBlock ∧ some k_ ≠ (.slice Ao26 t1040.length co26 : Value).ownBlock ∧ some k_ ≠ (v1045 : Value).ownBlock ∧ some k_ ≠ (.slice Ao36 t1056.length co36 : Value).ownBlock ∧ k_ ≠ gb1024 ∧ k_ ≠ gb1032 ∧ k_ ≠ gb1043 ∧ k_ ≠ gb1060) v1050 t1047) := ⟨qg2_⟩
       replace HO1058 : Aside0 (Kd.R k_Mark 110 w48 w.heap.size (fun k_ => some k_ ≠ (.slice Ao15 t1017.length co15 : Value).ownBlock ∧ some k_ ≠ (.slice Ao20 t1029.length co20 : Value).ownBlock ∧ some k_ ≠ (.slice Ao26 t1040.length co26 : Value).ownBlock) (.slice Ao36 t1056.length co36) t1056) := ⟨qg6_⟩
       replace BK1024 := fl_ qe_ BK1024
       replace BK1032 := fl_ qe_ BK1032
       replace BK1043 := fl_ qe_ BK1043
       replace BK1060 : Aside0 (w48.heap[gb1060]? = some (.cells #[.int .i64 t1052, .int .i64 t1053, .int .i64 t1054, .int .i64 t1055, .slice Ao36 t1056.length co36] 38 (0, 0))) := ⟨by rw [qe_]; exact bp_ BK1060.out⟩
       replace HB : Aside0 (Below w.heap.size w w48) := ⟨by rw [qe_]; exact hb_ HB.out⟩
       clear qe_
       replace HO1019 := Aside0.mk (Kd.R_drew HO1019.out)
       replace HO1031 := Aside0.mk (Kd.R_drew HO1031.out)
       replace HO1035 := Aside0.mk (Kd.S_drew HO1035.out)
       replace HO1042 := Aside0.mk (Kd.R_drew HO1042.out)
       replace HO1046 := Aside0.mk (Kd.S_drew HO1046.out)
       replace HO1051 := Aside0.mk (Kd.S_drew HO1051.out)
       replace HO1058 := Aside0.mk (Kd.R_drew HO1058.out)
       replace BK1024 := Aside0.mk (blk_drew BK1024.out)
       replace BK1032 := Aside0.mk (blk_drew BK1032.out)
       replace BK1043 := Aside0.mk (blk_drew BK1043.out)
       replace BK1060 := Aside0.mk (blk_drew BK1060.out)
       replace HB := Aside0.mk (below_drew1 HB.out)
       refine start_ (n := 39) (S := fun w' => w'.cell? ⟨gb1032, 0, none⟩ = some (.int .i64 t1025) ∧ w'.cell? ⟨gb1032, 1, none⟩ = some (.int .i64 t1026) ∧ w'.cell? ⟨gb1032, 2, none⟩ = some (.int .i64 t1027) ∧ w'.cell? ⟨gb1032, 3, none⟩ = some (.int .i64 t1028) ∧ w'.cell? ⟨gb1032, 4, none⟩ = some (.slice Ao20 t1029.length co20) ∧ w'.cell? ⟨gb1024, 0, none⟩ = some (.int .i64 t1013) ∧ w'.cell? ⟨gb1024, 1, none⟩ = some (.int .i64 t1014) ∧ w'.cell? ⟨gb1024, 2, none⟩ = some (.int .i64 t1015) ∧ w'.cell? ⟨gb1024, 3, none⟩ = some (.int .i64 t1016) ∧ w'.cell? ⟨gb1024, 4, none⟩ = some (.slice Ao15 t1017.length co15) ∧ w'.cell? ⟨gb1043, 0, none⟩ = some (.int .i64 t1036) ∧ w'.cell? ⟨gb1043, 1, none⟩ = some (.int .i64 t1037) ∧ w'.cell? ⟨gb1043, 2, none⟩ = some (.int .i64 t1038) ∧ w'.cell? ⟨gb1043, 3, none⟩ = some (.int .i64 t1039) ∧ w'.cell? ⟨gb1043, 4, none⟩ = some (.slice Ao26 t1040.length co26) ∧ w'.cell? ⟨gb1060, 0, none⟩ = some (.int .i64 t1052) ∧ w'.cell? ⟨gb1060, 1, none⟩ = some (.int .i64 t1053) ∧ w'.cell? ⟨gb1060, 2, none⟩ = some (.int .i64 t1054) ∧ w'.cell? ⟨gb1060, 3, none⟩ = some (.int .i64 t1055) ∧ w'.cell? ⟨gb1060, 4, none⟩ = some (.slice Ao36 t1056.length co36)) (ds := []) laws_FnMakers.m0 (by kernel_rfl) rfl rfl ⟨bc_ BK1032 0, bc_ BK1032 1, bc_ BK1032 2, bc_ BK1032 3, bc_ BK1032 4, bc_ BK1024 0, bc_ BK1024 1, bc_ BK1024 2, bc_ BK1024 3, bc_ BK1024 4, bc_ BK1043 0, bc_ BK1043 1, bc_ BK1043 2, bc_ BK1043 3, bc_ BK1043 4, bc_ BK1060 0, bc_ BK1060 1, bc_ BK1060 2, bc_ BK1060 3, bc_ BK1060 4⟩ (fun hHeld => ?_); refine with_tabW laws_FnMakers.tab9 laws_FnMakers.bits9 (fun HT_ HW_ => ?_)
       generalize w48.drew = w49 at HO1019 HO1031 HO1035 HO1042 HO1046 HO1051 HO1058 BK1024 BK1032 BK1043 BK1060 HB hHeld ⊢
       refine pI_ 2 56 HT_ laws_FnMakers.m1 rfl rfl ?_
       refine pI_ 3 57 HT_ laws_FnMakers.m2 rfl rfl ?_
       refine pI_ 4 58 HT_ laws_FnMakers.m3 rfl rfl ?_
       refine pI_ 5 59 HT_ laws_FnMakers.m4 rfl rfl ?_
       refine tk_ 0 54 HT_ HW_ laws_FnMakers.m5 rfl rfl hHeld ?_
       refine tk_ 1 55 HT_ HW_ laws_FnMakers.m6 rfl rfl hHeld ?_
       refine on_ 6 60 HT_ laws_FnMakers.m7 rfl rfl (fun K hK => ?_)
       refine goes_ Try.func40 (by kernel_rfl) rfl #[.agg #[.int .i64 t1013, .int .i64 t1014, .int .i64 t1015, .int .i64 t1016, .slice Ao15 t1017.length co15], .int .i64 t1020, .int .i64 t1021, .int .i64 t1022, .int .i64 t1023] (by rfl) rfl rfl sm_ ?_
       with_reducible refine (spec_MakerPut.calls kj2 t1013 t1014 t1015 t1016 _ _ t1017 t1020 t1021 t1022 t1023 t1061 t1062 t1063 t1064 t1065 _ ?side1 ?side2 A37.out).mono ?_
       (case side1 => repeat (first | exact (Kd.R_reads' HO1019.out).2.2 | (with_reducible refine Kd.C_alloc ?_ _) | (with_reducible refine Kd.C_drewN ?_ _) | (with_reducible refine Kd.C_drew ?_)))
       (case side2 => exact (Kd.R_reads' HO1019.out).2.1)
       rintro e w50 ⟨v1066, rfl, ho0, hb⟩
       refine ⟨_, rfl, ?_⟩
       have HO1067 := Aside0.mk (Kd.R_lower (Kd.R_new' (Kd.R_new' (Kd.R_new' (Kd.R_new' ho0 (Kd.R_lt (rq_ HO1019.out))) (Kd.R_lt (rq_ HO1031.out))) (Kd.R_lt (rq_ HO1042.out))) (Kd.R_lt (rq_ HO1058.out))) (below_size (hb_ HB.out)))
       replace HO1019 := Aside0.mk (Kd.R_elder' (rq_ HO1019.out) (Kd.R_base ho0) hb)
       replace HO1031 := Aside0.mk (Kd.R_elder' (rq_ HO1031.out) (Kd.R_base ho0) hb)
       replace HO1035 := Aside0.mk (Kd.S_elder' (qg0_) (Kd.R_base ho0) hb)
       replace HO1042 := Aside0.mk (Kd.R_elder' (rq_ HO1042.out) (Kd.R_base ho0) hb)
       replace HO1046 := Aside0.mk (Kd.S_elder' (qg1_) (Kd.R_base ho0) hb)
       replace HO1051 := Aside0.mk (Kd.S_elder' (qg5_) (Kd.R_base ho0) hb)
       replace HO1058 := Aside0.mk (Kd.R_elder' (rq_ HO1058.out) (Kd.R_base ho0) hb)
       replace BK1024 := cb_ BK1024 hb
       replace BK1032 := cb_ BK1032 hb
       replace BK1043 := cb_ BK1043 hb
       replace BK1060 := cb_ BK1060 hb
       replace HB := ch_ HB hb
       (try clear hb); (try clear hb2); (try clear hk); (try clear hi); (try clear ho0)
       obtain ⟨Ao51, co51, eo51⟩ := Kd.R_slice HO1067.out
       (first | subst eo51 | (injection eo51 with f1_ f2_ f3_; have f4_ := f1_.symm; have f5_ := f3_.symm; clear f1_ f2_ f3_; subst f4_; subst f5_))
       refine hK.out _ _ ⟨bc_ BK1032 0, bc_ BK1032 1, bc_ BK1032 2, bc_ BK1032 3, bc_ BK1032 4, bc_ BK1024 0, bc_ BK1024 1, bc_ BK1024 2, bc_ BK1024 3, bc_ BK1024 4, bc_ BK1043 0, bc_ BK1043 1, bc_ BK1043 2, bc_ BK1043 3, bc_ BK1043 4, bc_ BK1060 0, bc_ BK1060 1, bc_ BK1060 2, bc_ BK1060 3, bc_ BK1060 4⟩ (fun hHeld => ?_)
       clear hK K
       refine nm_ ?_
       refine on_ 7 61 HT_ laws_FnMakers.m8 rfl rfl (fun K hK => ?_)
       refine goes_ Try.func39 (by kernel_rfl) rfl #[.agg #[.int .i64 t1025, .int .i64 t1026, .int .i64 t1027, .int .i64 t1028, .slice Ao20 t1029.length co20], .agg #[.int .i64 t1061, .int .i64 t1062, .int .i64 t1063, .int .i64 t1064, .slice Ao51 t1065.length co51]] (by rfl) rfl rfl sm_ ?_
       with_reducible refine (laws_sameMaker.calls kj2 t1025 t1026 t1027 t1028 _ _ t1029 t1061 t1062 t1063 t1064 _ _ t1065 true _ ?side1 ?side2 ?side3 ?side4 A38.out).mono ?_
       (case side1 => repeat (first | exact (Kd.R_reads' HO1031.out).2.2 | (with_reducible refine Kd.C_alloc ?_ _) | (with_reducible refine Kd.C_drewN ?_ _) | (with_reducible refine Kd.C_drew ?_)))
       (case side2 => exact (Kd.R_reads' HO1031.out).2.1)
       (case side3 => repeat (first | exact (Kd.R_reads' HO1067.out).2.2 | (with_reducible refine Kd.C_alloc ?_ _) | (with_reducible refine Kd.C_drewN ?_ _) | (with_reducible refine Kd.C_drew ?_)))
       (case side4 => exact (Kd.R_reads' HO1067.out).2.1)
       rintro e w52 ⟨rfl, hb⟩
       refine ⟨_, rfl, ?_⟩
       replace HO1019 := cr_ HO1019 hb
       replace HO1031 := cr_ HO1031 hb
       replace HO1035 := Aside0.mk (Kd.S_below (qg0_) hb)
       replace HO1042 := cr_ HO1042 hb
       replace HO1046 := Aside0.mk (Kd.S_below (qg1_) hb)
       replace HO1051 := Aside0.mk (Kd.S_below (qg5_) hb)
       replace HO1058 := cr_ HO1058 hb
       replace HO1067 := cr_ HO1067 hb
       replace BK1024 := cb_ BK1024 hb
       replace BK1032 := cb_ BK1032 hb
       replace BK1043 := cb_ BK1043 hb
       replace BK1060 := cb_ BK1060 hb
       replace HB := ch_ HB hb
       (try clear hb)
       obtain ⟨Ao53, co53, eo53⟩ := Kd.S_slice HO1046.out
       (first | subst eo53 | (injection eo53 with f1_ f2_ f3_; have f4_ := f1_.symm; have f5_ := f3_.symm; clear f1_ f2_ f3_; subst f4_; subst f5_))
       refine hK.out _ _ ⟨bc_ BK1032 0, bc_ BK1032 1, bc_ BK1032 2, bc_ BK1032 3, bc_ BK1032 4, bc_ BK1024 0, bc_ BK1024 1, bc_ BK1024 2, bc_ BK1024 3, bc_ BK1024 4, bc_ BK1043 0, bc_ BK1043 1, bc_ BK1043 2, bc_ BK1043 3, bc_ BK1043 4, bc_ BK1060 0, bc_ BK1060 1, bc_ BK1060 2, bc_ BK1060 3, bc_ BK1060 4⟩ (fun hHeld => ?_)
       clear hK K
       refine nm_ ?_
       refine pI_ 8 62 HT_ laws_FnMakers.m9 rfl rfl ?_
       refine pI_ 9 63 HT_ laws_FnMakers.m10 rfl rfl ?_
       refine pI_ 10 64 HT_ laws_FnMakers.m11 rfl rfl ?_
       refine pI_ 11 65 HT_ laws_FnMakers.m12 rfl rfl ?_
       refine pI_ 12 66 HT_ laws_FnMakers.m13 rfl rfl ?_
       refine tk_ 13 67 HT_ HW_ laws_FnMakers.m14 rfl rfl hHeld ?_
       refine on_ 14 68 HT_ laws_FnMakers.m15 rfl rfl (fun K hK => ?_)
       refine goes_ Try.func25 (by kernel_rfl) rfl #[.slice Ao27 t1033.length co27, .agg #[.int .i64 t1036, .int .i64 t1037, .int .i64 t1038, .int .i64 t1039, .slice Ao26 t1040.length co26]] (by rfl) rfl rfl sm_ ?_
       with_reducible refine (spec_MakerSet.calls kj2 _ _ t1033 t1036 t1037 t1038 t1039 _ _ t1040 t1069 _ ?side1 ?side2 ?side3 ?side4 A40.out).mono ?_
       (case side1 => repeat (first | exact (Kd.S_reads' HO1035.out).2.2 | (with_reducible refine Kd.C_alloc ?_ _) | (with_reducible refine Kd.C_drewN ?_ _) | (with_reducible refine Kd.C_drew ?_)))
       (case side2 => exact (Kd.S_reads' HO1035.out).2.1)
       (case side3 => repeat (first | exact (Kd.R_reads' HO1042.out).2.2 | (with_reducible refine Kd.C_alloc ?_ _) | (with_reducible refine Kd.C_drewN ?_ _) | (with_reducible refine Kd.C_drew ?_)))
       (case side4 => exact (Kd.R_reads' HO1042.out).2.1)
       rintro e w54 ⟨v1070, rfl, ho0, hb⟩
       refine ⟨_, rfl, ?_⟩
       have HO1071 := Aside0.mk (Kd.S_lower (Kd.S_newB (Kd.S_newB (Kd.S_newB (Kd.S_newB (Kd.S_new' (Kd.S_new' (Kd.S_new' (Kd.S_new' (Kd.S_new' (Kd.S_new' (Kd.S_new' (Kd.S_new' ho0 (Kd.R_lt (rq_ HO1019.out))) (Kd.R_lt (rq_ HO1031.out))) (Kd.S_lt (qg0_))) (Kd.R_lt (rq_ HO1042.out))) (Kd.S_lt (qg1_))) (Kd.S_lt (qg5_))) (Kd.R_lt (rq_ HO1058.out))) (Kd.R_lt (rq_ HO1067.out))) (g := gb1024) (o := .cells #[.int .i64 t1013, .int .i64 t1014, .int .i64 t1015, .int .i64 t1016, .slice Ao15 t1017.length co15] 38 (0, 0)) (bq_ BK1024.out)) (g := gb1032) (o := .cells #[.int .i64 t1025, .int .i64 t1026, .int .i64 t1027, .int .i64 t1028, .slice Ao20 t1029.length co20] 38 (0, 0)) (bq_ BK1032.out)) (g := gb1043) (o := .cells #[.int .i64 t1036, .int .i64 t1037, .int .i64 t1038, .int .i64 t1039, .slice Ao26 t1040.length co26] 38 (0, 0)) (bq_ BK1043.out)) (g := gb1060) (o := .cells #[.int .i64 t1052, .int .i64 t1053, .int .i64 t1054, .int .i64 t1055, .slice Ao36 t1056.length co36] 38 (0, 0)) (bq_ BK1060.out)) (below_size (hb_ HB.out)))
       replace HO1019 := cr_ HO1019 hb
       replace HO1031 := cr_ HO1031 hb
       replace HO1035 := Aside0.mk (Kd.S_elder' (qg0_) (Kd.S_base ho0) hb)
       replace HO1042 := cr_ HO1042 hb
       replace HO1046 := Aside0.mk (Kd.S_elder' (qg1_) (Kd.S_base ho0) hb)
       replace HO1051 := Aside0.mk (Kd.S_elder' (qg5_) (Kd.S_base ho0) hb)
       replace HO1058 := cr_ HO1058 hb
       replace HO1067 := cr_ HO1067 hb
       replace BK1024 := cb_ BK1024 hb
       replace BK1032 := cb_ BK1032 hb
       replace BK1043 := cb_ BK1043 hb
       replace BK1060 := cb_ BK1060 hb
       replace HB := ch_ HB hb
       (try clear hb); (try clear ho0)
       obtain ⟨Ao55, co55, eo55⟩ := Kd.S_slice HO1071.out
       (first | subst eo55 | (injection eo55 with f1_ f2_ f3_; have f4_ := f1_.symm; have f5_ := f3_.symm; clear f1_ f2_ f3_; subst f4_; subst f5_))
       obtain ⟨Ao56, co56, eo56⟩ := Kd.S_slice HO1051.out
       (first | subst eo56 | (injection eo56 with f1_ f2_ f3_; have f4_ := f1_.symm; have f5_ := f3_.symm; clear f1_ f2_ f3_; subst f4_; subst f5_))
       refine hK.out _ _ ⟨bc_ BK1032 0, bc_ BK1032 1, bc_ BK1032 2, bc_ BK1032 3, bc_ BK1032 4, bc_ BK1024 0, bc_ BK1024 1, bc_ BK1024 2, bc_ BK1024 3, bc_ BK1024 4, bc_ BK1043 0, bc_ BK1043 1, bc_ BK1043 2, bc_ BK1043 3, bc_ BK1043 4, bc_ BK1060 0, bc_ BK1060 1, bc_ BK1060 2, bc_ BK1060 3, bc_ BK1060 4⟩ (fun hHeld => ?_)
       clear hK K
       refine nm_ ?_
       refine pI_ 15 69 HT_ laws_FnMakers.m16 rfl rfl ?_
       refine pI_ 16 70 HT_ laws_FnMakers.m17 rfl rfl ?_
       refine pI_ 17 71 HT_ laws_FnMakers.m18 rfl rfl ?_
       refine pI_ 18 72 HT_ laws_FnMakers.m19 rfl rfl ?_
       refine pI_ 19 73 HT_ laws_FnMakers.m20 rfl rfl ?_
       refine pI_ 20 74 HT_ laws_FnMakers.m21 rfl rfl ?_
       refine pI_ 21 75 HT_ laws_FnMakers.m22 rfl rfl ?_
       refine pI_ 23 77 HT_ laws_FnMakers.m23 rfl rfl ?_
       refine pI_ 24 78 HT_ laws_FnMakers.m24 rfl rfl ?_
       refine pI_ 25 79 HT_ laws_FnMakers.m25 rfl rfl ?_
       refine on_ 22 76 HT_ laws_FnMakers.m26 rfl rfl (fun K hK => ?_)
       refine goes_ Try.func18 (by kernel_rfl) rfl #[.slice Ao56 t1047.length co56, .int .i64 t1048, .int .i64 t1049] (by rfl) rfl rfl sm_ ?_
       with_reducible refine (impl_MakerOf.calls kj2 _ _ t1047 t1048 t1049 t1072 t1073 t1074 t1075 t1076 _ ?side1 ?side2 A42.out).mono ?_
       (case side1 => repeat (first | exact (Kd.S_reads' HO1051.out).2.2 | (with_reducible refine Kd.C_alloc ?_ _) | (with_reducible refine Kd.C_drewN ?_ _) | (with_reducible refine Kd.C_drew ?_)))
       (case side2 => exact (Kd.S_reads' HO1051.out).2.1)
       rintro e w57 ⟨v1077, rfl, ho0, hb⟩
       refine ⟨_, rfl, ?_⟩
       have HO1078 := Aside0.mk (Kd.R_lower (Kd.R_new' (Kd.R_new' (Kd.R_new' (Kd.R_new' (Kd.R_new' ho0 (Kd.R_lt (rq_ HO1019.out))) (Kd.R_lt (rq_ HO1031.out))) (Kd.R_lt (rq_ HO1042.out))) (Kd.R_lt (rq_ HO1058.out))) (Kd.R_lt (rq_ HO1067.out))) (below_size (hb_ HB.out)))
       replace HO1019 := Aside0.mk (Kd.R_elder' (rq_ HO1019.out) (Kd.R_base ho0) hb)
       replace HO1031 := Aside0.mk (Kd.R_elder' (rq_ HO1031.out) (Kd.R_base ho0) hb)
       replace HO1035 := Aside0.mk (Kd.S_elder' (qg0_) (Kd.R_base ho0) hb)
       replace HO1042 := Aside0.mk (Kd.R_elder' (rq_ HO1042.out) (Kd.R_base ho0) hb)
       replace HO1046 := Aside0.mk (Kd.S_elder' (qg1_) (Kd.R_base ho0) hb)
       replace HO1051 := Aside0.mk (Kd.S_elder' (qg5_) (Kd.R_base ho0) hb)
       replace HO1058 := Aside0.mk (Kd.R_elder' (rq_ HO1058.out) (Kd.R_base ho0) hb)
       replace HO1067 := Aside0.mk (Kd.R_elder' (rq_ HO1067.out) (Kd.R_base ho0) hb)
       replace HO1071 := Aside0.mk (Kd.S_elder' (qg11_) (Kd.R_base ho0) hb)
       replace BK1024 := cb_ BK1024 hb
       replace BK1032 := cb_ BK1032 hb
       replace BK1043 := cb_ BK1043 hb
       replace BK1060 := cb_ BK1060 hb
       replace HB := ch_ HB hb
       (try clear hb); (try clear ho0)
       refine hK.out _ _ ⟨bc_ BK1032 0, bc_ BK1032 1, bc_ BK1032 2, bc_ BK1032 3, bc_ BK1032 4, bc_ BK1024 0, bc_ BK1024 1, bc_ BK1024 2, bc_ BK1024 3, bc_ BK1024 4, bc_ BK1043 0, bc_ BK1043 1, bc_ BK1043 2, bc_ BK1043 3, bc_ BK1043 4, bc_ BK1060 0, bc_ BK1060 1, bc_ BK1060 2, bc_ BK1060 3, bc_ BK1060 4⟩ (fun hHeld => ?_)
       clear hK K
       refine nm_ ?_
       refine on_ 26 80 HT_ laws_FnMakers.m27 rfl rfl (fun K hK => ?_)
       refine goes_ Try.func16 (by kernel_rfl) rfl #[.slice Ao56 t1047.length co56, .int .i64 t1048, .int .i64 t1049] (by rfl) rfl rfl sm_ ?_
       with_reducible refine (spec_MakerOf.calls kj2 _ _ t1047 t1048 t1049 t1079 t1080 t1081 t1082 t1083 _ ?side1 ?side2 A43.out).mono ?_
       (case side1 => repeat (first | exact (Kd.S_reads' HO1051.out).2.2 | (with_reducible refine Kd.C_alloc ?_ _) | (with_reducible refine Kd.C_drewN ?_ _) | (with_reducible refine Kd.C_drew ?_)))
       (case side2 => exact (Kd.S_reads' HO1051.out).2.1)
       rintro e w58 ⟨v1084, rfl, ho0, hb⟩
       refine ⟨_, rfl, ?_⟩
       have HO1085 := Aside0.mk (Kd.R_lower (Kd.R_new' (Kd.R_new' (Kd.R_new' (Kd.R_new' (Kd.R_new' (Kd.R_new' ho0 (Kd.R_lt (rq_ HO1019.out))) (Kd.R_lt (rq_ HO1031.out))) (Kd.R_lt (rq_ HO1042.out))) (Kd.R_lt (rq_ HO1058.out))) (Kd.R_lt (rq_ HO1067.out))) (Kd.R_lt (rq_ HO1078.out))) (below_size (hb_ HB.out)))
       replace HO1019 := Aside0.mk (Kd.R_elder' (rq_ HO1019.out) (Kd.R_base ho0) hb)
       replace HO1031 := Aside0.mk (Kd.R_elder' (rq_ HO1031.out) (Kd.R_base ho0) hb)
       replace HO1035 := Aside0.mk (Kd.S_elder' (qg0_) (Kd.R_base ho0) hb)
       replace HO1042 := Aside0.mk (Kd.R_elder' (rq_ HO1042.out) (Kd.R_base ho0) hb)
       replace HO1046 := Aside0.mk (Kd.S_elder' (qg1_) (Kd.R_base ho0) hb)
       replace HO1051 := Aside0.mk (Kd.S_elder' (qg5_) (Kd.R_base ho0) hb)
       replace HO1058 := Aside0.mk (Kd.R_elder' (rq_ HO1058.out) (Kd.R_base ho0) hb)
       replace HO1067 := Aside0.mk (Kd.R_elder' (rq_ HO1067.out) (Kd.R_base ho0) hb)
       replace HO1071 := Aside0.mk (Kd.S_elder' (qg11_) (Kd.R_base ho0) hb)
       replace HO1078 := Aside0.mk (Kd.R_elder' (rq_ HO1078.out) (Kd.R_base ho0) hb)
       replace BK1024 := cb_ BK1024 hb
       replace BK1032 := cb_ BK1032 hb
       replace BK1043 := cb_ BK1043 hb
       replace BK1060 := cb_ BK1060 hb
       replace HB := ch_ HB hb
       (try clear hb); (try clear ho0)
       obtain ⟨Ao59, co59, eo59⟩ := Kd.R_slice HO1078.out
       (first | subst eo59 | (injection eo59 with f1_ f2_ f3_; have f4_ := f1_.symm; have f5_ := f3_.symm; clear f1_ f2_ f3_; subst f4_; subst f5_))
       obtain ⟨Ao60, co60, eo60⟩ := Kd.R_slice HO1085.out
       (first | subst eo60 | (injection eo60 with f1_ f2_ f3_; have f4_ := f1_.symm; have f5_ := f3_.symm; clear f1_ f2_ f3_; subst f4_; subst f5_))
       refine hK.out _ _ ⟨bc_ BK1032 0, bc_ BK1032 1, bc_ BK1032 2, bc_ BK1032 3, bc_ BK1032 4, bc_ BK1024 0, bc_ BK1024 1, bc_ BK1024 2, bc_ BK1024 3, bc_ BK1024 4, bc_ BK1043 0, bc_ BK1043 1, bc_ BK1043 2, bc_ BK1043 3, bc_ BK1043 4, bc_ BK1060 0, bc_ BK1060 1, bc_ BK1060 2, bc_ BK1060 3, bc_ BK1060 4⟩ (fun hHeld => ?_)
       clear hK K
       refine nm_ ?_
       refine on_ 27 81 HT_ laws_FnMakers.m28 rfl rfl (fun K hK => ?_)
       refine goes_ Try.func39 (by kernel_rfl) rfl #[.agg #[.int .i64 t1072, .int .i64 t1073, .int .i64 t1074, .int .i64 t1075, .slice Ao59 t1076.length co59], .agg #[.int .i64 t1079, .int .i64 t1080, .int .i64 t1081, .int .i64 t1082, .slice Ao60 t1083.length co60]] (by rfl) rfl rfl sm_ ?_
       with_reducible refine (laws_sameMaker.calls kj2 t1072 t1073 t1074 t1075 _ _ t1076 t1079 t1080 t1081 t1082 _ _ t1083 true _ ?side1 ?side2 ?side3 ?side4 A44.out).mono ?_
       (case side1 => repeat (first | exact (Kd.R_reads' HO1078.out).2.2 | (with_reducible refine Kd.C_alloc ?_ _) | (with_reducible refine Kd.C_drewN ?_ _) | (with_reducible refine Kd.C_drew ?_)))
       (case side2 => exact (Kd.R_reads' HO1078.out).2.1)
       (case side3 => repeat (first | exact (Kd.R_reads' HO1085.out).2.2 | (with_reducible refine Kd.C_alloc ?_ _) | (with_reducible refine Kd.C_drewN ?_ _) | (with_reducible refine Kd.C_drew ?_)))
       (case side4 => exact (Kd.R_reads' HO1085.out).2.1)
       rintro e w61 ⟨rfl, hb⟩
       refine ⟨_, rfl, ?_⟩
       replace HO1019 := cr_ HO1019 hb
       replace HO1031 := cr_ HO1031 hb
       replace HO1035 := Aside0.mk (Kd.S_below (qg0_) hb)
       replace HO1042 := cr_ HO1042 hb
       replace HO1046 := Aside0.mk (Kd.S_below (qg1_) hb)
       replace HO1051 := Aside0.mk (Kd.S_below (qg5_) hb)
       replace HO1058 := cr_ HO1058 hb
       replace HO1067 := cr_ HO1067 hb
       replace HO1071 := Aside0.mk (Kd.S_below (qg11_) hb)
       replace HO1078 := cr_ HO1078 hb
       replace HO1085 := cr_ HO1085 hb
       replace BK1024 := cb_ BK1024 hb
       replace BK1032 := cb_ BK1032 hb
       replace BK1043 := cb_ BK1043 hb
       replace BK1060 := cb_ BK1060 hb
       replace HB := ch_ HB hb
       (try clear hb)
       refine hK.out _ _ ⟨bc_ BK1032 0, bc_ BK1032 1, bc_ BK1032 2, bc_ BK1032 3, bc_ BK1032 4, bc_ BK1024 0, bc_ BK1024 1, bc_ BK1024 2, bc_ BK1024 3, bc_ BK1024 4, bc_ BK1043 0, bc_ BK1043 1, bc_ BK1043 2, bc_ BK1043 3, bc_ BK1043 4, bc_ BK1060 0, bc_ BK1060 1, bc_ BK1060 2, bc_ BK1060 3, bc_ BK1060 4⟩ (fun hHeld => ?_)
       clear hK K
       refine nm_ ?_
       refine pI_ 28 82 HT_ laws_FnMakers.m29 rfl rfl ?_
       refine pI_ 29 83 HT_ laws_FnMakers.m30 rfl rfl ?_
       refine pI_ 30 84 HT_ laws_FnMakers.m31 rfl rfl ?_
       refine pI_ 32 86 HT_ #[true, true, true, true, true, true, true, true, true, true, true, true, true, true, true, true, true, true, true, true, true, true, true, true, true, true, true, true, true, true, true, false, true, false, false, false, false, false, false] rfl rfl ?_
       refine pI_ 35 89 HT_ #[true, true, true, true, true, true, true, true, true, true, true, true, true, true, true, true, true, true, true, true, true, true, true, true, true, true, true, true, true, true, true, false, true, false, false, true, false, false, false] rfl rfl ?_
       refine tk_ 31 85 HT_ HW_ #[true, true, true, true, true, true, true, true, true, true, true, true, true, true, true, true, true, true, true, true, true, true, true, true, true, true, true, true, true, true, true, true, true, false, false, true, false, false, false] rfl rfl hHeld ?_
       refine tk_ 34 88 HT_ HW_ #[true, true, true, true, true, true, true, true, true, true, true, true, true, true, true, true, true, true, true, true, true, true, true, true, true, true, true, true, true, true, true, true, true, false, true, true, false, false, false] rfl rfl hHeld ?_
       refine on_ 33 87 HT_ laws_FnMakers.m32 rfl rfl (fun K hK => ?_)
       refine goes_ Try.func41 (by kernel_rfl) rfl #[.agg #[.int .i64 t1052, .int .i64 t1053, .int .i64 t1054, .int .i64 t1055, .slice Ao36 t1056.length co36], .int .i64 t1059] (by rfl) rfl rfl sm_ ?_
       with_reducible refine (impl_MakerOk.calls kj2 t1052 t1053 t1054 t1055 _ _ t1056 t1059 t1087 _ ?side1 ?side2 A46.out).mono ?_
       (case side1 => repeat (first | exact (Kd.R_reads' HO1058.out).2.2 | (with_reducible refine Kd.C_alloc ?_ _) | (with_reducible refine Kd.C_drewN ?_ _) | (with_reducible refine Kd.C_drew ?_)))
       (case side2 => exact (Kd.R_reads' HO1058.out).2.1)
       rintro e w62 ⟨rfl, hb⟩
       refine ⟨_, rfl, ?_⟩
       replace HO1019 := cr_ HO1019 hb
       replace HO1031 := cr_ HO1031 hb
       replace HO1035 := Aside0.mk (Kd.S_below (qg0_) hb)
       replace HO1042 := cr_ HO1042 hb
       replace HO1046 := Aside0.mk (Kd.S_below (qg1_) hb)
       replace HO1051 := Aside0.mk (Kd.S_below (qg5_) hb)
       replace HO1058 := cr_ HO1058 hb
       replace HO1067 := cr_ HO1067 hb
       replace HO1071 := Aside0.mk (Kd.S_below (qg11_) hb)
       replace HO1078 := cr_ HO1078 hb
       replace HO1085 := cr_ HO1085 hb
       replace BK1024 := cb_ BK1024 hb
       replace BK1032 := cb_ BK1032 hb
       replace BK1043 := cb_ BK1043 hb
       replace BK1060 := cb_ BK1060 hb
       replace HB := ch_ HB hb
       (try clear hb)
       refine hK.out _ _ ⟨bc_ BK1032 0, bc_ BK1032 1, bc_ BK1032 2, bc_ BK1032 3, bc_ BK1032 4, bc_ BK1024 0, bc_ BK1024 1, bc_ BK1024 2, bc_ BK1024 3, bc_ BK1024 4, bc_ BK1043 0, bc_ BK1043 1, bc_ BK1043 2, bc_ BK1043 3, bc_ BK1043 4, bc_ BK1060 0, bc_ BK1060 1, bc_ BK1060 2, bc_ BK1060 3, bc_ BK1060 4⟩ (fun hHeld => ?_)
       clear hK K
       refine nm_ ?_
       refine on_ 36 90 HT_ laws_FnMakers.m33 rfl rfl (fun K hK => ?_)
       refine goes_ Try.func42 (by kernel_rfl) rfl #[.agg #[.int .i64 t1052, .int .i64 t1053, .int .i64 t1054, .int .i64 t1055, .slice Ao36 t1056.length co36], .int .i64 t1059] (by rfl) rfl rfl sm_ ?_
       with_reducible refine (spec_MakerOk.calls kj2 t1052 t1053 t1054 t1055 _ _ t1056 t1059 t1088 _ ?side1 ?side2 A47.out).mono ?_
       (case side1 => repeat (first | exact (Kd.R_reads' HO1058.out).2.2 | (with_reducible refine Kd.C_alloc ?_ _) | (with_reducible refine Kd.C_drewN ?_ _) | (with_reducible refine Kd.C_drew ?_)))
       (case side2 => exact (Kd.R_reads' HO1058.out).2.1)
       rintro e w63 ⟨rfl, hb⟩
       refine ⟨_, rfl, ?_⟩
       replace HO1019 := cr_ HO1019 hb
       replace HO1031 := cr_ HO1031 hb
       replace HO1035 := Aside0.mk (Kd.S_below (qg0_) hb)
       replace HO1042 := cr_ HO1042 hb
       replace HO1046 := Aside0.mk (Kd.S_below (qg1_) hb)
       replace HO1051 := Aside0.mk (Kd.S_below (qg5_) hb)
       replace HO1058 := cr_ HO1058 hb
       replace HO1067 := cr_ HO1067 hb
       replace HO1071 := Aside0.mk (Kd.S_below (qg11_) hb)
       replace HO1078 := cr_ HO1078 hb
       replace HO1085 := cr_ HO1085 hb
       replace BK1024 := cb_ BK1024 hb
       replace BK1032 := cb_ BK1032 hb
       replace BK1043 := cb_ BK1043 hb
       replace BK1060 := cb_ BK1060 hb
       replace HB := ch_ HB hb
       (try clear hb)
       refine hK.out _ _ ⟨bc_ BK1032 0, bc_ BK1032 1, bc_ BK1032 2, bc_ BK1032 3, bc_ BK1032 4, bc_ BK1024 0, bc_ BK1024 1, bc_ BK1024 2, bc_ BK1024 3, bc_ BK1024 4, bc_ BK1043 0, bc_ BK1043 1, bc_ BK1043 2, bc_ BK1043 3, bc_ BK1043 4, bc_ BK1060 0, bc_ BK1060 1, bc_ BK1060 2, bc_ BK1060 3, bc_ BK1060 4⟩ (fun hHeld => ?_)
       clear hK K
       refine nm_ ?_
       refine pI_ 37 91 HT_ laws_FnMakers.m34 rfl rfl ?_
       refine pI_ 38 92 HT_ laws_FnMakers.m35 rfl rfl ?_
       refine done_ (done_of HT_.out (by kernel_rfl)) ?_
       try go_wp2
       go_meet
       case rel => exact ⟨_, ((t1087 != t1088)), (qg15_), H', ⟨qg14_⟩, ⟨qg12_⟩, ⟨rm_ HO1019.out⟩, ⟨rm_ HO1031.out⟩, ⟨rm_ HO1042.out⟩, ⟨rm_ HO1058.out⟩, ⟨bq_ BK1024.out⟩, ⟨bq_ BK1032.out⟩, ⟨bq_ BK1043.out⟩, ⟨bq_ BK1060.out⟩, ⟨hb_ HB.out⟩⟩
      ·
       replace c45 := Bool.eq_false_iff.mpr c45
       subst c45
       have H1 : (laws_FnMakers.j1 kj2 t1020 t1021 t1022 t1044 true t1013 t1014 t1015 t1016 t1017 t1025 t1026 t1027 t1028 t1029 t1036 t1037 t1038 t1039 t1040) = some r := by rw [if_neg (show ¬ (false = true) by decide)] at H; exact H
       clear H
       have H := H1
       clear H1
       have H' := Aside0.mk H
       clear H
       try go_wp2
       obtain ⟨w64, qe_⟩ : ∃ x_, x_ = (((((w31.setCell ⟨gb1060, 0, none⟩ (.int .i64 t1052)).setCell ⟨gb1060, 1, none⟩ (.int .i64 t1053)).setCell ⟨gb1060, 2, none⟩ (.int .i64 t1054)).setCell ⟨gb1060, 3, none⟩ (.int .i64 t1055)).setCell ⟨gb1060, 4, none⟩ (.slice Ao36 t1056.length co36)) := ⟨_, rfl⟩
       rw [← qe_]
       replace HO1019 : Aside0 (Kd.R k_Mark 110 w64 w.heap.size (fun k_ => some k_ ≠ (.slice Ao20 t1029.length co20 : Value).ownBlock ∧ some k_ ≠ (.slice Ao26 t1040.length co26 : Value).ownBlock ∧ some k_ ≠ (.slice Ao36 t1056.length co36 : Value).ownBlock) (.slice Ao15 t1017.length co15) t1017) := ⟨qg9_⟩
       replace HO1031 : Aside0 (Kd.R k_Mark 110 w64 w.heap.size (fun k_ => some k_ ≠ (.slice Ao15 t1017.length co15 : Value).ownBlock ∧ some k_ ≠ (.slice Ao26 t1040.length co26 : Value).ownBlock ∧ some k_ ≠ (.slice Ao36 t1056.length co36 : Value).ownBlock) (.slice Ao20 t1029.length co20) t1029) := ⟨qg8_⟩
       replace HO1035 : Aside0 (Kd.S k_Maker 38 w64 w.heap.size (fun k_ => some k_ ≠ (.slice Ao15 t1017.length co15 : Value).ownBlock ∧ some k_ ≠ (.slice Ao20 t1029.length co20 : Value).ownBlock ∧ some k_ ≠ (.slice Ao26 t1040.length co26 : Value).ownBlock ∧ some k_ ≠ (v1045 : Value).ownBlock ∧ some k_ ≠ (v1050 : Value).ownBlock ∧ some k_ ≠ (.slice Ao36 t1056.length co36 : Value).ownBlock ∧ k_ ≠ gb1024 ∧ k_ ≠ gb1032 ∧ k_ ≠ gb1043 ∧ k_ ≠ gb1060) (.slice Ao27 t1033.length co27) t1033) := ⟨qg4_⟩
       replace HO1042 : Aside0 (Kd.R k_Mark 110 w64 w.heap.size (fun k_ => some k_ ≠ (.slice Ao15 t1017.length co15 : Value).ownBlock ∧ some k_ ≠ (.slice Ao20 t1029.length co20 : Value).ownBlock ∧ some k_ ≠ (.slice Ao36 t1056.length co36 : Value).ownBlock) (.slice Ao26 t1040.length co26) t1040) := ⟨qg7_⟩
       replace HO1046 : Aside0 (Kd.S k_Maker 38 w64 w.heap.size (fun k_ => some k_ ≠ (.slice Ao15 t1017.length co15 : Value).ownBlock ∧ some k_ ≠ (.slice Ao20 t1029.length co20 : Value).ownBlock ∧ some k_ ≠ (.slice Ao27 t1033.length co27 : Value).ownBlock ∧ some k_ ≠ (.slice Ao26 t1040.length co26 : Value).ownBlock ∧ some k_ ≠ (v1050 : Value).ownBlock ∧ some k_ ≠ (.slice Ao36 t1056.length co36 : Value).ownBlock ∧ k_ ≠ gb1024 ∧ k_ ≠ gb1032 ∧ k_ ≠ gb1043 ∧ k_ ≠ gb1060) v1045 t1044) := ⟨qg3_⟩
       replace HO1051 : Aside0 (Kd.S k_Maker 38 w64 w.heap.size (fun k_ => some k_ ≠ (.slice Ao15 t1017.length co15 : Value).ownBlock ∧ some k_ ≠ (.slice Ao20 t1029.length co20 : Value).ownBlock ∧ some k_ ≠ (.slice Ao27 t1033.length co27 : Value).ownBlock ∧ some k_ ≠ (.slice Ao26 t1040.length co26 : Value).ownBlock ∧ some k_ ≠ (v1045 : Value).ownBlock ∧ some k_ ≠ (.slice Ao36 t1056.length co36 : Value).ownBlock ∧ k_ ≠ gb1024 ∧ k_ ≠ gb1032 ∧ k_ ≠ gb1043 ∧ k_ ≠ gb1060) v1050 t1047) := ⟨qg2_⟩
       replace HO1058 : Aside0 (Kd.R k_Mark 110 w64 w.heap.size (fun k_ => some k_ ≠ (.slice Ao15 t1017.length co15 : Value).ownBlock ∧ some k_ ≠ (.slice Ao20 t1029.length co20 : Value).ownBlock ∧ some k_ ≠ (.slice Ao26 t1040.length co26 : Value).ownBlock) (.slice Ao36 t1056.length co36) t1056) := ⟨qg6_⟩
       replace BK1024 := fl_ qe_ BK1024
       replace BK1032 := fl_ qe_ BK1032
       replace BK1043 := fl_ qe_ BK1043
       replace BK1060 : Aside0 (w64.heap[gb1060]? = some (.cells #[.int .i64 t1052, .int .i64 t1053, .int .i64 t1054, .int .i64 t1055, .slice Ao36 t1056.length co36] 38 (0, 0))) := ⟨by rw [qe_]; exact bp_ BK1060.out⟩
       replace HB : Aside0 (Below w.heap.size w w64) := ⟨by rw [qe_]; exact hb_ HB.out⟩
       clear qe_
       replace HO1019 := Aside0.mk (Kd.R_drew HO1019.out)
       replace HO1031 := Aside0.mk (Kd.R_drew HO1031.out)
       replace HO1035 := Aside0.mk (Kd.S_drew HO1035.out)
       replace HO1042 := Aside0.mk (Kd.R_drew HO1042.out)
       replace HO1046 := Aside0.mk (Kd.S_drew HO1046.out)
       replace HO1051 := Aside0.mk (Kd.S_drew HO1051.out)
       replace HO1058 := Aside0.mk (Kd.R_drew HO1058.out)
       replace BK1024 := Aside0.mk (blk_drew BK1024.out)
       replace BK1032 := Aside0.mk (blk_drew BK1032.out)
       replace BK1043 := Aside0.mk (blk_drew BK1043.out)
       replace BK1060 := Aside0.mk (blk_drew BK1060.out)
       replace HB := Aside0.mk (below_drew1 HB.out)
       refine start_ (n := 39) (S := fun w' => w'.cell? ⟨gb1032, 0, none⟩ = some (.int .i64 t1025) ∧ w'.cell? ⟨gb1032, 1, none⟩ = some (.int .i64 t1026) ∧ w'.cell? ⟨gb1032, 2, none⟩ = some (.int .i64 t1027) ∧ w'.cell? ⟨gb1032, 3, none⟩ = some (.int .i64 t1028) ∧ w'.cell? ⟨gb1032, 4, none⟩ = some (.slice Ao20 t1029.length co20) ∧ w'.cell? ⟨gb1024, 0, none⟩ = some (.int .i64 t1013) ∧ w'.cell? ⟨gb1024, 1, none⟩ = some (.int .i64 t1014) ∧ w'.cell? ⟨gb1024, 2, none⟩ = some (.int .i64 t1015) ∧ w'.cell? ⟨gb1024, 3, none⟩ = some (.int .i64 t1016) ∧ w'.cell? ⟨gb1024, 4, none⟩ = some (.slice Ao15 t1017.length co15) ∧ w'.cell? ⟨gb1043, 0, none⟩ = some (.int .i64 t1036) ∧ w'.cell? ⟨gb1043, 1, none⟩ = some (.int .i64 t1037) ∧ w'.cell? ⟨gb1043, 2, none⟩ = some (.int .i64 t1038) ∧ w'.cell? ⟨gb1043, 3, none⟩ = some (.int .i64 t1039) ∧ w'.cell? ⟨gb1043, 4, none⟩ = some (.slice Ao26 t1040.length co26)) (ds := []) laws_FnMakers.m0 (by kernel_rfl) rfl rfl ⟨bc_ BK1032 0, bc_ BK1032 1, bc_ BK1032 2, bc_ BK1032 3, bc_ BK1032 4, bc_ BK1024 0, bc_ BK1024 1, bc_ BK1024 2, bc_ BK1024 3, bc_ BK1024 4, bc_ BK1043 0, bc_ BK1043 1, bc_ BK1043 2, bc_ BK1043 3, bc_ BK1043 4⟩ (fun hHeld => ?_); refine with_tabW laws_FnMakers.tab9 laws_FnMakers.bits9 (fun HT_ HW_ => ?_)
       generalize w64.drew = w65 at HO1019 HO1031 HO1035 HO1042 HO1046 HO1051 HO1058 BK1024 BK1032 BK1043 BK1060 HB hHeld ⊢
       refine pI_ 2 56 HT_ laws_FnMakers.m1 rfl rfl ?_
       refine pI_ 3 57 HT_ laws_FnMakers.m2 rfl rfl ?_
       refine pI_ 4 58 HT_ laws_FnMakers.m3 rfl rfl ?_
       refine pI_ 5 59 HT_ laws_FnMakers.m4 rfl rfl ?_
       refine tk_ 0 54 HT_ HW_ laws_FnMakers.m5 rfl rfl hHeld ?_
       refine tk_ 1 55 HT_ HW_ laws_FnMakers.m6 rfl rfl hHeld ?_
       refine on_ 6 60 HT_ laws_FnMakers.m7 rfl rfl (fun K hK => ?_)
       refine goes_ Try.func40 (by kernel_rfl) rfl #[.agg #[.int .i64 t1013, .int .i64 t1014, .int .i64 t1015, .int .i64 t1016, .slice Ao15 t1017.length co15], .int .i64 t1020, .int .i64 t1021, .int .i64 t1022, .int .i64 t1023] (by rfl) rfl rfl sm_ ?_
       with_reducible refine (spec_MakerPut.calls kj2 t1013 t1014 t1015 t1016 _ _ t1017 t1020 t1021 t1022 t1023 t1061 t1062 t1063 t1064 t1065 _ ?side1 ?side2 A37.out).mono ?_
       (case side1 => repeat (first | exact (Kd.R_reads' HO1019.out).2.2 | (with_reducible refine Kd.C_alloc ?_ _) | (with_reducible refine Kd.C_drewN ?_ _) | (with_reducible refine Kd.C_drew ?_)))
       (case side2 => exact (Kd.R_reads' HO1019.out).2.1)
       rintro e w66 ⟨v1066, rfl, ho0, hb⟩
       refine ⟨_, rfl, ?_⟩
       have HO1067 := Aside0.mk (Kd.R_lower (Kd.R_new' (Kd.R_new' (Kd.R_new' (Kd.R_new' ho0 (Kd.R_lt (rq_ HO1019.out))) (Kd.R_lt (rq_ HO1031.out))) (Kd.R_lt (rq_ HO1042.out))) (Kd.R_lt (rq_ HO1058.out))) (below_size (hb_ HB.out)))
       replace HO1019 := Aside0.mk (Kd.R_elder' (rq_ HO1019.out) (Kd.R_base ho0) hb)
       replace HO1031 := Aside0.mk (Kd.R_elder' (rq_ HO1031.out) (Kd.R_base ho0) hb)
       replace HO1035 := Aside0.mk (Kd.S_elder' (qg0_) (Kd.R_base ho0) hb)
       replace HO1042 := Aside0.mk (Kd.R_elder' (rq_ HO1042.out) (Kd.R_base ho0) hb)
       replace HO1046 := Aside0.mk (Kd.S_elder' (qg1_) (Kd.R_base ho0) hb)
       replace HO1051 := Aside0.mk (Kd.S_elder' (qg5_) (Kd.R_base ho0) hb)
       replace HO1058 := Aside0.mk (Kd.R_elder' (rq_ HO1058.out) (Kd.R_base ho0) hb)
       replace BK1024 := cb_ BK1024 hb
       replace BK1032 := cb_ BK1032 hb
       replace BK1043 := cb_ BK1043 hb
       replace BK1060 := cb_ BK1060 hb
       replace HB := ch_ HB hb
       (try clear hb); (try clear hb2); (try clear hk); (try clear hi); (try clear ho0)
       obtain ⟨Ao67, co67, eo67⟩ := Kd.R_slice HO1067.out
       (first | subst eo67 | (injection eo67 with f1_ f2_ f3_; have f4_ := f1_.symm; have f5_ := f3_.symm; clear f1_ f2_ f3_; subst f4_; subst f5_))
       refine hK.out _ _ ⟨bc_ BK1032 0, bc_ BK1032 1, bc_ BK1032 2, bc_ BK1032 3, bc_ BK1032 4, bc_ BK1024 0, bc_ BK1024 1, bc_ BK1024 2, bc_ BK1024 3, bc_ BK1024 4, bc_ BK1043 0, bc_ BK1043 1, bc_ BK1043 2, bc_ BK1043 3, bc_ BK1043 4⟩ (fun hHeld => ?_)
       clear hK K
       refine nm_ ?_
       refine on_ 7 61 HT_ laws_FnMakers.m8 rfl rfl (fun K hK => ?_)
       refine goes_ Try.func39 (by kernel_rfl) rfl #[.agg #[.int .i64 t1025, .int .i64 t1026, .int .i64 t1027, .int .i64 t1028, .slice Ao20 t1029.length co20], .agg #[.int .i64 t1061, .int .i64 t1062, .int .i64 t1063, .int .i64 t1064, .slice Ao67 t1065.length co67]] (by rfl) rfl rfl sm_ ?_
       with_reducible refine (laws_sameMaker.calls kj2 t1025 t1026 t1027 t1028 _ _ t1029 t1061 t1062 t1063 t1064 _ _ t1065 true _ ?side1 ?side2 ?side3 ?side4 A38.out).mono ?_
       (case side1 => repeat (first | exact (Kd.R_reads' HO1031.out).2.2 | (with_reducible refine Kd.C_alloc ?_ _) | (with_reducible refine Kd.C_drewN ?_ _) | (with_reducible refine Kd.C_drew ?_)))
       (case side2 => exact (Kd.R_reads' HO1031.out).2.1)
       (case side3 => repeat (first | exact (Kd.R_reads' HO1067.out).2.2 | (with_reducible refine Kd.C_alloc ?_ _) | (with_reducible refine Kd.C_drewN ?_ _) | (with_reducible refine Kd.C_drew ?_)))
       (case side4 => exact (Kd.R_reads' HO1067.out).2.1)
       rintro e w68 ⟨rfl, hb⟩
       refine ⟨_, rfl, ?_⟩
       replace HO1019 := cr_ HO1019 hb
       replace HO1031 := cr_ HO1031 hb
       replace HO1035 := Aside0.mk (Kd.S_below (qg0_) hb)
       replace HO1042 := cr_ HO1042 hb
       replace HO1046 := Aside0.mk (Kd.S_below (qg1_) hb)
       replace HO1051 := Aside0.mk (Kd.S_below (qg5_) hb)
       replace HO1058 := cr_ HO1058 hb
       replace HO1067 := cr_ HO1067 hb
       replace BK1024 := cb_ BK1024 hb
       replace BK1032 := cb_ BK1032 hb
       replace BK1043 := cb_ BK1043 hb
       replace BK1060 := cb_ BK1060 hb
       replace HB := ch_ HB hb
       (try clear hb)
       obtain ⟨Ao69, co69, eo69⟩ := Kd.S_slice HO1046.out
       (first | subst eo69 | (injection eo69 with f1_ f2_ f3_; have f4_ := f1_.symm; have f5_ := f3_.symm; clear f1_ f2_ f3_; subst f4_; subst f5_))
       refine hK.out _ _ ⟨bc_ BK1032 0, bc_ BK1032 1, bc_ BK1032 2, bc_ BK1032 3, bc_ BK1032 4, bc_ BK1024 0, bc_ BK1024 1, bc_ BK1024 2, bc_ BK1024 3, bc_ BK1024 4, bc_ BK1043 0, bc_ BK1043 1, bc_ BK1043 2, bc_ BK1043 3, bc_ BK1043 4⟩ (fun hHeld => ?_)
       clear hK K
       refine nm_ ?_
       refine pI_ 8 62 HT_ laws_FnMakers.m9 rfl rfl ?_
       refine pI_ 9 63 HT_ laws_FnMakers.m10 rfl rfl ?_
       refine pI_ 10 64 HT_ laws_FnMakers.m11 rfl rfl ?_
       refine pI_ 11 65 HT_ laws_FnMakers.m12 rfl rfl ?_
       refine pI_ 12 66 HT_ laws_FnMakers.m13 rfl rfl ?_
       refine tk_ 13 67 HT_ HW_ laws_FnMakers.m14 rfl rfl hHeld ?_
       refine on_ 14 68 HT_ laws_FnMakers.m15 rfl rfl (fun K hK => ?_)
       refine goes_ Try.func25 (by kernel_rfl) rfl #[.slice Ao27 t1033.length co27, .agg #[.int .i64 t1036, .int .i64 t1037, .int .i64 t1038, .int .i64 t1039, .slice Ao26 t1040.length co26]] (by rfl) rfl rfl sm_ ?_
       with_reducible refine (spec_MakerSet.calls kj2 _ _ t1033 t1036 t1037 t1038 t1039 _ _ t1040 t1069 _ ?side1 ?side2 ?side3 ?side4 A40.out).mono ?_
       (case side1 => repeat (first | exact (Kd.S_reads' HO1035.out).2.2 | (with_reducible refine Kd.C_alloc ?_ _) | (with_reducible refine Kd.C_drewN ?_ _) | (with_reducible refine Kd.C_drew ?_)))
       (case side2 => exact (Kd.S_reads' HO1035.out).2.1)
       (case side3 => repeat (first | exact (Kd.R_reads' HO1042.out).2.2 | (with_reducible refine Kd.C_alloc ?_ _) | (with_reducible refine Kd.C_drewN ?_ _) | (with_reducible refine Kd.C_drew ?_)))
       (case side4 => exact (Kd.R_reads' HO1042.out).2.1)
       rintro e w70 ⟨v1070, rfl, ho0, hb⟩
       refine ⟨_, rfl, ?_⟩
       have HO1071 := Aside0.mk (Kd.S_lower (Kd.S_newB (Kd.S_newB (Kd.S_newB (Kd.S_newB (Kd.S_new' (Kd.S_new' (Kd.S_new' (Kd.S_new' (Kd.S_new' (Kd.S_new' (Kd.S_new' (Kd.S_new' ho0 (Kd.R_lt (rq_ HO1019.out))) (Kd.R_lt (rq_ HO1031.out))) (Kd.S_lt (qg0_))) (Kd.R_lt (rq_ HO1042.out))) (Kd.S_lt (qg1_))) (Kd.S_lt (qg5_))) (Kd.R_lt (rq_ HO1058.out))) (Kd.R_lt (rq_ HO1067.out))) (g := gb1024) (o := .cells #[.int .i64 t1013, .int .i64 t1014, .int .i64 t1015, .int .i64 t1016, .slice Ao15 t1017.length co15] 38 (0, 0)) (bq_ BK1024.out)) (g := gb1032) (o := .cells #[.int .i64 t1025, .int .i64 t1026, .int .i64 t1027, .int .i64 t1028, .slice Ao20 t1029.length co20] 38 (0, 0)) (bq_ BK1032.out)) (g := gb1043) (o := .cells #[.int .i64 t1036, .int .i64 t1037, .int .i64 t1038, .int .i64 t1039, .slice Ao26 t1040.length co26] 38 (0, 0)) (bq_ BK1043.out)) (g := gb1060) (o := .cells #[.int .i64 t1052, .int .i64 t1053, .int .i64 t1054, .int .i64 t1055, .slice Ao36 t1056.length co36] 38 (0, 0)) (bq_ BK1060.out)) (below_size (hb_ HB.out)))
       replace HO1019 := cr_ HO1019 hb
       replace HO1031 := cr_ HO1031 hb
       replace HO1035 := Aside0.mk (Kd.S_elder' (qg0_) (Kd.S_base ho0) hb)
       replace HO1042 := cr_ HO1042 hb
       replace HO1046 := Aside0.mk (Kd.S_elder' (qg1_) (Kd.S_base ho0) hb)
       replace HO1051 := Aside0.mk (Kd.S_elder' (qg5_) (Kd.S_base ho0) hb)
       replace HO1058 := cr_ HO1058 hb
       replace HO1067 := cr_ HO1067 hb
       replace BK1024 := cb_ BK1024 hb
       replace BK1032 := cb_ BK1032 hb
       replace BK1043 := cb_ BK1043 hb
       replace BK1060 := cb_ BK1060 hb
       replace HB := ch_ HB hb
       (try clear hb); (try clear ho0)
       obtain ⟨Ao71, co71, eo71⟩ := Kd.S_slice HO1071.out
       (first | subst eo71 | (injection eo71 with f1_ f2_ f3_; have f4_ := f1_.symm; have f5_ := f3_.symm; clear f1_ f2_ f3_; subst f4_; subst f5_))
       obtain ⟨Ao72, co72, eo72⟩ := Kd.S_slice HO1051.out
       (first | subst eo72 | (injection eo72 with f1_ f2_ f3_; have f4_ := f1_.symm; have f5_ := f3_.symm; clear f1_ f2_ f3_; subst f4_; subst f5_))
       refine hK.out _ _ ⟨bc_ BK1032 0, bc_ BK1032 1, bc_ BK1032 2, bc_ BK1032 3, bc_ BK1032 4, bc_ BK1024 0, bc_ BK1024 1, bc_ BK1024 2, bc_ BK1024 3, bc_ BK1024 4, bc_ BK1043 0, bc_ BK1043 1, bc_ BK1043 2, bc_ BK1043 3, bc_ BK1043 4⟩ (fun hHeld => ?_)
       clear hK K
       refine nm_ ?_
       refine pI_ 15 69 HT_ laws_FnMakers.m16 rfl rfl ?_
       refine pI_ 16 70 HT_ laws_FnMakers.m17 rfl rfl ?_
       refine pI_ 17 71 HT_ laws_FnMakers.m18 rfl rfl ?_
       refine pI_ 18 72 HT_ laws_FnMakers.m19 rfl rfl ?_
       refine pI_ 19 73 HT_ laws_FnMakers.m20 rfl rfl ?_
       refine pI_ 20 74 HT_ laws_FnMakers.m21 rfl rfl ?_
       refine pI_ 21 75 HT_ laws_FnMakers.m22 rfl rfl ?_
       refine pI_ 23 77 HT_ laws_FnMakers.m23 rfl rfl ?_
       refine pI_ 24 78 HT_ laws_FnMakers.m24 rfl rfl ?_
       refine pI_ 25 79 HT_ laws_FnMakers.m25 rfl rfl ?_
       refine on_ 22 76 HT_ laws_FnMakers.m26 rfl rfl (fun K hK => ?_)
       refine goes_ Try.func18 (by kernel_rfl) rfl #[.slice Ao72 t1047.length co72, .int .i64 t1048, .int .i64 t1049] (by rfl) rfl rfl sm_ ?_
       with_reducible refine (impl_MakerOf.calls kj2 _ _ t1047 t1048 t1049 t1072 t1073 t1074 t1075 t1076 _ ?side1 ?side2 A42.out).mono ?_
       (case side1 => repeat (first | exact (Kd.S_reads' HO1051.out).2.2 | (with_reducible refine Kd.C_alloc ?_ _) | (with_reducible refine Kd.C_drewN ?_ _) | (with_reducible refine Kd.C_drew ?_)))
       (case side2 => exact (Kd.S_reads' HO1051.out).2.1)
       rintro e w73 ⟨v1077, rfl, ho0, hb⟩
       refine ⟨_, rfl, ?_⟩
       have HO1078 := Aside0.mk (Kd.R_lower (Kd.R_new' (Kd.R_new' (Kd.R_new' (Kd.R_new' (Kd.R_new' ho0 (Kd.R_lt (rq_ HO1019.out))) (Kd.R_lt (rq_ HO1031.out))) (Kd.R_lt (rq_ HO1042.out))) (Kd.R_lt (rq_ HO1058.out))) (Kd.R_lt (rq_ HO1067.out))) (below_size (hb_ HB.out)))
       replace HO1019 := Aside0.mk (Kd.R_elder' (rq_ HO1019.out) (Kd.R_base ho0) hb)
       replace HO1031 := Aside0.mk (Kd.R_elder' (rq_ HO1031.out) (Kd.R_base ho0) hb)
       replace HO1035 := Aside0.mk (Kd.S_elder' (qg0_) (Kd.R_base ho0) hb)
       replace HO1042 := Aside0.mk (Kd.R_elder' (rq_ HO1042.out) (Kd.R_base ho0) hb)
       replace HO1046 := Aside0.mk (Kd.S_elder' (qg1_) (Kd.R_base ho0) hb)
       replace HO1051 := Aside0.mk (Kd.S_elder' (qg5_) (Kd.R_base ho0) hb)
       replace HO1058 := Aside0.mk (Kd.R_elder' (rq_ HO1058.out) (Kd.R_base ho0) hb)
       replace HO1067 := Aside0.mk (Kd.R_elder' (rq_ HO1067.out) (Kd.R_base ho0) hb)
       replace HO1071 := Aside0.mk (Kd.S_elder' (qg11_) (Kd.R_base ho0) hb)
       replace BK1024 := cb_ BK1024 hb
       replace BK1032 := cb_ BK1032 hb
       replace BK1043 := cb_ BK1043 hb
       replace BK1060 := cb_ BK1060 hb
       replace HB := ch_ HB hb
       (try clear hb); (try clear ho0)
       refine hK.out _ _ ⟨bc_ BK1032 0, bc_ BK1032 1, bc_ BK1032 2, bc_ BK1032 3, bc_ BK1032 4, bc_ BK1024 0, bc_ BK1024 1, bc_ BK1024 2, bc_ BK1024 3, bc_ BK1024 4, bc_ BK1043 0, bc_ BK1043 1, bc_ BK1043 2, bc_ BK1043 3, bc_ BK1043 4⟩ (fun hHeld => ?_)
       clear hK K
       refine nm_ ?_
       refine on_ 26 80 HT_ laws_FnMakers.m27 rfl rfl (fun K hK => ?_)
       refine goes_ Try.func16 (by kernel_rfl) rfl #[.slice Ao72 t1047.length co72, .int .i64 t1048, .int .i64 t1049] (by rfl) rfl rfl sm_ ?_
       with_reducible refine (spec_MakerOf.calls kj2 _ _ t1047 t1048 t1049 t1079 t1080 t1081 t1082 t1083 _ ?side1 ?side2 A43.out).mono ?_
       (case side1 => repeat (first | exact (Kd.S_reads' HO1051.out).2.2 | (with_reducible refine Kd.C_alloc ?_ _) | (with_reducible refine Kd.C_drewN ?_ _) | (with_reducible refine Kd.C_drew ?_)))
       (case side2 => exact (Kd.S_reads' HO1051.out).2.1)
       rintro e w74 ⟨v1084, rfl, ho0, hb⟩
       refine ⟨_, rfl, ?_⟩
       have HO1085 := Aside0.mk (Kd.R_lower (Kd.R_new' (Kd.R_new' (Kd.R_new' (Kd.R_new' (Kd.R_new' (Kd.R_new' ho0 (Kd.R_lt (rq_ HO1019.out))) (Kd.R_lt (rq_ HO1031.out))) (Kd.R_lt (rq_ HO1042.out))) (Kd.R_lt (rq_ HO1058.out))) (Kd.R_lt (rq_ HO1067.out))) (Kd.R_lt (rq_ HO1078.out))) (below_size (hb_ HB.out)))
       replace HO1019 := Aside0.mk (Kd.R_elder' (rq_ HO1019.out) (Kd.R_base ho0) hb)
       replace HO1031 := Aside0.mk (Kd.R_elder' (rq_ HO1031.out) (Kd.R_base ho0) hb)
       replace HO1035 := Aside0.mk (Kd.S_elder' (qg0_) (Kd.R_base ho0) hb)
       replace HO1042 := Aside0.mk (Kd.R_elder' (rq_ HO1042.out) (Kd.R_base ho0) hb)
       replace HO1046 := Aside0.mk (Kd.S_elder' (qg1_) (Kd.R_base ho0) hb)
       replace HO1051 := Aside0.mk (Kd.S_elder' (qg5_) (Kd.R_base ho0) hb)
       replace HO1058 := Aside0.mk (Kd.R_elder' (rq_ HO1058.out) (Kd.R_base ho0) hb)
       replace HO1067 := Aside0.mk (Kd.R_elder' (rq_ HO1067.out) (Kd.R_base ho0) hb)
       replace HO1071 := Aside0.mk (Kd.S_elder' (qg11_) (Kd.R_base ho0) hb)
       replace HO1078 := Aside0.mk (Kd.R_elder' (rq_ HO1078.out) (Kd.R_base ho0) hb)
       replace BK1024 := cb_ BK1024 hb
       replace BK1032 := cb_ BK1032 hb
       replace BK1043 := cb_ BK1043 hb
       replace BK1060 := cb_ BK1060 hb
       replace HB := ch_ HB hb
       (try clear hb); (try clear ho0)
       obtain ⟨Ao75, co75, eo75⟩ := Kd.R_slice HO1078.out
       (first | subst eo75 | (injection eo75 with f1_ f2_ f3_; have f4_ := f1_.symm; have f5_ := f3_.symm; clear f1_ f2_ f3_; subst f4_; subst f5_))
       obtain ⟨Ao76, co76, eo76⟩ := Kd.R_slice HO1085.out
       (first | subst eo76 | (injection eo76 with f1_ f2_ f3_; have f4_ := f1_.symm; have f5_ := f3_.symm; clear f1_ f2_ f3_; subst f4_; subst f5_))
       refine hK.out _ _ ⟨bc_ BK1032 0, bc_ BK1032 1, bc_ BK1032 2, bc_ BK1032 3, bc_ BK1032 4, bc_ BK1024 0, bc_ BK1024 1, bc_ BK1024 2, bc_ BK1024 3, bc_ BK1024 4, bc_ BK1043 0, bc_ BK1043 1, bc_ BK1043 2, bc_ BK1043 3, bc_ BK1043 4⟩ (fun hHeld => ?_)
       clear hK K
       refine nm_ ?_
       refine on_ 27 81 HT_ laws_FnMakers.m28 rfl rfl (fun K hK => ?_)
       refine goes_ Try.func39 (by kernel_rfl) rfl #[.agg #[.int .i64 t1072, .int .i64 t1073, .int .i64 t1074, .int .i64 t1075, .slice Ao75 t1076.length co75], .agg #[.int .i64 t1079, .int .i64 t1080, .int .i64 t1081, .int .i64 t1082, .slice Ao76 t1083.length co76]] (by rfl) rfl rfl sm_ ?_
       with_reducible refine (laws_sameMaker.calls kj2 t1072 t1073 t1074 t1075 _ _ t1076 t1079 t1080 t1081 t1082 _ _ t1083 false _ ?side1 ?side2 ?side3 ?side4 A44.out).mono ?_
       (case side1 => repeat (first | exact (Kd.R_reads' HO1078.out).2.2 | (with_reducible refine Kd.C_alloc ?_ _) | (with_reducible refine Kd.C_drewN ?_ _) | (with_reducible refine Kd.C_drew ?_)))
       (case side2 => exact (Kd.R_reads' HO1078.out).2.1)
       (case side3 => repeat (first | exact (Kd.R_reads' HO1085.out).2.2 | (with_reducible refine Kd.C_alloc ?_ _) | (with_reducible refine Kd.C_drewN ?_ _) | (with_reducible refine Kd.C_drew ?_)))
       (case side4 => exact (Kd.R_reads' HO1085.out).2.1)
       rintro e w77 ⟨rfl, hb⟩
       refine ⟨_, rfl, ?_⟩
       replace HO1019 := cr_ HO1019 hb
       replace HO1031 := cr_ HO1031 hb
       replace HO1035 := Aside0.mk (Kd.S_below (qg0_) hb)
       replace HO1042 := cr_ HO1042 hb
       replace HO1046 := Aside0.mk (Kd.S_below (qg1_) hb)
       replace HO1051 := Aside0.mk (Kd.S_below (qg5_) hb)
       replace HO1058 := cr_ HO1058 hb
       replace HO1067 := cr_ HO1067 hb
       replace HO1071 := Aside0.mk (Kd.S_below (qg11_) hb)
       replace HO1078 := cr_ HO1078 hb
       replace HO1085 := cr_ HO1085 hb
       replace BK1024 := cb_ BK1024 hb
       replace BK1032 := cb_ BK1032 hb
       replace BK1043 := cb_ BK1043 hb
       replace BK1060 := cb_ BK1060 hb
       replace HB := ch_ HB hb
       (try clear hb)
       refine hK.out _ _ ⟨bc_ BK1032 0, bc_ BK1032 1, bc_ BK1032 2, bc_ BK1032 3, bc_ BK1032 4, bc_ BK1024 0, bc_ BK1024 1, bc_ BK1024 2, bc_ BK1024 3, bc_ BK1024 4, bc_ BK1043 0, bc_ BK1043 1, bc_ BK1043 2, bc_ BK1043 3, bc_ BK1043 4⟩ (fun hHeld => ?_)
       clear hK K
       refine nm_ ?_
       refine pI_ 28 82 HT_ laws_FnMakers.m29 rfl rfl ?_
       refine pI_ 29 83 HT_ laws_FnMakers.m30 rfl rfl ?_
       refine pI_ 30 84 HT_ laws_FnMakers.m31 rfl rfl ?_
       refine pU_ 31 85 HT_ laws_FnMakers.m36 rfl rfl ?_
       refine pU_ 32 86 HT_ laws_FnMakers.m37 rfl rfl ?_
       refine pU_ 33 87 HT_ laws_FnMakers.m38 rfl rfl ?_
       refine pU_ 34 88 HT_ laws_FnMakers.m39 rfl rfl ?_
       refine pU_ 35 89 HT_ laws_FnMakers.m32 rfl rfl ?_
       refine pU_ 36 90 HT_ laws_FnMakers.m33 rfl rfl ?_
       refine pU_ 37 91 HT_ laws_FnMakers.m34 rfl rfl ?_
       refine pI_ 38 92 HT_ laws_FnMakers.m35 rfl rfl ?_
       refine done_ (done_of HT_.out (by kernel_rfl)) ?_
       try go_wp2
       go_meet
       case rel => exact ⟨_, (true), (qg15_), H', ⟨qg14_⟩, ⟨qg12_⟩, ⟨rm_ HO1019.out⟩, ⟨rm_ HO1031.out⟩, ⟨rm_ HO1042.out⟩, ⟨rm_ HO1058.out⟩, ⟨bq_ BK1024.out⟩, ⟨bq_ BK1032.out⟩, ⟨bq_ BK1043.out⟩, ⟨bq_ BK1060.out⟩, ⟨hb_ HB.out⟩⟩
     ·
      rw [if_neg c41] at H
      have c41b0 : ((t1044.length : Int) == (t1069.length : Int)) = false := beq_eq_false_iff_ne.mpr c41
      have c41b1 : ((t1044.length : Int) != (t1069.length : Int)) = true := bne_iff_ne.mpr c41
      have c41b2 : (t1044.length == t1069.length) = false := by first | simpa using c41 | (simp at c41 ⊢; omega)
      (first | rw [c41b0] | (simp only [i64_w, i32_w]; rw [c41b0]) | rw [c41b4] | rw [c41b3] | skip)
      have H' := Aside0.mk H
      clear H
      try go_wp2
      obtain ⟨w78, qe_⟩ : ∃ x_, x_ = (((((w31.setCell ⟨gb1060, 0, none⟩ (.int .i64 t1052)).setCell ⟨gb1060, 1, none⟩ (.int .i64 t1053)).setCell ⟨gb1060, 2, none⟩ (.int .i64 t1054)).setCell ⟨gb1060, 3, none⟩ (.int .i64 t1055)).setCell ⟨gb1060, 4, none⟩ (.slice Ao36 t1056.length co36)) := ⟨_, rfl⟩
      rw [← qe_]
      replace HO1019 : Aside0 (Kd.R k_Mark 110 w78 w.heap.size (fun k_ => some k_ ≠ (.slice Ao20 t1029.length co20 : Value).ownBlock ∧ some k_ ≠ (.slice Ao26 t1040.length co26 : Value).ownBlock ∧ some k_ ≠ (.slice Ao36 t1056.length co36 : Value).ownBlock) (.slice Ao15 t1017.length co15) t1017) := ⟨qg9_⟩
      replace HO1031 : Aside0 (Kd.R k_Mark 110 w78 w.heap.size (fun k_ => some k_ ≠ (.slice Ao15 t1017.length co15 : Value).ownBlock ∧ some k_ ≠ (.slice Ao26 t1040.length co26 : Value).ownBlock ∧ some k_ ≠ (.slice Ao36 t1056.length co36 : Value).ownBlock) (.slice Ao20 t1029.length co20) t1029) := ⟨qg8_⟩
      replace HO1035 : Aside0 (Kd.S k_Maker 38 w78 w.heap.size (fun k_ => some k_ ≠ (.slice Ao15 t1017.length co15 : Value).ownBlock ∧ some k_ ≠ (.slice Ao20 t1029.length co20 : Value).ownBlock ∧ some k_ ≠ (.slice Ao26 t1040.length co26 : Value).ownBlock ∧ some k_ ≠ (v1045 : Value).ownBlock ∧ some k_ ≠ (v1050 : Value).ownBlock ∧ some k_ ≠ (.slice Ao36 t1056.length co36 : Value).ownBlock ∧ k_ ≠ gb1024 ∧ k_ ≠ gb1032 ∧ k_ ≠ gb1043 ∧ k_ ≠ gb1060) (.slice Ao27 t1033.length co27) t1033) := ⟨qg4_⟩
      replace HO1042 : Aside0 (Kd.R k_Mark 110 w78 w.heap.size (fun k_ => some k_ ≠ (.slice Ao15 t1017.length co15 : Value).ownBlock ∧ some k_ ≠ (.slice Ao20 t1029.length co20 : Value).ownBlock ∧ some k_ ≠ (.slice Ao36 t1056.length co36 : Value).ownBlock) (.slice Ao26 t1040.length co26) t1040) := ⟨qg7_⟩
      replace HO1046 : Aside0 (Kd.S k_Maker 38 w78 w.heap.size (fun k_ => some k_ ≠ (.slice Ao15 t1017.length co15 : Value).ownBlock ∧ some k_ ≠ (.slice Ao20 t1029.length co20 : Value).ownBlock ∧ some k_ ≠ (.slice Ao27 t1033.length co27 : Value).ownBlock ∧ some k_ ≠ (.slice Ao26 t1040.length co26 : Value).ownBlock ∧ some k_ ≠ (v1050 : Value).ownBlock ∧ some k_ ≠ (.slice Ao36 t1056.length co36 : Value).ownBlock ∧ k_ ≠ gb1024 ∧ k_ ≠ gb1032 ∧ k_ ≠ gb1043 ∧ k_ ≠ gb1060) v1045 t1044) := ⟨qg3_⟩
      replace HO1051 : Aside0 (Kd.S k_Maker 38 w78 w.heap.size (fun k_ => some k_ ≠ (.slice Ao15 t1017.length co15 : Value).ownBlock ∧ some k_ ≠ (.slice Ao20 t1029.length co20 : Value).ownBlock ∧ some k_ ≠ (.slice Ao27 t1033.length co27 : Value).ownBlock ∧ some k_ ≠ (.slice Ao26 t1040.length co26 : Value).ownBlock ∧ some k_ ≠ (v1045 : Value).ownBlock ∧ some k_ ≠ (.slice Ao36 t1056.length co36 : Value).ownBlock ∧ k_ ≠ gb1024 ∧ k_ ≠ gb1032 ∧ k_ ≠ gb1043 ∧ k_ ≠ gb1060) v1050 t1047) := ⟨qg2_⟩
      replace HO1058 : Aside0 (Kd.R k_Mark 110 w78 w.heap.size (fun k_ => some k_ ≠ (.slice Ao15 t1017.length co15 : Value).ownBlock ∧ some k_ ≠ (.slice Ao20 t1029.length co20 : Value).ownBlock ∧ some k_ ≠ (.slice Ao26 t1040.length co26 : Value).ownBlock) (.slice Ao36 t1056.length co36) t1056) := ⟨qg6_⟩
      replace BK1024 := fl_ qe_ BK1024
      replace BK1032 := fl_ qe_ BK1032
      replace BK1043 := fl_ qe_ BK1043
      replace BK1060 : Aside0 (w78.heap[gb1060]? = some (.cells #[.int .i64 t1052, .int .i64 t1053, .int .i64 t1054, .int .i64 t1055, .slice Ao36 t1056.length co36] 38 (0, 0))) := ⟨by rw [qe_]; exact bp_ BK1060.out⟩
      replace HB : Aside0 (Below w.heap.size w w78) := ⟨by rw [qe_]; exact hb_ HB.out⟩
      clear qe_
      replace HO1019 := Aside0.mk (Kd.R_drew HO1019.out)
      replace HO1031 := Aside0.mk (Kd.R_drew HO1031.out)
      replace HO1035 := Aside0.mk (Kd.S_drew HO1035.out)
      replace HO1042 := Aside0.mk (Kd.R_drew HO1042.out)
      replace HO1046 := Aside0.mk (Kd.S_drew HO1046.out)
      replace HO1051 := Aside0.mk (Kd.S_drew HO1051.out)
      replace HO1058 := Aside0.mk (Kd.R_drew HO1058.out)
      replace BK1024 := Aside0.mk (blk_drew BK1024.out)
      replace BK1032 := Aside0.mk (blk_drew BK1032.out)
      replace BK1043 := Aside0.mk (blk_drew BK1043.out)
      replace BK1060 := Aside0.mk (blk_drew BK1060.out)
      replace HB := Aside0.mk (below_drew1 HB.out)
      refine start_ (n := 39) (S := fun w' => w'.cell? ⟨gb1032, 0, none⟩ = some (.int .i64 t1025) ∧ w'.cell? ⟨gb1032, 1, none⟩ = some (.int .i64 t1026) ∧ w'.cell? ⟨gb1032, 2, none⟩ = some (.int .i64 t1027) ∧ w'.cell? ⟨gb1032, 3, none⟩ = some (.int .i64 t1028) ∧ w'.cell? ⟨gb1032, 4, none⟩ = some (.slice Ao20 t1029.length co20) ∧ w'.cell? ⟨gb1024, 0, none⟩ = some (.int .i64 t1013) ∧ w'.cell? ⟨gb1024, 1, none⟩ = some (.int .i64 t1014) ∧ w'.cell? ⟨gb1024, 2, none⟩ = some (.int .i64 t1015) ∧ w'.cell? ⟨gb1024, 3, none⟩ = some (.int .i64 t1016) ∧ w'.cell? ⟨gb1024, 4, none⟩ = some (.slice Ao15 t1017.length co15) ∧ w'.cell? ⟨gb1043, 0, none⟩ = some (.int .i64 t1036) ∧ w'.cell? ⟨gb1043, 1, none⟩ = some (.int .i64 t1037) ∧ w'.cell? ⟨gb1043, 2, none⟩ = some (.int .i64 t1038) ∧ w'.cell? ⟨gb1043, 3, none⟩ = some (.int .i64 t1039) ∧ w'.cell? ⟨gb1043, 4, none⟩ = some (.slice Ao26 t1040.length co26)) (ds := []) laws_FnMakers.m0 (by kernel_rfl) rfl rfl ⟨bc_ BK1032 0, bc_ BK1032 1, bc_ BK1032 2, bc_ BK1032 3, bc_ BK1032 4, bc_ BK1024 0, bc_ BK1024 1, bc_ BK1024 2, bc_ BK1024 3, bc_ BK1024 4, bc_ BK1043 0, bc_ BK1043 1, bc_ BK1043 2, bc_ BK1043 3, bc_ BK1043 4⟩ (fun hHeld => ?_); refine with_tabW laws_FnMakers.tab9 laws_FnMakers.bits9 (fun HT_ HW_ => ?_)
      generalize w78.drew = w79 at HO1019 HO1031 HO1035 HO1042 HO1046 HO1051 HO1058 BK1024 BK1032 BK1043 BK1060 HB hHeld ⊢
      refine pI_ 2 56 HT_ laws_FnMakers.m1 rfl rfl ?_
      refine pI_ 3 57 HT_ laws_FnMakers.m2 rfl rfl ?_
      refine pI_ 4 58 HT_ laws_FnMakers.m3 rfl rfl ?_
      refine pI_ 5 59 HT_ laws_FnMakers.m4 rfl rfl ?_
      refine tk_ 0 54 HT_ HW_ laws_FnMakers.m5 rfl rfl hHeld ?_
      refine tk_ 1 55 HT_ HW_ laws_FnMakers.m6 rfl rfl hHeld ?_
      refine on_ 6 60 HT_ laws_FnMakers.m7 rfl rfl (fun K hK => ?_)
      refine goes_ Try.func40 (by kernel_rfl) rfl #[.agg #[.int .i64 t1013, .int .i64 t1014, .int .i64 t1015, .int .i64 t1016, .slice Ao15 t1017.length co15], .int .i64 t1020, .int .i64 t1021, .int .i64 t1022, .int .i64 t1023] (by rfl) rfl rfl sm_ ?_
      with_reducible refine (spec_MakerPut.calls kj2 t1013 t1014 t1015 t1016 _ _ t1017 t1020 t1021 t1022 t1023 t1061 t1062 t1063 t1064 t1065 _ ?side1 ?side2 A37.out).mono ?_
      (case side1 => repeat (first | exact (Kd.R_reads' HO1019.out).2.2 | (with_reducible refine Kd.C_alloc ?_ _) | (with_reducible refine Kd.C_drewN ?_ _) | (with_reducible refine Kd.C_drew ?_)))
      (case side2 => exact (Kd.R_reads' HO1019.out).2.1)
      rintro e w80 ⟨v1066, rfl, ho0, hb⟩
      refine ⟨_, rfl, ?_⟩
      have HO1067 := Aside0.mk (Kd.R_lower (Kd.R_new' (Kd.R_new' (Kd.R_new' (Kd.R_new' ho0 (Kd.R_lt (rq_ HO1019.out))) (Kd.R_lt (rq_ HO1031.out))) (Kd.R_lt (rq_ HO1042.out))) (Kd.R_lt (rq_ HO1058.out))) (below_size (hb_ HB.out)))
      replace HO1019 := Aside0.mk (Kd.R_elder' (rq_ HO1019.out) (Kd.R_base ho0) hb)
      replace HO1031 := Aside0.mk (Kd.R_elder' (rq_ HO1031.out) (Kd.R_base ho0) hb)
      replace HO1035 := Aside0.mk (Kd.S_elder' (qg0_) (Kd.R_base ho0) hb)
      replace HO1042 := Aside0.mk (Kd.R_elder' (rq_ HO1042.out) (Kd.R_base ho0) hb)
      replace HO1046 := Aside0.mk (Kd.S_elder' (qg1_) (Kd.R_base ho0) hb)
      replace HO1051 := Aside0.mk (Kd.S_elder' (qg5_) (Kd.R_base ho0) hb)
      replace HO1058 := Aside0.mk (Kd.R_elder' (rq_ HO1058.out) (Kd.R_base ho0) hb)
      replace BK1024 := cb_ BK1024 hb
      replace BK1032 := cb_ BK1032 hb
      replace BK1043 := cb_ BK1043 hb
      replace BK1060 := cb_ BK1060 hb
      replace HB := ch_ HB hb
      (try clear hb); (try clear hb2); (try clear hk); (try clear hi); (try clear ho0)
      obtain ⟨Ao81, co81, eo81⟩ := Kd.R_slice HO1067.out
      (first | subst eo81 | (injection eo81 with f1_ f2_ f3_; have f4_ := f1_.symm; have f5_ := f3_.symm; clear f1_ f2_ f3_; subst f4_; subst f5_))
      refine hK.out _ _ ⟨bc_ BK1032 0, bc_ BK1032 1, bc_ BK1032 2, bc_ BK1032 3, bc_ BK1032 4, bc_ BK1024 0, bc_ BK1024 1, bc_ BK1024 2, bc_ BK1024 3, bc_ BK1024 4, bc_ BK1043 0, bc_ BK1043 1, bc_ BK1043 2, bc_ BK1043 3, bc_ BK1043 4⟩ (fun hHeld => ?_)
      clear hK K
      refine nm_ ?_
      refine on_ 7 61 HT_ laws_FnMakers.m8 rfl rfl (fun K hK => ?_)
      refine goes_ Try.func39 (by kernel_rfl) rfl #[.agg #[.int .i64 t1025, .int .i64 t1026, .int .i64 t1027, .int .i64 t1028, .slice Ao20 t1029.length co20], .agg #[.int .i64 t1061, .int .i64 t1062, .int .i64 t1063, .int .i64 t1064, .slice Ao81 t1065.length co81]] (by rfl) rfl rfl sm_ ?_
      with_reducible refine (laws_sameMaker.calls kj2 t1025 t1026 t1027 t1028 _ _ t1029 t1061 t1062 t1063 t1064 _ _ t1065 true _ ?side1 ?side2 ?side3 ?side4 A38.out).mono ?_
      (case side1 => repeat (first | exact (Kd.R_reads' HO1031.out).2.2 | (with_reducible refine Kd.C_alloc ?_ _) | (with_reducible refine Kd.C_drewN ?_ _) | (with_reducible refine Kd.C_drew ?_)))
      (case side2 => exact (Kd.R_reads' HO1031.out).2.1)
      (case side3 => repeat (first | exact (Kd.R_reads' HO1067.out).2.2 | (with_reducible refine Kd.C_alloc ?_ _) | (with_reducible refine Kd.C_drewN ?_ _) | (with_reducible refine Kd.C_drew ?_)))
      (case side4 => exact (Kd.R_reads' HO1067.out).2.1)
      rintro e w82 ⟨rfl, hb⟩
      refine ⟨_, rfl, ?_⟩
      replace HO1019 := cr_ HO1019 hb
      replace HO1031 := cr_ HO1031 hb
      replace HO1035 := Aside0.mk (Kd.S_below (qg0_) hb)
      replace HO1042 := cr_ HO1042 hb
      replace HO1046 := Aside0.mk (Kd.S_below (qg1_) hb)
      replace HO1051 := Aside0.mk (Kd.S_below (qg5_) hb)
      replace HO1058 := cr_ HO1058 hb
      replace HO1067 := cr_ HO1067 hb
      replace BK1024 := cb_ BK1024 hb
      replace BK1032 := cb_ BK1032 hb
      replace BK1043 := cb_ BK1043 hb
      replace BK1060 := cb_ BK1060 hb
      replace HB := ch_ HB hb
      (try clear hb)
      obtain ⟨Ao83, co83, eo83⟩ := Kd.S_slice HO1046.out
      (first | subst eo83 | (injection eo83 with f1_ f2_ f3_; have f4_ := f1_.symm; have f5_ := f3_.symm; clear f1_ f2_ f3_; subst f4_; subst f5_))
      refine hK.out _ _ ⟨bc_ BK1032 0, bc_ BK1032 1, bc_ BK1032 2, bc_ BK1032 3, bc_ BK1032 4, bc_ BK1024 0, bc_ BK1024 1, bc_ BK1024 2, bc_ BK1024 3, bc_ BK1024 4, bc_ BK1043 0, bc_ BK1043 1, bc_ BK1043 2, bc_ BK1043 3, bc_ BK1043 4⟩ (fun hHeld => ?_)
      clear hK K
      refine nm_ ?_
      refine pI_ 8 62 HT_ laws_FnMakers.m9 rfl rfl ?_
      refine pI_ 9 63 HT_ laws_FnMakers.m10 rfl rfl ?_
      refine pI_ 10 64 HT_ laws_FnMakers.m11 rfl rfl ?_
      refine pI_ 11 65 HT_ laws_FnMakers.m12 rfl rfl ?_
      refine pI_ 12 66 HT_ laws_FnMakers.m13 rfl rfl ?_
      refine tk_ 13 67 HT_ HW_ laws_FnMakers.m14 rfl rfl hHeld ?_
      refine on_ 14 68 HT_ laws_FnMakers.m15 rfl rfl (fun K hK => ?_)
      refine goes_ Try.func25 (by kernel_rfl) rfl #[.slice Ao27 t1033.length co27, .agg #[.int .i64 t1036, .int .i64 t1037, .int .i64 t1038, .int .i64 t1039, .slice Ao26 t1040.length co26]] (by rfl) rfl rfl sm_ ?_
      with_reducible refine (spec_MakerSet.calls kj2 _ _ t1033 t1036 t1037 t1038 t1039 _ _ t1040 t1069 _ ?side1 ?side2 ?side3 ?side4 A40.out).mono ?_
      (case side1 => repeat (first | exact (Kd.S_reads' HO1035.out).2.2 | (with_reducible refine Kd.C_alloc ?_ _) | (with_reducible refine Kd.C_drewN ?_ _) | (with_reducible refine Kd.C_drew ?_)))
      (case side2 => exact (Kd.S_reads' HO1035.out).2.1)
      (case side3 => repeat (first | exact (Kd.R_reads' HO1042.out).2.2 | (with_reducible refine Kd.C_alloc ?_ _) | (with_reducible refine Kd.C_drewN ?_ _) | (with_reducible refine Kd.C_drew ?_)))
      (case side4 => exact (Kd.R_reads' HO1042.out).2.1)
      rintro e w84 ⟨v1070, rfl, ho0, hb⟩
      refine ⟨_, rfl, ?_⟩
      have HO1071 := Aside0.mk (Kd.S_lower (Kd.S_newB (Kd.S_newB (Kd.S_newB (Kd.S_newB (Kd.S_new' (Kd.S_new' (Kd.S_new' (Kd.S_new' (Kd.S_new' (Kd.S_new' (Kd.S_new' (Kd.S_new' ho0 (Kd.R_lt (rq_ HO1019.out))) (Kd.R_lt (rq_ HO1031.out))) (Kd.S_lt (qg0_))) (Kd.R_lt (rq_ HO1042.out))) (Kd.S_lt (qg1_))) (Kd.S_lt (qg5_))) (Kd.R_lt (rq_ HO1058.out))) (Kd.R_lt (rq_ HO1067.out))) (g := gb1024) (o := .cells #[.int .i64 t1013, .int .i64 t1014, .int .i64 t1015, .int .i64 t1016, .slice Ao15 t1017.length co15] 38 (0, 0)) (bq_ BK1024.out)) (g := gb1032) (o := .cells #[.int .i64 t1025, .int .i64 t1026, .int .i64 t1027, .int .i64 t1028, .slice Ao20 t1029.length co20] 38 (0, 0)) (bq_ BK1032.out)) (g := gb1043) (o := .cells #[.int .i64 t1036, .int .i64 t1037, .int .i64 t1038, .int .i64 t1039, .slice Ao26 t1040.length co26] 38 (0, 0)) (bq_ BK1043.out)) (g := gb1060) (o := .cells #[.int .i64 t1052, .int .i64 t1053, .int .i64 t1054, .int .i64 t1055, .slice Ao36 t1056.length co36] 38 (0, 0)) (bq_ BK1060.out)) (below_size (hb_ HB.out)))
      replace HO1019 := cr_ HO1019 hb
      replace HO1031 := cr_ HO1031 hb
      replace HO1035 := Aside0.mk (Kd.S_elder' (qg0_) (Kd.S_base ho0) hb)
      replace HO1042 := cr_ HO1042 hb
      replace HO1046 := Aside0.mk (Kd.S_elder' (qg1_) (Kd.S_base ho0) hb)
      replace HO1051 := Aside0.mk (Kd.S_elder' (qg5_) (Kd.S_base ho0) hb)
      replace HO1058 := cr_ HO1058 hb
      replace HO1067 := cr_ HO1067 hb
      replace BK1024 := cb_ BK1024 hb
      replace BK1032 := cb_ BK1032 hb
      replace BK1043 := cb_ BK1043 hb
      replace BK1060 := cb_ BK1060 hb
      replace HB := ch_ HB hb
      (try clear hb); (try clear ho0)
      obtain ⟨Ao85, co85, eo85⟩ := Kd.S_slice HO1071.out
      (first | subst eo85 | (injection eo85 with f1_ f2_ f3_; have f4_ := f1_.symm; have f5_ := f3_.symm; clear f1_ f2_ f3_; subst f4_; subst f5_))
      refine hK.out _ _ ⟨bc_ BK1032 0, bc_ BK1032 1, bc_ BK1032 2, bc_ BK1032 3, bc_ BK1032 4, bc_ BK1024 0, bc_ BK1024 1, bc_ BK1024 2, bc_ BK1024 3, bc_ BK1024 4, bc_ BK1043 0, bc_ BK1043 1, bc_ BK1043 2, bc_ BK1043 3, bc_ BK1043 4⟩ (fun hHeld => ?_)
      clear hK K
      refine nm_ ?_
      refine pI_ 15 69 HT_ laws_FnMakers.m16 rfl rfl ?_
      refine pI_ 16 70 HT_ laws_FnMakers.m17 rfl rfl ?_
      refine pI_ 17 71 HT_ laws_FnMakers.m18 rfl rfl ?_
      refine pI_ 18 72 HT_ laws_FnMakers.m19 rfl rfl ?_
      refine pU_ 19 73 HT_ laws_FnMakers.m20 rfl rfl ?_
      refine pU_ 20 74 HT_ laws_FnMakers.m21 rfl rfl ?_
      refine pU_ 21 75 HT_ laws_FnMakers.m22 rfl rfl ?_
      refine pU_ 22 76 HT_ laws_FnMakers.m40 rfl rfl ?_
      refine pU_ 23 77 HT_ laws_FnMakers.m41 rfl rfl ?_
      refine pU_ 24 78 HT_ laws_FnMakers.m42 rfl rfl ?_
      refine pU_ 25 79 HT_ laws_FnMakers.m26 rfl rfl ?_
      refine pU_ 26 80 HT_ laws_FnMakers.m27 rfl rfl ?_
      refine pU_ 27 81 HT_ laws_FnMakers.m28 rfl rfl ?_
      refine pU_ 28 82 HT_ laws_FnMakers.m29 rfl rfl ?_
      refine pI_ 29 83 HT_ laws_FnMakers.m30 rfl rfl ?_
      refine pI_ 30 84 HT_ laws_FnMakers.m31 rfl rfl ?_
      refine pU_ 31 85 HT_ laws_FnMakers.m36 rfl rfl ?_
      refine pU_ 32 86 HT_ laws_FnMakers.m37 rfl rfl ?_
      refine pU_ 33 87 HT_ laws_FnMakers.m38 rfl rfl ?_
      refine pU_ 34 88 HT_ laws_FnMakers.m39 rfl rfl ?_
      refine pU_ 35 89 HT_ laws_FnMakers.m32 rfl rfl ?_
      refine pU_ 36 90 HT_ laws_FnMakers.m33 rfl rfl ?_
      refine pU_ 37 91 HT_ laws_FnMakers.m34 rfl rfl ?_
      refine pI_ 38 92 HT_ laws_FnMakers.m35 rfl rfl ?_
      refine done_ (done_of HT_.out (by kernel_rfl)) ?_
      try go_wp2
      go_meet
      case rel => exact ⟨_, (true), (qg15_), H', ⟨qg14_⟩, ⟨by (with_reducible repeat (first | apply Kd.S_alloc | apply Kd.S_drewN | apply Kd.S_drew)); exact Kd.S_mono HO1046.out (fun _ hk => ⟨hk.1.1.1, ⟨hk.1.1.2.1, ⟨hk.1.1.2.2.2.1, ⟨hk.1.1.2.2.2.2.2.1, ⟨hk.1.1.2.2.2.2.2.2.1, ⟨hk.1.1.2.2.2.2.2.2.2.1, ⟨hk.1.1.2.2.2.2.2.2.2.2.1, hk.1.1.2.2.2.2.2.2.2.2.2⟩⟩⟩⟩⟩⟩⟩)⟩, ⟨rm_ HO1019.out⟩, ⟨rm_ HO1031.out⟩, ⟨rm_ HO1042.out⟩, ⟨rm_ HO1058.out⟩, ⟨bq_ BK1024.out⟩, ⟨bq_ BK1032.out⟩, ⟨bq_ BK1043.out⟩, ⟨bq_ BK1060.out⟩, ⟨hb_ HB.out⟩⟩
    ·
     replace c39 := Bool.eq_false_iff.mpr c39
     subst c39
     have H1 : (laws_FnMakers.j1 kj2 t1020 t1021 t1022 t1044 true t1013 t1014 t1015 t1016 t1017 t1025 t1026 t1027 t1028 t1029 t1036 t1037 t1038 t1039 t1040) = some r := by rw [if_neg (show ¬ (false = true) by decide)] at H; exact H
     clear H
     have H := H1
     clear H1
     have H' := Aside0.mk H
     clear H
     try go_wp2
     obtain ⟨w86, qe_⟩ : ∃ x_, x_ = (((((w31.setCell ⟨gb1060, 0, none⟩ (.int .i64 t1052)).setCell ⟨gb1060, 1, none⟩ (.int .i64 t1053)).setCell ⟨gb1060, 2, none⟩ (.int .i64 t1054)).setCell ⟨gb1060, 3, none⟩ (.int .i64 t1055)).setCell ⟨gb1060, 4, none⟩ (.slice Ao36 t1056.length co36)) := ⟨_, rfl⟩
     rw [← qe_]
     replace HO1019 : Aside0 (Kd.R k_Mark 110 w86 w.heap.size (fun k_ => some k_ ≠ (.slice Ao20 t1029.length co20 : Value).ownBlock ∧ some k_ ≠ (.slice Ao26 t1040.length co26 : Value).ownBlock ∧ some k_ ≠ (.slice Ao36 t1056.length co36 : Value).ownBlock) (.slice Ao15 t1017.length co15) t1017) := ⟨qg9_⟩
     replace HO1031 : Aside0 (Kd.R k_Mark 110 w86 w.heap.size (fun k_ => some k_ ≠ (.slice Ao15 t1017.length co15 : Value).ownBlock ∧ some k_ ≠ (.slice Ao26 t1040.length co26 : Value).ownBlock ∧ some k_ ≠ (.slice Ao36 t1056.length co36 : Value).ownBlock) (.slice Ao20 t1029.length co20) t1029) := ⟨qg8_⟩
     replace HO1035 : Aside0 (Kd.S k_Maker 38 w86 w.heap.size (fun k_ => some k_ ≠ (.slice Ao15 t1017.length co15 : Value).ownBlock ∧ some k_ ≠ (.slice Ao20 t1029.length co20 : Value).ownBlock ∧ some k_ ≠ (.slice Ao26 t1040.length co26 : Value).ownBlock ∧ some k_ ≠ (v1045 : Value).ownBlock ∧ some k_ ≠ (v1050 : Value).ownBlock ∧ some k_ ≠ (.slice Ao36 t1056.length co36 : Value).ownBlock ∧ k_ ≠ gb1024 ∧ k_ ≠ gb1032 ∧ k_ ≠ gb1043 ∧ k_ ≠ gb1060) (.slice Ao27 t1033.length co27) t1033) := ⟨qg4_⟩
     replace HO1042 : Aside0 (Kd.R k_Mark 110 w86 w.heap.size (fun k_ => some k_ ≠ (.slice Ao15 t1017.length co15 : Value).ownBlock ∧ some k_ ≠ (.slice Ao20 t1029.length co20 : Value).ownBlock ∧ some k_ ≠ (.slice Ao36 t1056.length co36 : Value).ownBlock) (.slice Ao26 t1040.length co26) t1040) := ⟨qg7_⟩
     replace HO1046 : Aside0 (Kd.S k_Maker 38 w86 w.heap.size (fun k_ => some k_ ≠ (.slice Ao15 t1017.length co15 : Value).ownBlock ∧ some k_ ≠ (.slice Ao20 t1029.length co20 : Value).ownBlock ∧ some k_ ≠ (.slice Ao27 t1033.length co27 : Value).ownBlock ∧ some k_ ≠ (.slice Ao26 t1040.length co26 : Value).ownBlock ∧ some k_ ≠ (v1050 : Value).ownBlock ∧ some k_ ≠ (.slice Ao36 t1056.length co36 : Value).ownBlock ∧ k_ ≠ gb1024 ∧ k_ ≠ gb1032 ∧ k_ ≠ gb1043 ∧ k_ ≠ gb1060) v1045 t1044) := ⟨qg3_⟩
     replace HO1051 : Aside0 (Kd.S k_Maker 38 w86 w.heap.size (fun k_ => some k_ ≠ (.slice Ao15 t1017.length co15 : Value).ownBlock ∧ some k_ ≠ (.slice Ao20 t1029.length co20 : Value).ownBlock ∧ some k_ ≠ (.slice Ao27 t1033.length co27 : Value).ownBlock ∧ some k_ ≠ (.slice Ao26 t1040.length co26 : Value).ownBlock ∧ some k_ ≠ (v1045 : Value).ownBlock ∧ some k_ ≠ (.slice Ao36 t1056.length co36 : Value).ownBlock ∧ k_ ≠ gb1024 ∧ k_ ≠ gb1032 ∧ k_ ≠ gb1043 ∧ k_ ≠ gb1060) v1050 t1047) := ⟨qg2_⟩
     replace HO1058 : Aside0 (Kd.R k_Mark 110 w86 w.heap.size (fun k_ => some k_ ≠ (.slice Ao15 t1017.length co15 : Value).ownBlock ∧ some k_ ≠ (.slice Ao20 t1029.length co20 : Value).ownBlock ∧ some k_ ≠ (.slice Ao26 t1040.length co26 : Value).ownBlock) (.slice Ao36 t1056.length co36) t1056) := ⟨qg6_⟩
     replace BK1024 := fl_ qe_ BK1024
     replace BK1032 := fl_ qe_ BK1032
     replace BK1043 := fl_ qe_ BK1043
     replace BK1060 : Aside0 (w86.heap[gb1060]? = some (.cells #[.int .i64 t1052, .int .i64 t1053, .int .i64 t1054, .int .i64 t1055, .slice Ao36 t1056.length co36] 38 (0, 0))) := ⟨by rw [qe_]; exact bp_ BK1060.out⟩
     replace HB : Aside0 (Below w.heap.size w w86) := ⟨by rw [qe_]; exact hb_ HB.out⟩
     clear qe_
     replace HO1019 := Aside0.mk (Kd.R_drew HO1019.out)
     replace HO1031 := Aside0.mk (Kd.R_drew HO1031.out)
     replace HO1035 := Aside0.mk (Kd.S_drew HO1035.out)
     replace HO1042 := Aside0.mk (Kd.R_drew HO1042.out)
     replace HO1046 := Aside0.mk (Kd.S_drew HO1046.out)
     replace HO1051 := Aside0.mk (Kd.S_drew HO1051.out)
     replace HO1058 := Aside0.mk (Kd.R_drew HO1058.out)
     replace BK1024 := Aside0.mk (blk_drew BK1024.out)
     replace BK1032 := Aside0.mk (blk_drew BK1032.out)
     replace BK1043 := Aside0.mk (blk_drew BK1043.out)
     replace BK1060 := Aside0.mk (blk_drew BK1060.out)
     replace HB := Aside0.mk (below_drew1 HB.out)
     refine start_ (n := 39) (S := fun w' => w'.cell? ⟨gb1032, 0, none⟩ = some (.int .i64 t1025) ∧ w'.cell? ⟨gb1032, 1, none⟩ = some (.int .i64 t1026) ∧ w'.cell? ⟨gb1032, 2, none⟩ = some (.int .i64 t1027) ∧ w'.cell? ⟨gb1032, 3, none⟩ = some (.int .i64 t1028) ∧ w'.cell? ⟨gb1032, 4, none⟩ = some (.slice Ao20 t1029.length co20) ∧ w'.cell? ⟨gb1024, 0, none⟩ = some (.int .i64 t1013) ∧ w'.cell? ⟨gb1024, 1, none⟩ = some (.int .i64 t1014) ∧ w'.cell? ⟨gb1024, 2, none⟩ = some (.int .i64 t1015) ∧ w'.cell? ⟨gb1024, 3, none⟩ = some (.int .i64 t1016) ∧ w'.cell? ⟨gb1024, 4, none⟩ = some (.slice Ao15 t1017.length co15)) (ds := []) laws_FnMakers.m0 (by kernel_rfl) rfl rfl ⟨bc_ BK1032 0, bc_ BK1032 1, bc_ BK1032 2, bc_ BK1032 3, bc_ BK1032 4, bc_ BK1024 0, bc_ BK1024 1, bc_ BK1024 2, bc_ BK1024 3, bc_ BK1024 4⟩ (fun hHeld => ?_); refine with_tabW laws_FnMakers.tab9 laws_FnMakers.bits9 (fun HT_ HW_ => ?_)
     generalize w86.drew = w87 at HO1019 HO1031 HO1035 HO1042 HO1046 HO1051 HO1058 BK1024 BK1032 BK1043 BK1060 HB hHeld ⊢
     refine pI_ 2 56 HT_ laws_FnMakers.m1 rfl rfl ?_
     refine pI_ 3 57 HT_ laws_FnMakers.m2 rfl rfl ?_
     refine pI_ 4 58 HT_ laws_FnMakers.m3 rfl rfl ?_
     refine pI_ 5 59 HT_ laws_FnMakers.m4 rfl rfl ?_
     refine tk_ 0 54 HT_ HW_ laws_FnMakers.m5 rfl rfl hHeld ?_
     refine tk_ 1 55 HT_ HW_ laws_FnMakers.m6 rfl rfl hHeld ?_
     refine on_ 6 60 HT_ laws_FnMakers.m7 rfl rfl (fun K hK => ?_)
     refine goes_ Try.func40 (by kernel_rfl) rfl #[.agg #[.int .i64 t1013, .int .i64 t1014, .int .i64 t1015, .int .i64 t1016, .slice Ao15 t1017.length co15], .int .i64 t1020, .int .i64 t1021, .int .i64 t1022, .int .i64 t1023] (by rfl) rfl rfl sm_ ?_
     with_reducible refine (spec_MakerPut.calls kj2 t1013 t1014 t1015 t1016 _ _ t1017 t1020 t1021 t1022 t1023 t1061 t1062 t1063 t1064 t1065 _ ?side1 ?side2 A37.out).mono ?_
     (case side1 => repeat (first | exact (Kd.R_reads' HO1019.out).2.2 | (with_reducible refine Kd.C_alloc ?_ _) | (with_reducible refine Kd.C_drewN ?_ _) | (with_reducible refine Kd.C_drew ?_)))
     (case side2 => exact (Kd.R_reads' HO1019.out).2.1)
     rintro e w88 ⟨v1066, rfl, ho0, hb⟩
     refine ⟨_, rfl, ?_⟩
     have HO1067 := Aside0.mk (Kd.R_lower (Kd.R_new' (Kd.R_new' (Kd.R_new' (Kd.R_new' ho0 (Kd.R_lt (rq_ HO1019.out))) (Kd.R_lt (rq_ HO1031.out))) (Kd.R_lt (rq_ HO1042.out))) (Kd.R_lt (rq_ HO1058.out))) (below_size (hb_ HB.out)))
     replace HO1019 := Aside0.mk (Kd.R_elder' (rq_ HO1019.out) (Kd.R_base ho0) hb)
     replace HO1031 := Aside0.mk (Kd.R_elder' (rq_ HO1031.out) (Kd.R_base ho0) hb)
     replace HO1035 := Aside0.mk (Kd.S_elder' (qg0_) (Kd.R_base ho0) hb)
     replace HO1042 := Aside0.mk (Kd.R_elder' (rq_ HO1042.out) (Kd.R_base ho0) hb)
     replace HO1046 := Aside0.mk (Kd.S_elder' (qg1_) (Kd.R_base ho0) hb)
     replace HO1051 := Aside0.mk (Kd.S_elder' (qg5_) (Kd.R_base ho0) hb)
     replace HO1058 := Aside0.mk (Kd.R_elder' (rq_ HO1058.out) (Kd.R_base ho0) hb)
     replace BK1024 := cb_ BK1024 hb
     replace BK1032 := cb_ BK1032 hb
     replace BK1043 := cb_ BK1043 hb
     replace BK1060 := cb_ BK1060 hb
     replace HB := ch_ HB hb
     (try clear hb); (try clear hb2); (try clear hk); (try clear hi); (try clear ho0)
     obtain ⟨Ao89, co89, eo89⟩ := Kd.R_slice HO1067.out
     (first | subst eo89 | (injection eo89 with f1_ f2_ f3_; have f4_ := f1_.symm; have f5_ := f3_.symm; clear f1_ f2_ f3_; subst f4_; subst f5_))
     refine hK.out _ _ ⟨bc_ BK1032 0, bc_ BK1032 1, bc_ BK1032 2, bc_ BK1032 3, bc_ BK1032 4, bc_ BK1024 0, bc_ BK1024 1, bc_ BK1024 2, bc_ BK1024 3, bc_ BK1024 4⟩ (fun hHeld => ?_)
     clear hK K
     refine nm_ ?_
     refine on_ 7 61 HT_ laws_FnMakers.m8 rfl rfl (fun K hK => ?_)
     refine goes_ Try.func39 (by kernel_rfl) rfl #[.agg #[.int .i64 t1025, .int .i64 t1026, .int .i64 t1027, .int .i64 t1028, .slice Ao20 t1029.length co20], .agg #[.int .i64 t1061, .int .i64 t1062, .int .i64 t1063, .int .i64 t1064, .slice Ao89 t1065.length co89]] (by rfl) rfl rfl sm_ ?_
     with_reducible refine (laws_sameMaker.calls kj2 t1025 t1026 t1027 t1028 _ _ t1029 t1061 t1062 t1063 t1064 _ _ t1065 false _ ?side1 ?side2 ?side3 ?side4 A38.out).mono ?_
     (case side1 => repeat (first | exact (Kd.R_reads' HO1031.out).2.2 | (with_reducible refine Kd.C_alloc ?_ _) | (with_reducible refine Kd.C_drewN ?_ _) | (with_reducible refine Kd.C_drew ?_)))
     (case side2 => exact (Kd.R_reads' HO1031.out).2.1)
     (case side3 => repeat (first | exact (Kd.R_reads' HO1067.out).2.2 | (with_reducible refine Kd.C_alloc ?_ _) | (with_reducible refine Kd.C_drewN ?_ _) | (with_reducible refine Kd.C_drew ?_)))
     (case side4 => exact (Kd.R_reads' HO1067.out).2.1)
     rintro e w90 ⟨rfl, hb⟩
     refine ⟨_, rfl, ?_⟩
     replace HO1019 := cr_ HO1019 hb
     replace HO1031 := cr_ HO1031 hb
     replace HO1035 := Aside0.mk (Kd.S_below (qg0_) hb)
     replace HO1042 := cr_ HO1042 hb
     replace HO1046 := Aside0.mk (Kd.S_below (qg1_) hb)
     replace HO1051 := Aside0.mk (Kd.S_below (qg5_) hb)
     replace HO1058 := cr_ HO1058 hb
     replace HO1067 := cr_ HO1067 hb
     replace BK1024 := cb_ BK1024 hb
     replace BK1032 := cb_ BK1032 hb
     replace BK1043 := cb_ BK1043 hb
     replace BK1060 := cb_ BK1060 hb
     replace HB := ch_ HB hb
     (try clear hb)
     refine hK.out _ _ ⟨bc_ BK1032 0, bc_ BK1032 1, bc_ BK1032 2, bc_ BK1032 3, bc_ BK1032 4, bc_ BK1024 0, bc_ BK1024 1, bc_ BK1024 2, bc_ BK1024 3, bc_ BK1024 4⟩ (fun hHeld => ?_)
     clear hK K
     refine nm_ ?_
     refine pI_ 8 62 HT_ laws_FnMakers.m9 rfl rfl ?_
     refine pI_ 9 63 HT_ laws_FnMakers.m10 rfl rfl ?_
     refine pU_ 10 64 HT_ laws_FnMakers.m11 rfl rfl ?_
     refine pU_ 11 65 HT_ laws_FnMakers.m12 rfl rfl ?_
     refine pU_ 12 66 HT_ laws_FnMakers.m13 rfl rfl ?_
     refine pU_ 13 67 HT_ laws_FnMakers.m14 rfl rfl ?_
     refine pU_ 14 68 HT_ laws_FnMakers.m15 rfl rfl ?_
     refine pU_ 15 69 HT_ laws_FnMakers.m16 rfl rfl ?_
     refine pU_ 16 70 HT_ laws_FnMakers.m17 rfl rfl ?_
     refine pI_ 17 71 HT_ laws_FnMakers.m18 rfl rfl ?_
     refine pI_ 18 72 HT_ laws_FnMakers.m19 rfl rfl ?_
     refine pU_ 19 73 HT_ laws_FnMakers.m20 rfl rfl ?_
     refine pU_ 20 74 HT_ laws_FnMakers.m21 rfl rfl ?_
     refine pU_ 21 75 HT_ laws_FnMakers.m22 rfl rfl ?_
     refine pU_ 22 76 HT_ laws_FnMakers.m40 rfl rfl ?_
     refine pU_ 23 77 HT_ laws_FnMakers.m41 rfl rfl ?_
     refine pU_ 24 78 HT_ laws_FnMakers.m42 rfl rfl ?_
     refine pU_ 25 79 HT_ laws_FnMakers.m26 rfl rfl ?_
     refine pU_ 26 80 HT_ laws_FnMakers.m27 rfl rfl ?_
     refine pU_ 27 81 HT_ laws_FnMakers.m28 rfl rfl ?_
     refine pU_ 28 82 HT_ laws_FnMakers.m29 rfl rfl ?_
     refine pI_ 29 83 HT_ laws_FnMakers.m30 rfl rfl ?_
     refine pI_ 30 84 HT_ laws_FnMakers.m31 rfl rfl ?_
     refine pU_ 31 85 HT_ laws_FnMakers.m36 rfl rfl ?_
     refine pU_ 32 86 HT_ laws_FnMakers.m37 rfl rfl ?_
     refine pU_ 33 87 HT_ laws_FnMakers.m38 rfl rfl ?_
     refine pU_ 34 88 HT_ laws_FnMakers.m39 rfl rfl ?_
     refine pU_ 35 89 HT_ laws_FnMakers.m32 rfl rfl ?_
     refine pU_ 36 90 HT_ laws_FnMakers.m33 rfl rfl ?_
     refine pU_ 37 91 HT_ laws_FnMakers.m34 rfl rfl ?_
     refine pI_ 38 92 HT_ laws_FnMakers.m35 rfl rfl ?_
     refine done_ (done_of HT_.out (by kernel_rfl)) ?_
     try go_wp2
     go_meet
     case rel => exact ⟨_, (true), (qg15_), H', ⟨qg14_⟩, ⟨by (with_reducible repeat (first | apply Kd.S_alloc | apply Kd.S_drewN | apply Kd.S_drew)); exact Kd.S_mono HO1046.out (fun _ hk => ⟨hk.1.1, ⟨hk.1.2.1, ⟨hk.1.2.2.2.1, ⟨hk.1.2.2.2.2.2.1, ⟨hk.1.2.2.2.2.2.2.1, ⟨hk.1.2.2.2.2.2.2.2.1, ⟨hk.1.2.2.2.2.2.2.2.2.1, hk.1.2.2.2.2.2.2.2.2.2⟩⟩⟩⟩⟩⟩⟩)⟩, ⟨rm_ HO1019.out⟩, ⟨rm_ HO1031.out⟩, ⟨rm_ HO1042.out⟩, ⟨rm_ HO1058.out⟩, ⟨bq_ BK1024.out⟩, ⟨bq_ BK1032.out⟩, ⟨bq_ BK1043.out⟩, ⟨bq_ BK1060.out⟩, ⟨hb_ HB.out⟩⟩
   case rest =>
    clear HC11
    obtain ⟨kq, x92_10, rfl, HA, HJ10, HO_11, HO_1025004, HO_1033004, HO_1044004, HO_1061004, BK1024, BK1032, BK1043, BK1060, HB⟩ := hcut
    cases kq with
    | zero => exact absurd HA.out (by simp [laws_FnMakers.j1])
    | succ kj10 =>
     have H := HA.out
     clear HA
     simp only [laws_FnMakers.j1] at H
     have HC91 := Aside0.mk H
     clear H
     go_upto_if 92 with (fail)
     go_cut [] (fun wc => ∃ (kq : Nat), Aside0 (laws_FnMakers.j2 kq t1020 t1021 t1022 t1044 t1013 t1014 t1015 t1016 t1017 t1025 t1026 t1027 t1028 t1029 t1036 t1037 t1038 t1039 t1040 = some r) ∧ Aside0 (kq ≤ kj10) ∧ Aside0 (Kd.S k_Maker 38 wc w.heap.size (fun k_ => some k_ ≠ ((.slice Ao15 t1017.length co15) : Value).ownBlock ∧ some k_ ≠ ((.slice Ao20 t1029.length co20) : Value).ownBlock ∧ some k_ ≠ ((.slice Ao26 t1040.length co26) : Value).ownBlock ∧ some k_ ≠ ((.slice Ao36 t1056.length co36) : Value).ownBlock ∧ k_ ≠ gb1024 ∧ k_ ≠ gb1032 ∧ k_ ≠ gb1043 ∧ k_ ≠ gb1060) v1045 t1044) ∧ Aside0 (Kd.R k_Mark 110 wc w.heap.size (fun k_ => some k_ ≠ ((.slice Ao20 t1029.length co20) : Value).ownBlock ∧ some k_ ≠ ((.slice Ao26 t1040.length co26) : Value).ownBlock ∧ some k_ ≠ ((.slice Ao36 t1056.length co36) : Value).ownBlock) (.slice Ao15 t1017.length co15) t1017) ∧ Aside0 (Kd.R k_Mark 110 wc w.heap.size (fun k_ => some k_ ≠ ((.slice Ao15 t1017.length co15) : Value).ownBlock ∧ some k_ ≠ ((.slice Ao26 t1040.length co26) : Value).ownBlock ∧ some k_ ≠ ((.slice Ao36 t1056.length co36) : Value).ownBlock) (.slice Ao20 t1029.length co20) t1029) ∧ Aside0 (Kd.R k_Mark 110 wc w.heap.size (fun k_ => some k_ ≠ ((.slice Ao15 t1017.length co15) : Value).ownBlock ∧ some k_ ≠ ((.slice Ao20 t1029.length co20) : Value).ownBlock ∧ some k_ ≠ ((.slice Ao36 t1056.length co36) : Value).ownBlock) (.slice Ao26 t1040.length co26) t1040) ∧ Aside0 (Kd.R k_Mark 110 wc w.heap.size (fun k_ => some k_ ≠ ((.slice Ao15 t1017.length co15) : Value).ownBlock ∧ some k_ ≠ ((.slice Ao20 t1029.length co20) : Value).ownBlock ∧ some k_ ≠ ((.slice Ao26 t1040.length co26) : Value).ownBlock) (.slice Ao36 t1056.length co36) t1056) ∧ Aside0 (wc.heap[gb1024]? = some (.cells #[.int .i64 t1013, .int .i64 t1014, .int .i64 t1015, .int .i64 t1016, (.slice Ao15 t1017.length co15)] 38 (0, 0))) ∧ Aside0 (wc.heap[gb1032]? = some (.cells #[.int .i64 t1025, .int .i64 t1026, .int .i64 t1027, .int .i64 t1028, (.slice Ao20 t1029.length co20)] 38 (0, 0))) ∧ Aside0 (wc.heap[gb1043]? = some (.cells #[.int .i64 t1036, .int .i64 t1037, .int .i64 t1038, .int .i64 t1039, (.slice Ao26 t1040.length co26)] 38 (0, 0))) ∧ Aside0 (wc.heap[gb1060]? = some (.cells #[.int .i64 t1052, .int .i64 t1053, .int .i64 t1054, .int .i64 t1055, (.slice Ao36 t1056.length co36)] 38 (0, 0))) ∧ Aside0 (Below w.heap.size w wc))
     case first =>
      have H := HC91.out
      clear HC91
      by_cases c92 : x92_10 = true
      ·
       subst c92
       have H1 : (some false) = some r := by rw [if_pos rfl] at H; exact H
       clear H
       have H := H1
       clear H1
       obtain rfl := Option.some.inj H
       go_wp2
       go_ret
       exact ⟨er_, hb_ HB.out⟩
      ·
       replace c92 := Bool.eq_false_iff.mpr c92
       subst c92
       have H1 : (laws_FnMakers.j2 kj10 t1020 t1021 t1022 t1044 t1013 t1014 t1015 t1016 t1017 t1025 t1026 t1027 t1028 t1029 t1036 t1037 t1038 t1039 t1040) = some r := by rw [if_neg (show ¬ (false = true) by decide)] at H; exact H
       clear H
       have H := H1
       clear H1
       have H' := Aside0.mk H
       clear H
       go_wp2
       go_meet
       case rel => exact ⟨_, H', ⟨by have := HJ2.out; have := HJ10.out; first | omega | exact Nat.le_refl _⟩, ⟨qg13_⟩, ⟨rq_ HO_1025004.out⟩, ⟨rq_ HO_1033004.out⟩, ⟨rq_ HO_1044004.out⟩, ⟨rq_ HO_1061004.out⟩, ⟨bq_ BK1024.out⟩, ⟨bq_ BK1032.out⟩, ⟨bq_ BK1043.out⟩, ⟨bq_ BK1060.out⟩, ⟨hb_ HB.out⟩⟩
     case rest =>
      clear HC91
      obtain ⟨kq, HA, HJ90, HO_11, HO_1025004, HO_1033004, HO_1044004, HO_1061004, BK1024, BK1032, BK1043, BK1060, HB⟩ := hcut
      cases kq with
      | zero => exact absurd HA.out (by simp [laws_FnMakers.j2])
      | succ kj90 =>
       have H := HA.out
       clear HA
       simp only [laws_FnMakers.j2] at H
       replace H := Option.bind_eq_some_iff.mp H
       obtain ⟨⟨t1089, t1090, t1091, t1092, t1093⟩, A930, H⟩ := H
       replace H : ((laws_sameMaker.f kj90 t1089 t1090 t1091 t1092 t1093 t1036 t1037 t1038 t1039 t1040).bind fun t1096 => (if t1096 = true then (laws_FnMakers.j3 kj90 t1020 t1021 t1022 t1013 t1014 t1015 t1016 t1017 t1025 t1026 t1027 t1028 t1029) else (some false))) = some r := H
       have A93 := Aside0.mk A930
       clear A930
       replace H := Option.bind_eq_some_iff.mp H
       obtain ⟨t1096, A940, H⟩ := H
       replace H : (if t1096 = true then (laws_FnMakers.j3 kj90 t1020 t1021 t1022 t1013 t1014 t1015 t1016 t1017 t1025 t1026 t1027 t1028 t1029) else (some false)) = some r := H
       have A94 := Aside0.mk A940
       clear A940
       have HC95 := Aside0.mk H
       clear H
       try go_wp2
       replace HO_11 := Aside0.mk (Kd.S_drew HO_11.out)
       replace HO_1025004 := Aside0.mk (Kd.R_drew HO_1025004.out)
       replace HO_1033004 := Aside0.mk (Kd.R_drew HO_1033004.out)
       replace HO_1044004 := Aside0.mk (Kd.R_drew HO_1044004.out)
       replace HO_1061004 := Aside0.mk (Kd.R_drew HO_1061004.out)
       replace BK1024 := Aside0.mk (blk_drew BK1024.out)
       replace BK1032 := Aside0.mk (blk_drew BK1032.out)
       replace BK1043 := Aside0.mk (blk_drew BK1043.out)
       replace BK1060 := Aside0.mk (blk_drew BK1060.out)
       replace HB := Aside0.mk (below_drew1 HB.out)
       obtain ⟨Ao97, co97, eo97⟩ := Kd.S_slice HO_11.out
       (first | subst eo97 | (injection eo97 with f1_ f2_ f3_; have f4_ := f1_.symm; have f5_ := f3_.symm; clear f1_ f2_ f3_; subst f4_; subst f5_))
       refine start_ (n := 9) (S := fun w' => w'.cell? ⟨gb1043, 0, none⟩ = some (.int .i64 t1036) ∧ w'.cell? ⟨gb1043, 1, none⟩ = some (.int .i64 t1037) ∧ w'.cell? ⟨gb1043, 2, none⟩ = some (.int .i64 t1038) ∧ w'.cell? ⟨gb1043, 3, none⟩ = some (.int .i64 t1039) ∧ w'.cell? ⟨gb1043, 4, none⟩ = some (.slice Ao26 t1040.length co26)) (ds := []) #[false, false, false, false, false, false, false, false, false] (by kernel_rfl) rfl rfl ⟨bc_ BK1043 0, bc_ BK1043 1, bc_ BK1043 2, bc_ BK1043 3, bc_ BK1043 4⟩ (fun hHeld => ?_); refine with_tabW laws_FnMakers.tab11 laws_FnMakers.bits11 (fun HT_ HW_ => ?_)
       generalize wc.drew = w96 at HO_11 HO_1025004 HO_1033004 HO_1044004 HO_1061004 BK1024 BK1032 BK1043 BK1060 HB hHeld ⊢
       refine pI_ 0 93 HT_ #[true, false, false, false, false, false, false, false, false] rfl rfl ?_
       refine pI_ 1 94 HT_ #[true, true, false, false, false, false, false, false, false] rfl rfl ?_
       refine pI_ 3 96 HT_ #[true, true, false, true, false, false, false, false, false] rfl rfl ?_
       refine tk_ 2 95 HT_ HW_ #[true, true, true, true, false, false, false, false, false] rfl rfl hHeld ?_
       refine tk_ 4 97 HT_ HW_ #[true, true, true, true, true, false, false, false, false] rfl rfl hHeld ?_
       refine tk_ 6 99 HT_ HW_ #[true, true, true, true, true, false, true, false, false] rfl rfl hHeld ?_
       refine on_ 5 98 HT_ #[true, true, true, true, true, true, true, false, false] rfl rfl (fun K hK => ?_)
       refine goes_ Try.func18 (by kernel_rfl) rfl #[.slice Ao97 t1044.length co97, .int .i64 t1036, .int .i64 t1037] (by rfl) rfl rfl sm_ ?_
       with_reducible refine (impl_MakerOf.calls kj90 _ _ t1044 t1036 t1037 t1089 t1090 t1091 t1092 t1093 _ ?side1 ?side2 A93.out).mono ?_
       (case side1 => repeat (first | exact (Kd.S_reads' HO_11.out).2.2 | (with_reducible refine Kd.C_alloc ?_ _) | (with_reducible refine Kd.C_drewN ?_ _) | (with_reducible refine Kd.C_drew ?_)))
       (case side2 => exact (Kd.S_reads' HO_11.out).2.1)
       rintro e w98 ⟨v1094, rfl, ho0, hb⟩
       refine ⟨_, rfl, ?_⟩
       have HO1095 := Aside0.mk (Kd.R_lower (Kd.R_new' (Kd.R_new' (Kd.R_new' (Kd.R_new' ho0 (Kd.R_lt (rq_ HO_1025004.out))) (Kd.R_lt (rq_ HO_1033004.out))) (Kd.R_lt (rq_ HO_1044004.out))) (Kd.R_lt (rq_ HO_1061004.out))) (below_size (hb_ HB.out)))
       replace HO_11 := Aside0.mk (Kd.S_elder' (qg13_) (Kd.R_base ho0) hb)
       replace HO_1025004 := Aside0.mk (Kd.R_elder' (rq_ HO_1025004.out) (Kd.R_base ho0) hb)
       replace HO_1033004 := Aside0.mk (Kd.R_elder' (rq_ HO_1033004.out) (Kd.R_base ho0) hb)
       replace HO_1044004 := Aside0.mk (Kd.R_elder' (rq_ HO_1044004.out) (Kd.R_base ho0) hb)
       replace HO_1061004 := Aside0.mk (Kd.R_elder' (rq_ HO_1061004.out) (Kd.R_base ho0) hb)
       replace BK1024 := cb_ BK1024 hb
       replace BK1032 := cb_ BK1032 hb
       replace BK1043 := cb_ BK1043 hb
       replace BK1060 := cb_ BK1060 hb
       replace HB := ch_ HB hb
       (try clear hb); (try clear hb2); (try clear hk); (try clear hi); (try clear ho0)
       obtain ⟨Ao99, co99, eo99⟩ := Kd.R_slice HO1095.out
       (first | subst eo99 | (injection eo99 with f1_ f2_ f3_; have f4_ := f1_.symm; have f5_ := f3_.symm; clear f1_ f2_ f3_; subst f4_; subst f5_))
       refine hK.out _ _ ⟨bc_ BK1043 0, bc_ BK1043 1, bc_ BK1043 2, bc_ BK1043 3, bc_ BK1043 4⟩ (fun hHeld => ?_)
       clear hK K
       refine nm_ ?_
       refine on_ 7 100 HT_ #[true, true, true, true, true, true, true, true, false] rfl rfl (fun K hK => ?_)
       refine goes_ Try.func39 (by kernel_rfl) rfl #[.agg #[.int .i64 t1089, .int .i64 t1090, .int .i64 t1091, .int .i64 t1092, .slice Ao99 t1093.length co99], .agg #[.int .i64 t1036, .int .i64 t1037, .int .i64 t1038, .int .i64 t1039, .slice Ao26 t1040.length co26]] (by rfl) rfl rfl sm_ ?_
       with_reducible refine (laws_sameMaker.calls kj90 t1089 t1090 t1091 t1092 _ _ t1093 t1036 t1037 t1038 t1039 _ _ t1040 t1096 _ ?side1 ?side2 ?side3 ?side4 A94.out).mono ?_
       (case side1 => repeat (first | exact (Kd.R_reads' HO1095.out).2.2 | (with_reducible refine Kd.C_alloc ?_ _) | (with_reducible refine Kd.C_drewN ?_ _) | (with_reducible refine Kd.C_drew ?_)))
       (case side2 => exact (Kd.R_reads' HO1095.out).2.1)
       (case side3 => repeat (first | exact (Kd.R_reads' HO_1044004.out).2.2 | (with_reducible refine Kd.C_alloc ?_ _) | (with_reducible refine Kd.C_drewN ?_ _) | (with_reducible refine Kd.C_drew ?_)))
       (case side4 => exact (Kd.R_reads' HO_1044004.out).2.1)
       rintro e w100 ⟨rfl, hb⟩
       refine ⟨_, rfl, ?_⟩
       replace HO_11 := Aside0.mk (Kd.S_below (qg13_) hb)
       replace HO_1025004 := cr_ HO_1025004 hb
       replace HO_1033004 := cr_ HO_1033004 hb
       replace HO_1044004 := cr_ HO_1044004 hb
       replace HO_1061004 := cr_ HO_1061004 hb
       replace HO1095 := cr_ HO1095 hb
       replace BK1024 := cb_ BK1024 hb
       replace BK1032 := cb_ BK1032 hb
       replace BK1043 := cb_ BK1043 hb
       replace BK1060 := cb_ BK1060 hb
       replace HB := ch_ HB hb
       (try clear hb)
       refine hK.out _ _ ⟨bc_ BK1043 0, bc_ BK1043 1, bc_ BK1043 2, bc_ BK1043 3, bc_ BK1043 4⟩ (fun hHeld => ?_)
       clear hK K
       refine nm_ ?_
       refine pI_ 8 101 HT_ #[true, true, true, true, true, true, true, true, true] rfl rfl ?_
       refine done_ (done_of HT_.out (by kernel_rfl)) ?_
       go_upto_if 101 with (fail)
       go_cut [] (fun wc => ∃ (kq : Nat), Aside0 (laws_FnMakers.j3 kq t1020 t1021 t1022 t1013 t1014 t1015 t1016 t1017 t1025 t1026 t1027 t1028 t1029 = some r) ∧ Aside0 (kq ≤ kj90) ∧ Aside0 (Kd.R k_Mark 110 wc w.heap.size (fun k_ => some k_ ≠ ((.slice Ao20 t1029.length co20) : Value).ownBlock ∧ some k_ ≠ ((.slice Ao26 t1040.length co26) : Value).ownBlock ∧ some k_ ≠ ((.slice Ao36 t1056.length co36) : Value).ownBlock) (.slice Ao15 t1017.length co15) t1017) ∧ Aside0 (Kd.R k_Mark 110 wc w.heap.size (fun k_ => some k_ ≠ ((.slice Ao15 t1017.length co15) : Value).ownBlock ∧ some k_ ≠ ((.slice Ao26 t1040.length co26) : Value).ownBlock ∧ some k_ ≠ ((.slice Ao36 t1056.length co36) : Value).ownBlock) (.slice Ao20 t1029.length co20) t1029) ∧ Aside0 (Kd.R k_Mark 110 wc w.heap.size (fun k_ => some k_ ≠ ((.slice Ao15 t1017.length co15) : Value).ownBlock ∧ some k_ ≠ ((.slice Ao20 t1029.length co20) : Value).ownBlock ∧ some k_ ≠ ((.slice Ao36 t1056.length co36) : Value).ownBlock) (.slice Ao26 t1040.length co26) t1040) ∧ Aside0 (Kd.R k_Mark 110 wc w.heap.size (fun k_ => some k_ ≠ ((.slice Ao15 t1017.length co15) : Value).ownBlock ∧ some k_ ≠ ((.slice Ao20 t1029.length co20) : Value).ownBlock ∧ some k_ ≠ ((.slice Ao26 t1040.length co26) : Value).ownBlock) (.slice Ao36 t1056.length co36) t1056) ∧ Aside0 (wc.heap[gb1024]? = some (.cells #[.int .i64 t1013, .int .i64 t1014, .int .i64 t1015, .int .i64 t1016, (.slice Ao15 t1017.length co15)] 38 (0, 0))) ∧ Aside0 (wc.heap[gb1032]? = some (.cells #[.int .i64 t1025, .int .i64 t1026, .int .i64 t1027, .int .i64 t1028, (.slice Ao20 t1029.length co20)] 38 (0, 0))) ∧ Aside0 (wc.heap[gb1043]? = some (.cells #[.int .i64 t1036, .int .i64 t1037, .int .i64 t1038, .int .i64 t1039, (.slice Ao26 t1040.length co26)] 38 (0, 0))) ∧ Aside0 (wc.heap[gb1060]? = some (.cells #[.int .i64 t1052, .int .i64 t1053, .int .i64 t1054, .int .i64 t1055, (.slice Ao36 t1056.length co36)] 38 (0, 0))) ∧ Aside0 (Below w.heap.size w wc))
       case first =>
        have H := HC95.out
        clear HC95
        by_cases c101 : t1096 = true
        ·
         subst c101
         have H1 : (laws_FnMakers.j3 kj90 t1020 t1021 t1022 t1013 t1014 t1015 t1016 t1017 t1025 t1026 t1027 t1028 t1029) = some r := by rw [if_pos rfl] at H; exact H
         clear H
         have H := H1
         clear H1
         have H' := Aside0.mk H
         clear H
         go_wp2
         go_meet
         case rel => exact ⟨_, H', ⟨by have := HJ2.out; have := HJ10.out; have := HJ90.out; first | omega | exact Nat.le_refl _⟩, ⟨rm_ HO_1025004.out⟩, ⟨rm_ HO_1033004.out⟩, ⟨rm_ HO_1044004.out⟩, ⟨rm_ HO_1061004.out⟩, ⟨bq_ BK1024.out⟩, ⟨bq_ BK1032.out⟩, ⟨bq_ BK1043.out⟩, ⟨bq_ BK1060.out⟩, ⟨hb_ HB.out⟩⟩
        ·
         replace c101 := Bool.eq_false_iff.mpr c101
         subst c101
         have H1 : (some false) = some r := by rw [if_neg (show ¬ (false = true) by decide)] at H; exact H
         clear H
         have H := H1
         clear H1
         obtain rfl := Option.some.inj H
         go_wp2
         go_ret
         exact ⟨er_, hb_ HB.out⟩
       case rest =>
        clear HC95
        obtain ⟨kq, HA, HJ94, HO_1025004, HO_1033004, HO_1044004, HO_1061004, BK1024, BK1032, BK1043, BK1060, HB⟩ := hcut
        cases kq with
        | zero => exact absurd HA.out (by simp [laws_FnMakers.j3])
        | succ kj94 =>
         have H := HA.out
         clear HA
         simp only [laws_FnMakers.j3] at H
         replace H := Option.bind_eq_some_iff.mp H
         obtain ⟨⟨t1097, t1098⟩, A1020, H⟩ := H
         replace H : (if t1097 = 0 then (if t1020 > 0 then (if (t1029.length : Int) > t1020 then (some false) else (some true)) else (some true)) else ((laws_sameMaker.f kj94 t1025 t1026 t1027 t1028 t1029 t1013 t1014 t1015 t1016 t1017).bind fun t1099 => (some t1099))) = some r := H
         have A102 := Aside0.mk A1020
         clear A1020
         by_cases c103 : t1097 = 0
         ·
          rw [if_pos c103] at H
          have c103b0 : (t1097 == 0) = true := beq_iff_eq.mpr c103
          have c103b1 : (t1097 != 0) = false := bne_eq_false_iff_eq.mpr c103
          clear c103
          by_cases c104 : t1020 > 0
          ·
           rw [if_pos c104] at H
           have c104b0 : decide (0 < t1020) = true := decide_eq_true c104
           clear c104
           by_cases c105 : (t1029.length : Int) > t1020
           ·
            rw [if_pos c105] at H
            have c105b0 : decide (t1020 < (t1029.length : Int)) = true := decide_eq_true c105
            clear c105
            obtain rfl := Option.some.inj H
            have hnb106 := NB1024_1032.out
            have hnc106 := NB1032_1024.out
            have hnb107 := NB1024_1043.out
            have hnc107 := NB1043_1024.out
            have hnb108 := NB1024_1060.out
            have hnc108 := NB1060_1024.out
            have hcz109_0 : wc.cell? ⟨gb1024, 0, none⟩ = some (.int .i64 t1013) := bc_ BK1024 0
            have hcz109_1 : wc.cell? ⟨gb1024, 1, none⟩ = some (.int .i64 t1014) := bc_ BK1024 1
            have hcz109_2 : wc.cell? ⟨gb1024, 2, none⟩ = some (.int .i64 t1015) := bc_ BK1024 2
            have hcz109_3 : wc.cell? ⟨gb1024, 3, none⟩ = some (.int .i64 t1016) := bc_ BK1024 3
            have hcz109_4 : wc.cell? ⟨gb1024, 4, none⟩ = some (.slice Ao15 t1017.length co15) := bc_ BK1024 4
            have hfz109_0 := blk_frozen BK1024.out 0
            have hfz109_1 := blk_frozen BK1024.out 1
            have hfz109_2 := blk_frozen BK1024.out 2
            have hfz109_3 := blk_frozen BK1024.out 3
            have hfz109_4 := blk_frozen BK1024.out 4
            go_wp2_with (first | ((with_reducible refine gate_callee (f := 43) rfl ?_); refine goesL_ (some 106) rfl rfl Try.func43 (by kernel_rfl) rfl #[.agg #[.int .i64 t1013, .int .i64 t1014, .int .i64 t1015, .int .i64 t1016, .slice Ao15 t1017.length co15], .int .i64 t1021, .int .i64 t1022] rfl sm_ ?_; (with_reducible refine (impl_MakerAsk.calls kj94 t1013 t1014 t1015 t1016 _ _ t1017 t1021 t1022 t1097 t1098 _ ?side1 ?side2 A102.out).mono ?_); (case side1 => repeat (first | exact (Kd.R_reads' HO_1025004.out).2.2 | (with_reducible refine Kd.C_alloc ?_ _) | (with_reducible refine Kd.C_drewN ?_ _) | (with_reducible refine Kd.C_drew ?_))); (case side2 => exact (Kd.R_reads' HO_1025004.out).2.1); rintro e w110 ⟨rfl, hb⟩; refine ⟨_, rfl, ?_⟩; replace HO_1025004 := cr_ HO_1025004 hb; replace HO_1033004 := cr_ HO_1033004 hb; replace HO_1044004 := cr_ HO_1044004 hb; replace HO_1061004 := cr_ HO_1061004 hb; replace BK1024 := cb_ BK1024 hb; replace BK1032 := cb_ BK1032 hb; replace BK1043 := cb_ BK1043 hb; replace BK1060 := cb_ BK1060 hb; replace HB := ch_ HB hb; (try clear hb); (try clear hb2); (try clear hk); (try clear hi); have hnb111 := NB1032_1043.out; have hnc111 := NB1043_1032.out; have hnb112 := NB1032_1060.out; have hnc112 := NB1060_1032.out; have hcz113_0 : w110.cell? ⟨gb1032, 0, none⟩ = some (.int .i64 t1025) := bc_ BK1032 0; have hcz113_1 : w110.cell? ⟨gb1032, 1, none⟩ = some (.int .i64 t1026) := bc_ BK1032 1; have hcz113_2 : w110.cell? ⟨gb1032, 2, none⟩ = some (.int .i64 t1027) := bc_ BK1032 2; have hcz113_3 : w110.cell? ⟨gb1032, 3, none⟩ = some (.int .i64 t1028) := bc_ BK1032 3; have hcz113_4 : w110.cell? ⟨gb1032, 4, none⟩ = some (.slice Ao20 t1029.length co20) := bc_ BK1032 4; have hfz113_0 := blk_frozen BK1032.out 0; have hfz113_1 := blk_frozen BK1032.out 1; have hfz113_2 := blk_frozen BK1032.out 2; have hfz113_3 := blk_frozen BK1032.out 3; have hfz113_4 := blk_frozen BK1032.out 4))
            go_ret
            exact ⟨er_, hb_ HB.out⟩
           ·
            rw [if_neg c105] at H
            have c105b0 : decide (t1020 < (t1029.length : Int)) = false := decide_eq_false c105
            clear c105
            obtain rfl := Option.some.inj H
            have hnb114 := NB1024_1032.out
            have hnc114 := NB1032_1024.out
            have hnb115 := NB1024_1043.out
            have hnc115 := NB1043_1024.out
            have hnb116 := NB1024_1060.out
            have hnc116 := NB1060_1024.out
            have hcz117_0 : wc.cell? ⟨gb1024, 0, none⟩ = some (.int .i64 t1013) := bc_ BK1024 0
            have hcz117_1 : wc.cell? ⟨gb1024, 1, none⟩ = some (.int .i64 t1014) := bc_ BK1024 1
            have hcz117_2 : wc.cell? ⟨gb1024, 2, none⟩ = some (.int .i64 t1015) := bc_ BK1024 2
            have hcz117_3 : wc.cell? ⟨gb1024, 3, none⟩ = some (.int .i64 t1016) := bc_ BK1024 3
            have hcz117_4 : wc.cell? ⟨gb1024, 4, none⟩ = some (.slice Ao15 t1017.length co15) := bc_ BK1024 4
            have hfz117_0 := blk_frozen BK1024.out 0
            have hfz117_1 := blk_frozen BK1024.out 1
            have hfz117_2 := blk_frozen BK1024.out 2
            have hfz117_3 := blk_frozen BK1024.out 3
            have hfz117_4 := blk_frozen BK1024.out 4
            go_wp2_with (first | ((with_reducible refine gate_callee (f := 43) rfl ?_); refine goesL_ (some 106) rfl rfl Try.func43 (by kernel_rfl) rfl #[.agg #[.int .i64 t1013, .int .i64 t1014, .int .i64 t1015, .int .i64 t1016, .slice Ao15 t1017.length co15], .int .i64 t1021, .int .i64 t1022] rfl sm_ ?_; (with_reducible refine (impl_MakerAsk.calls kj94 t1013 t1014 t1015 t1016 _ _ t1017 t1021 t1022 t1097 t1098 _ ?side1 ?side2 A102.out).mono ?_); (case side1 => repeat (first | exact (Kd.R_reads' HO_1025004.out).2.2 | (with_reducible refine Kd.C_alloc ?_ _) | (with_reducible refine Kd.C_drewN ?_ _) | (with_reducible refine Kd.C_drew ?_))); (case side2 => exact (Kd.R_reads' HO_1025004.out).2.1); rintro e w118 ⟨rfl, hb⟩; refine ⟨_, rfl, ?_⟩; replace HO_1025004 := cr_ HO_1025004 hb; replace HO_1033004 := cr_ HO_1033004 hb; replace HO_1044004 := cr_ HO_1044004 hb; replace HO_1061004 := cr_ HO_1061004 hb; replace BK1024 := cb_ BK1024 hb; replace BK1032 := cb_ BK1032 hb; replace BK1043 := cb_ BK1043 hb; replace BK1060 := cb_ BK1060 hb; replace HB := ch_ HB hb; (try clear hb); (try clear hb2); (try clear hk); (try clear hi); have hnb119 := NB1032_1043.out; have hnc119 := NB1043_1032.out; have hnb120 := NB1032_1060.out; have hnc120 := NB1060_1032.out; have hcz121_0 : w118.cell? ⟨gb1032, 0, none⟩ = some (.int .i64 t1025) := bc_ BK1032 0; have hcz121_1 : w118.cell? ⟨gb1032, 1, none⟩ = some (.int .i64 t1026) := bc_ BK1032 1; have hcz121_2 : w118.cell? ⟨gb1032, 2, none⟩ = some (.int .i64 t1027) := bc_ BK1032 2; have hcz121_3 : w118.cell? ⟨gb1032, 3, none⟩ = some (.int .i64 t1028) := bc_ BK1032 3; have hcz121_4 : w118.cell? ⟨gb1032, 4, none⟩ = some (.slice Ao20 t1029.length co20) := bc_ BK1032 4; have hfz121_0 := blk_frozen BK1032.out 0; have hfz121_1 := blk_frozen BK1032.out 1; have hfz121_2 := blk_frozen BK1032.out 2; have hfz121_3 := blk_frozen BK1032.out 3; have hfz121_4 := blk_frozen BK1032.out 4))
            go_ret
            exact ⟨er_, hb_ HB.out⟩
          ·
           rw [if_neg c104] at H
           have c104b0 : decide (0 < t1020) = false := decide_eq_false c104
           clear c104
           obtain rfl := Option.some.inj H
           have hnb122 := NB1024_1032.out
           have hnc122 := NB1032_1024.out
           have hnb123 := NB1024_1043.out
           have hnc123 := NB1043_1024.out
           have hnb124 := NB1024_1060.out
           have hnc124 := NB1060_1024.out
           have hcz125_0 : wc.cell? ⟨gb1024, 0, none⟩ = some (.int .i64 t1013) := bc_ BK1024 0
           have hcz125_1 : wc.cell? ⟨gb1024, 1, none⟩ = some (.int .i64 t1014) := bc_ BK1024 1
           have hcz125_2 : wc.cell? ⟨gb1024, 2, none⟩ = some (.int .i64 t1015) := bc_ BK1024 2
           have hcz125_3 : wc.cell? ⟨gb1024, 3, none⟩ = some (.int .i64 t1016) := bc_ BK1024 3
           have hcz125_4 : wc.cell? ⟨gb1024, 4, none⟩ = some (.slice Ao15 t1017.length co15) := bc_ BK1024 4
           have hfz125_0 := blk_frozen BK1024.out 0
           have hfz125_1 := blk_frozen BK1024.out 1
           have hfz125_2 := blk_frozen BK1024.out 2
           have hfz125_3 := blk_frozen BK1024.out 3
           have hfz125_4 := blk_frozen BK1024.out 4
           go_wp2_with (first | ((with_reducible refine gate_callee (f := 43) rfl ?_); refine goesL_ (some 106) rfl rfl Try.func43 (by kernel_rfl) rfl #[.agg #[.int .i64 t1013, .int .i64 t1014, .int .i64 t1015, .int .i64 t1016, .slice Ao15 t1017.length co15], .int .i64 t1021, .int .i64 t1022] rfl sm_ ?_; (with_reducible refine (impl_MakerAsk.calls kj94 t1013 t1014 t1015 t1016 _ _ t1017 t1021 t1022 t1097 t1098 _ ?side1 ?side2 A102.out).mono ?_); (case side1 => repeat (first | exact (Kd.R_reads' HO_1025004.out).2.2 | (with_reducible refine Kd.C_alloc ?_ _) | (with_reducible refine Kd.C_drewN ?_ _) | (with_reducible refine Kd.C_drew ?_))); (case side2 => exact (Kd.R_reads' HO_1025004.out).2.1); rintro e w126 ⟨rfl, hb⟩; refine ⟨_, rfl, ?_⟩; replace HO_1025004 := cr_ HO_1025004 hb; replace HO_1033004 := cr_ HO_1033004 hb; replace HO_1044004 := cr_ HO_1044004 hb; replace HO_1061004 := cr_ HO_1061004 hb; replace BK1024 := cb_ BK1024 hb; replace BK1032 := cb_ BK1032 hb; replace BK1043 := cb_ BK1043 hb; replace BK1060 := cb_ BK1060 hb; replace HB := ch_ HB hb; (try clear hb); (try clear hb2); (try clear hk); (try clear hi)))
           go_ret
           exact ⟨er_, hb_ HB.out⟩
         ·
          rw [if_neg c103] at H
          have c103b0 : (t1097 == 0) = false := beq_eq_false_iff_ne.mpr c103
          have c103b1 : (t1097 != 0) = true := bne_iff_ne.mpr c103
          replace H := Option.bind_eq_some_iff.mp H
          obtain ⟨t1099, A1270, H⟩ := H
          replace H : (some t1099) = some r := H
          have A127 := Aside0.mk A1270
          clear A1270
          obtain rfl := Option.some.inj H
          have hnb128 := NB1024_1032.out
          have hnc128 := NB1032_1024.out
          have hnb129 := NB1024_1043.out
          have hnc129 := NB1043_1024.out
          have hnb130 := NB1024_1060.out
          have hnc130 := NB1060_1024.out
          have hcz131_0 : wc.cell? ⟨gb1024, 0, none⟩ = some (.int .i64 t1013) := bc_ BK1024 0
          have hcz131_1 : wc.cell? ⟨gb1024, 1, none⟩ = some (.int .i64 t1014) := bc_ BK1024 1
          have hcz131_2 : wc.cell? ⟨gb1024, 2, none⟩ = some (.int .i64 t1015) := bc_ BK1024 2
          have hcz131_3 : wc.cell? ⟨gb1024, 3, none⟩ = some (.int .i64 t1016) := bc_ BK1024 3
          have hcz131_4 : wc.cell? ⟨gb1024, 4, none⟩ = some (.slice Ao15 t1017.length co15) := bc_ BK1024 4
          have hfz131_0 := blk_frozen BK1024.out 0
          have hfz131_1 := blk_frozen BK1024.out 1
          have hfz131_2 := blk_frozen BK1024.out 2
          have hfz131_3 := blk_frozen BK1024.out 3
          have hfz131_4 := blk_frozen BK1024.out 4
          go_wp2_with (first | ((with_reducible refine gate_callee (f := 43) rfl ?_); refine goesL_ (some 106) rfl rfl Try.func43 (by kernel_rfl) rfl #[.agg #[.int .i64 t1013, .int .i64 t1014, .int .i64 t1015, .int .i64 t1016, .slice Ao15 t1017.length co15], .int .i64 t1021, .int .i64 t1022] rfl sm_ ?_; (with_reducible refine (impl_MakerAsk.calls kj94 t1013 t1014 t1015 t1016 _ _ t1017 t1021 t1022 t1097 t1098 _ ?side1 ?side2 A102.out).mono ?_); (case side1 => repeat (first | exact (Kd.R_reads' HO_1025004.out).2.2 | (with_reducible refine Kd.C_alloc ?_ _) | (with_reducible refine Kd.C_drewN ?_ _) | (with_reducible refine Kd.C_drew ?_))); (case side2 => exact (Kd.R_reads' HO_1025004.out).2.1); rintro e w132 ⟨rfl, hb⟩; refine ⟨_, rfl, ?_⟩; replace HO_1025004 := cr_ HO_1025004 hb; replace HO_1033004 := cr_ HO_1033004 hb; replace HO_1044004 := cr_ HO_1044004 hb; replace HO_1061004 := cr_ HO_1061004 hb; replace BK1024 := cb_ BK1024 hb; replace BK1032 := cb_ BK1032 hb; replace BK1043 := cb_ BK1043 hb; replace BK1060 := cb_ BK1060 hb; replace HB := ch_ HB hb; (try clear hb); (try clear hb2); (try clear hk); (try clear hi); have hnb133 := NB1032_1043.out; have hnc133 := NB1043_1032.out; have hnb134 := NB1032_1060.out; have hnc134 := NB1060_1032.out; have hcz135_0 : w132.cell? ⟨gb1032, 0, none⟩ = some (.int .i64 t1025) := bc_ BK1032 0; have hcz135_1 : w132.cell? ⟨gb1032, 1, none⟩ = some (.int .i64 t1026) := bc_ BK1032 1; have hcz135_2 : w132.cell? ⟨gb1032, 2, none⟩ = some (.int .i64 t1027) := bc_ BK1032 2; have hcz135_3 : w132.cell? ⟨gb1032, 3, none⟩ = some (.int .i64 t1028) := bc_ BK1032 3; have hcz135_4 : w132.cell? ⟨gb1032, 4, none⟩ = some (.slice Ao20 t1029.length co20) := bc_ BK1032 4; have hfz135_0 := blk_frozen BK1032.out 0; have hfz135_1 := blk_frozen BK1032.out 1; have hfz135_2 := blk_frozen BK1032.out 2; have hfz135_3 := blk_frozen BK1032.out 3; have hfz135_4 := blk_frozen BK1032.out 4; have hcz136_0 : w132.cell? ⟨gb1024, 0, none⟩ = some (.int .i64 t1013) := bc_ BK1024 0; have hcz136_1 : w132.cell? ⟨gb1024, 1, none⟩ = some (.int .i64 t1014) := bc_ BK1024 1; have hcz136_2 : w132.cell? ⟨gb1024, 2, none⟩ = some (.int .i64 t1015) := bc_ BK1024 2; have hcz136_3 : w132.cell? ⟨gb1024, 3, none⟩ = some (.int .i64 t1016) := bc_ BK1024 3; have hcz136_4 : w132.cell? ⟨gb1024, 4, none⟩ = some (.slice Ao15 t1017.length co15) := bc_ BK1024 4; have hfz136_0 := blk_frozen BK1024.out 0; have hfz136_1 := blk_frozen BK1024.out 1; have hfz136_2 := blk_frozen BK1024.out 2; have hfz136_3 := blk_frozen BK1024.out 3; have hfz136_4 := blk_frozen BK1024.out 4) | (go_at_call 39; (with_reducible refine (laws_sameMaker.calls kj94 t1025 t1026 t1027 t1028 _ _ t1029 t1013 t1014 t1015 t1016 _ _ t1017 t1099 _ ?side1 ?side2 ?side3 ?side4 A127.out).mono ?_); (case side1 => repeat (first | exact (Kd.R_reads' HO_1033004.out).2.2 | (with_reducible refine Kd.C_alloc ?_ _) | (with_reducible refine Kd.C_drewN ?_ _) | (with_reducible refine Kd.C_drew ?_))); (case side2 => exact (Kd.R_reads' HO_1033004.out).2.1); (case side3 => repeat (first | exact (Kd.R_reads' HO_1025004.out).2.2 | (with_reducible refine Kd.C_alloc ?_ _) | (with_reducible refine Kd.C_drewN ?_ _) | (with_reducible refine Kd.C_drew ?_))); (case side4 => exact (Kd.R_reads' HO_1025004.out).2.1); rintro e w137 ⟨rfl, hb⟩; replace HO_1025004 := cr_ HO_1025004 hb; replace HO_1033004 := cr_ HO_1033004 hb; replace HO_1044004 := cr_ HO_1044004 hb; replace HO_1061004 := cr_ HO_1061004 hb; replace BK1024 := cb_ BK1024 hb; replace BK1032 := cb_ BK1032 hb; replace BK1043 := cb_ BK1043 hb; replace BK1060 := cb_ BK1060 hb; replace HB := ch_ HB hb; (try clear hb); (try clear hb2); (try clear hk); (try clear hi)))
          go_ret
          exact ⟨er_, hb_ HB.out⟩

/-- THE ONE PURE STATEMENT of laws_FnMakers: yours. -/
def laws_FnMakers.Pure : Prop := ∀ (l0 : List Int), l0.length ≤ maxLen → l0.length * 1 ≤ 140737488351232 → (∀ x ∈ l0, (Lit.int .u8 x).wf = true) → ∃ k, laws_FnMakers.f k l0 = some true
theorem laws_FnMakers.walk (P : laws_FnMakers.Pure) (a0 : Option Addr) (len0 cap0 : Nat) (z0 : List Int) (w : World) (w0 : (a0 = none ∧ len0 = 0 ∧ cap0 = 0 ∧ z0 = []) ∨ ∃ x, a0 = some x ∧ len0 ≤ cap0 ∧ cap0 ≤ maxLen ∧ z0.length = cap0 ∧ (∀ i, i < z0.length → w.cell? (x.add i) = some (.int .u8 (z0.getD i 0))) ∧ ∀ n ∈ z0, (Lit.int .u8 n).wf = true) (y0 : len0 * 1 ≤ 140737488351232) :
 Calls Try.prog 7 #[.slice a0 len0 cap0] w fun e w' => e = .returned (.bool true) ∧ Below w.heap.size w w' := by
 obtain ⟨l0, rfl, hr0, hm0, hw0, hc0⟩ := ReadsInt.ofRowC w0
 obtain ⟨k, h⟩ := P l0 hm0 y0 hw0
 refine (laws_FnMakers.calls k _ _ l0 true w (Kd.C_of_reads (d := (0 : Int)) (h1 := fun _ => rfl) hr0) hc0 h).mono ?_
 rintro e w' ⟨rfl, hd⟩
 exact ⟨rfl, hd⟩
end Go.Proofs.Ythmjhhkheohgfaa.Q
