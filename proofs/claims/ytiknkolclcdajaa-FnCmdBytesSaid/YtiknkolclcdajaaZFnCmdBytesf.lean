/- Made by a program of ours out of the print of the loaded functions: for each of some functions a plain function, and the walk that shows that a call comes to what it says. No condition but those of each theorem. -/
import Derived.Test.YtiknkolclcdajaaZFnCmdBytes0
import Derived.Test.YtiknkolclcdajaaZFnCmdBytesa
import Derived.Test.YtiknkolclcdajaaZFnCmdBytesb
import Derived.Test.YtiknkolclcdajaaZFnCmdBytesc
import Derived.Test.YtiknkolclcdajaaZFnCmdBytesd
import Derived.Test.YtiknkolclcdajaaZFnCmdBytese
namespace Go.Proofs.Ytiknkolclcdajaa.Q
open Go.RowKit Go.Proofs.YtiknkolclcdajaaW.PrintWords Go.Proofs.YtiknkolclcdajaaW.PrintLast Go.Proofs.YtiknkolclcdajaaW.PrintMore
attribute [local go_sem] max2_int min2_int max_two min_two max_three min_three max_four min_four   -- for this text's walks alone
set_option linter.unusedVariables false
set_option linter.unusedSimpArgs false
theorem qf0_ {P : Prop} (h : P := by (with_reducible repeat (first | apply Kd.R_alloc | apply Kd.R_drewN | apply Kd.R_drew)); exact Kd.R_mono (Kd.R_far (p := ⟨gb616, 7, none⟩) (Kd.R_far (p := ⟨gb616, 6, none⟩) (Kd.R_far (p := ⟨gb616, 5, none⟩) (Kd.R_far (p := ⟨gb616, 4, none⟩) (Kd.R_far (p := ⟨gb616, 3, none⟩) (Kd.R_far (p := ⟨gb616, 2, none⟩) (Kd.R_far (p := ⟨gb616, 1, none⟩) (Kd.R_far (p := ⟨gb616, 0, none⟩) (Kd.R_types HO594.out BK616.out (by decide)) (fun _ hk => hk.2) (.int .i64 t606)) (fun _ hk => hk.2) (.int .i64 t607)) (fun _ hk => hk.2) (.int .i64 t608)) (fun _ hk => hk.2) (.int .i64 t609)) (fun _ hk => hk.2) (.int .i64 t610)) (fun _ hk => hk.2) (.int .i64 t611)) (fun _ hk => hk.2) (.string t612)) (fun _ hk => hk.2) (.string t613)) (fun _ hk => hk.1.2)) : P := h
theorem qf1_ {P : Prop} (h : P := by (with_reducible repeat (first | apply Kd.R_alloc | apply Kd.R_drewN | apply Kd.R_drew)); exact Kd.R_mono (Kd.R_far (p := ⟨gb616, 7, none⟩) (Kd.R_far (p := ⟨gb616, 6, none⟩) (Kd.R_far (p := ⟨gb616, 5, none⟩) (Kd.R_far (p := ⟨gb616, 4, none⟩) (Kd.R_far (p := ⟨gb616, 3, none⟩) (Kd.R_far (p := ⟨gb616, 2, none⟩) (Kd.R_far (p := ⟨gb616, 1, none⟩) (Kd.R_far (p := ⟨gb616, 0, none⟩) (Kd.R_types HO590.out BK616.out (by decide)) (fun _ hk => hk.2) (.int .i64 t606)) (fun _ hk => hk.2) (.int .i64 t607)) (fun _ hk => hk.2) (.int .i64 t608)) (fun _ hk => hk.2) (.int .i64 t609)) (fun _ hk => hk.2) (.int .i64 t610)) (fun _ hk => hk.2) (.int .i64 t611)) (fun _ hk => hk.2) (.string t612)) (fun _ hk => hk.2) (.string t613)) (fun _ hk => hk.1.2)) : P := h
theorem qf2_ {P : Prop} (h : P := by simp only [putAll, Act.put, List.setIfInBounds_toArray, List.set_cons_zero, List.set_cons_succ]) : P := h
theorem qf3_ {P : Prop} (h : P := by repeat (first | (with_reducible exact HR627.out) | (with_reducible refine Kd.C_alloc ?_ _) | (with_reducible refine Kd.C_drewN ?_ _) | (with_reducible refine Kd.C_drew ?_) | exact HR627.out)) : P := h
theorem qf4_ {P : Prop} (h : P := by (with_reducible repeat (first | apply Kd.R_alloc | apply Kd.R_drewN | apply Kd.R_drew)); exact Kd.R_mono HO_4.out (fun k_ hk => by first | exact hk | exact ⟨trivial, hk⟩ | exact hk.2)) : P := h
theorem qf5_ {P : Prop} (h : P := by first | rfl | (simp; done) | (simp [*]; done)) : P := h
theorem qf6_ {P : Prop} (h : P := by (with_reducible repeat (first | apply Kd.R_alloc | apply Kd.R_drewN | apply Kd.R_drew)); exact Kd.R_mono HO_4.out (fun _ hk => trivial)) : P := h
theorem qf7_ {P : Prop} (h : P := by first | omega | exact Nat.le_refl _) : P := h

section
attribute [local go_sem high] eqA_Cmd
set_option maxHeartbeats 8000000 in
set_option maxRecDepth 100000 in
theorem laws_FnCmdBytes.calls (k : Nat) (A0 : Option Addr) (c0 : Nat) (l0 : List Int) (r : Bool) (w : World) (hr0 : Kd.C (Kd.int .u8) w A0 l0.length l0) (hc0 : l0.length ≤ c0) (h : laws_FnCmdBytes.f k l0 = some r) :
 Calls Try.prog 10 #[.slice A0 l0.length c0] w fun e w' => e = .returned (.bool r) ∧ Below w.heap.size w w' := by
 have hu95 := Try.underlying95
 have HR0 := Aside0.mk hr0
 have HC0 := Aside0.mk hc0
 clear hr0 hc0
 have HB := Aside0.mk (Below.refl w.heap.size w)
 have H : ((laws_big.f l0).bind fun t578 => (if t578 = true then (some true) else ((spec_DrawCmdBytes.f k l0).bind fun bt579 => ((impl_CmdBytes.f k bt579.1 bt579.2.1 bt579.2.2.1 bt579.2.2.2.1 bt579.2.2.2.2.1 bt579.2.2.2.2.2.1 bt579.2.2.2.2.2.2.1 bt579.2.2.2.2.2.2.2).bind fun t588 => ((spec_DrawCmdOf.f k l0).bind fun bt591 => ((impl_CmdOf.f k bt591.1 bt591.2).bind fun bt595 => ((spec_CmdOf.f k bt591.1 bt591.2).bind fun bt606 => ((spec_CmdBytes.f k bt579.1 bt579.2.1 bt579.2.2.1 bt579.2.2.2.1 bt579.2.2.2.2.1 bt579.2.2.2.2.2.1 bt579.2.2.2.2.2.2.1 bt579.2.2.2.2.2.2.2).bind fun t617 => (if (strOfNums t588).toList = (strOfNums t617).toList then ((impl_CmdOk.f k bt579.1 bt579.2.1 bt579.2.2.1 bt579.2.2.2.1 bt579.2.2.2.2.1 bt579.2.2.2.2.2.1 bt579.2.2.2.2.2.2.1 bt579.2.2.2.2.2.2.2).bind fun t620 => (if ((decide ((t588.length : Int) > 0)) != t620) = true then (laws_FnCmdBytes.j0 k l0 t588 bt591.1 bt591.2 bt595.2.2.2.2.2.2.2.2.1 bt595.2.2.2.2.2.2.2.2.2 true bt579.1 bt579.2.1 bt579.2.2.1 bt579.2.2.2.1 bt579.2.2.2.2.1 bt579.2.2.2.2.2.1 bt579.2.2.2.2.2.2.1 bt579.2.2.2.2.2.2.2 bt595.1 bt595.2.1 bt595.2.2.1 bt595.2.2.2.1 bt595.2.2.2.2.1 bt595.2.2.2.2.2.1 bt595.2.2.2.2.2.2.1 bt595.2.2.2.2.2.2.2.1) else (if (bt595.2.2.2.2.2.2.2.2.2 != bt606.2.2.2.2.2.2.2.2.2) = true then (laws_FnCmdBytes.j0 k l0 t588 bt591.1 bt591.2 bt595.2.2.2.2.2.2.2.2.1 bt595.2.2.2.2.2.2.2.2.2 true bt579.1 bt579.2.1 bt579.2.2.1 bt579.2.2.2.1 bt579.2.2.2.2.1 bt579.2.2.2.2.2.1 bt579.2.2.2.2.2.2.1 bt579.2.2.2.2.2.2.2 bt595.1 bt595.2.1 bt595.2.2.1 bt595.2.2.2.1 bt595.2.2.2.2.1 bt595.2.2.2.2.2.1 bt595.2.2.2.2.2.2.1 bt595.2.2.2.2.2.2.2.1) else (if (!(bt595.1 == bt606.1) || (!(bt595.2.1 == bt606.2.1) || (!(bt595.2.2.1 == bt606.2.2.1) || (!(bt595.2.2.2.1 == bt606.2.2.2.1) || (!(bt595.2.2.2.2.1 == bt606.2.2.2.2.1) || (!(bt595.2.2.2.2.2.1 == bt606.2.2.2.2.2.1) || (!(bt595.2.2.2.2.2.2.1.toList == bt606.2.2.2.2.2.2.1.toList) || (!(bt595.2.2.2.2.2.2.2.1.toList == bt606.2.2.2.2.2.2.2.1.toList))))))))) = true then (laws_FnCmdBytes.j0 k l0 t588 bt591.1 bt591.2 bt595.2.2.2.2.2.2.2.2.1 bt595.2.2.2.2.2.2.2.2.2 true bt579.1 bt579.2.1 bt579.2.2.1 bt579.2.2.2.1 bt579.2.2.2.2.1 bt579.2.2.2.2.2.1 bt579.2.2.2.2.2.2.1 bt579.2.2.2.2.2.2.2 bt595.1 bt595.2.1 bt595.2.2.1 bt595.2.2.2.1 bt595.2.2.2.2.1 bt595.2.2.2.2.2.1 bt595.2.2.2.2.2.2.1 bt595.2.2.2.2.2.2.2.1) else (laws_FnCmdBytes.j0 k l0 t588 bt591.1 bt591.2 bt595.2.2.2.2.2.2.2.2.1 bt595.2.2.2.2.2.2.2.2.2 (bt595.2.2.2.2.2.2.2.2.1 != bt606.2.2.2.2.2.2.2.2.1) bt579.1 bt579.2.1 bt579.2.2.1 bt579.2.2.2.1 bt579.2.2.2.2.1 bt579.2.2.2.2.2.1 bt579.2.2.2.2.2.2.1 bt579.2.2.2.2.2.2.2 bt595.1 bt595.2.1 bt595.2.2.1 bt595.2.2.2.1 bt595.2.2.2.2.1 bt595.2.2.2.2.2.1 bt595.2.2.2.2.2.2.1 bt595.2.2.2.2.2.2.2.1))))) else (laws_FnCmdBytes.j0 k l0 t588 bt591.1 bt591.2 bt595.2.2.2.2.2.2.2.2.1 bt595.2.2.2.2.2.2.2.2.2 true bt579.1 bt579.2.1 bt579.2.2.1 bt579.2.2.2.1 bt579.2.2.2.2.1 bt579.2.2.2.2.2.1 bt579.2.2.2.2.2.2.1 bt579.2.2.2.2.2.2.2 bt595.1 bt595.2.1 bt595.2.2.1 bt595.2.2.2.1 bt595.2.2.2.2.1 bt595.2.2.2.2.2.1 bt595.2.2.2.2.2.2.1 bt595.2.2.2.2.2.2.2.1)))))))))) = some r := h
 clear h
 replace H := Option.bind_eq_some_iff.mp H
 obtain ⟨t578, A20, H⟩ := H
 replace H : (if t578 = true then (some true) else ((spec_DrawCmdBytes.f k l0).bind fun bt579 => ((impl_CmdBytes.f k bt579.1 bt579.2.1 bt579.2.2.1 bt579.2.2.2.1 bt579.2.2.2.2.1 bt579.2.2.2.2.2.1 bt579.2.2.2.2.2.2.1 bt579.2.2.2.2.2.2.2).bind fun t588 => ((spec_DrawCmdOf.f k l0).bind fun bt591 => ((impl_CmdOf.f k bt591.1 bt591.2).bind fun bt595 => ((spec_CmdOf.f k bt591.1 bt591.2).bind fun bt606 => ((spec_CmdBytes.f k bt579.1 bt579.2.1 bt579.2.2.1 bt579.2.2.2.1 bt579.2.2.2.2.1 bt579.2.2.2.2.2.1 bt579.2.2.2.2.2.2.1 bt579.2.2.2.2.2.2.2).bind fun t617 => (if (strOfNums t588).toList = (strOfNums t617).toList then ((impl_CmdOk.f k bt579.1 bt579.2.1 bt579.2.2.1 bt579.2.2.2.1 bt579.2.2.2.2.1 bt579.2.2.2.2.2.1 bt579.2.2.2.2.2.2.1 bt579.2.2.2.2.2.2.2).bind fun t620 => (if ((decide ((t588.length : Int) > 0)) != t620) = true then (laws_FnCmdBytes.j0 k l0 t588 bt591.1 bt591.2 bt595.2.2.2.2.2.2.2.2.1 bt595.2.2.2.2.2.2.2.2.2 true bt579.1 bt579.2.1 bt579.2.2.1 bt579.2.2.2.1 bt579.2.2.2.2.1 bt579.2.2.2.2.2.1 bt579.2.2.2.2.2.2.1 bt579.2.2.2.2.2.2.2 bt595.1 bt595.2.1 bt595.2.2.1 bt595.2.2.2.1 bt595.2.2.2.2.1 bt595.2.2.2.2.2.1 bt595.2.2.2.2.2.2.1 bt595.2.2.2.2.2.2.2.1) else (if (bt595.2.2.2.2.2.2.2.2.2 != bt606.2.2.2.2.2.2.2.2.2) = true then (laws_FnCmdBytes.j0 k l0 t588 bt591.1 bt591.2 bt595.2.2.2.2.2.2.2.2.1 bt595.2.2.2.2.2.2.2.2.2 true bt579.1 bt579.2.1 bt579.2.2.1 bt579.2.2.2.1 bt579.2.2.2.2.1 bt579.2.2.2.2.2.1 bt579.2.2.2.2.2.2.1 bt579.2.2.2.2.2.2.2 bt595.1 bt595.2.1 bt595.2.2.1 bt595.2.2.2.1 bt595.2.2.2.2.1 bt595.2.2.2.2.2.1 bt595.2.2.2.2.2.2.1 bt595.2.2.2.2.2.2.2.1) else (if (!(bt595.1 == bt606.1) || (!(bt595.2.1 == bt606.2.1) || (!(bt595.2.2.1 == bt606.2.2.1) || (!(bt595.2.2.2.1 == bt606.2.2.2.1) || (!(bt595.2.2.2.2.1 == bt606.2.2.2.2.1) || (!(bt595.2.2.2.2.2.1 == bt606.2.2.2.2.2.1) || (!(bt595.2.2.2.2.2.2.1.toList == bt606.2.2.2.2.2.2.1.toList) || (!(bt595.2.2.2.2.2.2.2.1.toList == bt606.2.2.2.2.2.2.2.1.toList))))))))) = true then (laws_FnCmdBytes.j0 k l0 t588 bt591.1 bt591.2 bt595.2.2.2.2.2.2.2.2.1 bt595.2.2.2.2.2.2.2.2.2 true bt579.1 bt579.2.1 bt579.2.2.1 bt579.2.2.2.1 bt579.2.2.2.2.1 bt579.2.2.2.2.2.1 bt579.2.2.2.2.2.2.1 bt579.2.2.2.2.2.2.2 bt595.1 bt595.2.1 bt595.2.2.1 bt595.2.2.2.1 bt595.2.2.2.2.1 bt595.2.2.2.2.2.1 bt595.2.2.2.2.2.2.1 bt595.2.2.2.2.2.2.2.1) else (laws_FnCmdBytes.j0 k l0 t588 bt591.1 bt591.2 bt595.2.2.2.2.2.2.2.2.1 bt595.2.2.2.2.2.2.2.2.2 (bt595.2.2.2.2.2.2.2.2.1 != bt606.2.2.2.2.2.2.2.2.1) bt579.1 bt579.2.1 bt579.2.2.1 bt579.2.2.2.1 bt579.2.2.2.2.1 bt579.2.2.2.2.2.1 bt579.2.2.2.2.2.2.1 bt579.2.2.2.2.2.2.2 bt595.1 bt595.2.1 bt595.2.2.1 bt595.2.2.2.1 bt595.2.2.2.2.1 bt595.2.2.2.2.2.1 bt595.2.2.2.2.2.2.1 bt595.2.2.2.2.2.2.2.1))))) else (laws_FnCmdBytes.j0 k l0 t588 bt591.1 bt591.2 bt595.2.2.2.2.2.2.2.2.1 bt595.2.2.2.2.2.2.2.2.2 true bt579.1 bt579.2.1 bt579.2.2.1 bt579.2.2.2.1 bt579.2.2.2.2.1 bt579.2.2.2.2.2.1 bt579.2.2.2.2.2.2.1 bt579.2.2.2.2.2.2.2 bt595.1 bt595.2.1 bt595.2.2.1 bt595.2.2.2.1 bt595.2.2.2.2.1 bt595.2.2.2.2.2.1 bt595.2.2.2.2.2.2.1 bt595.2.2.2.2.2.2.2.1))))))))) = some r := H
 have A2 := Aside0.mk A20
 clear A20
 by_cases c3 : t578 = true
 ·
  subst c3
  have H1 : (some true) = some r := by rw [if_pos rfl] at H; exact H
  clear H
  have H := H1
  clear H1
  obtain rfl := Option.some.inj H
  go_enter Try.func10, Try.ntmps10
  go_wp2_with (first | ((with_reducible refine gate_callee (f := 12) rfl ?_); refine goesL_ (some 17) rfl rfl Try.func12 (by kernel_rfl) rfl #[.slice A0 l0.length c0] rfl sm_ ?_; (with_reducible refine (laws_big.calls _ _ l0 true _ ?side1 ?side2 A2.out).mono ?_); (case side1 => repeat (first | exact HR0.out | (with_reducible refine Kd.C_alloc ?_ _) | (with_reducible refine Kd.C_drewN ?_ _) | (with_reducible refine Kd.C_drew ?_))); (case side2 => exact HC0.out); rintro e w' ⟨rfl, ⟨nd, rfl⟩⟩; refine ⟨_, rfl, ?_⟩))
  go_ret
  exact ⟨er_, hb_ HB.out⟩
 ·
  replace c3 := Bool.eq_false_iff.mpr c3
  subst c3
  have H1 : ((spec_DrawCmdBytes.f k l0).bind fun bt579 => ((impl_CmdBytes.f k bt579.1 bt579.2.1 bt579.2.2.1 bt579.2.2.2.1 bt579.2.2.2.2.1 bt579.2.2.2.2.2.1 bt579.2.2.2.2.2.2.1 bt579.2.2.2.2.2.2.2).bind fun t588 => ((spec_DrawCmdOf.f k l0).bind fun bt591 => ((impl_CmdOf.f k bt591.1 bt591.2).bind fun bt595 => ((spec_CmdOf.f k bt591.1 bt591.2).bind fun bt606 => ((spec_CmdBytes.f k bt579.1 bt579.2.1 bt579.2.2.1 bt579.2.2.2.1 bt579.2.2.2.2.1 bt579.2.2.2.2.2.1 bt579.2.2.2.2.2.2.1 bt579.2.2.2.2.2.2.2).bind fun t617 => (if (strOfNums t588).toList = (strOfNums t617).toList then ((impl_CmdOk.f k bt579.1 bt579.2.1 bt579.2.2.1 bt579.2.2.2.1 bt579.2.2.2.2.1 bt579.2.2.2.2.2.1 bt579.2.2.2.2.2.2.1 bt579.2.2.2.2.2.2.2).bind fun t620 => (if ((decide ((t588.length : Int) > 0)) != t620) = true then (laws_FnCmdBytes.j0 k l0 t588 bt591.1 bt591.2 bt595.2.2.2.2.2.2.2.2.1 bt595.2.2.2.2.2.2.2.2.2 true bt579.1 bt579.2.1 bt579.2.2.1 bt579.2.2.2.1 bt579.2.2.2.2.1 bt579.2.2.2.2.2.1 bt579.2.2.2.2.2.2.1 bt579.2.2.2.2.2.2.2 bt595.1 bt595.2.1 bt595.2.2.1 bt595.2.2.2.1 bt595.2.2.2.2.1 bt595.2.2.2.2.2.1 bt595.2.2.2.2.2.2.1 bt595.2.2.2.2.2.2.2.1) else (if (bt595.2.2.2.2.2.2.2.2.2 != bt606.2.2.2.2.2.2.2.2.2) = true then (laws_FnCmdBytes.j0 k l0 t588 bt591.1 bt591.2 bt595.2.2.2.2.2.2.2.2.1 bt595.2.2.2.2.2.2.2.2.2 true bt579.1 bt579.2.1 bt579.2.2.1 bt579.2.2.2.1 bt579.2.2.2.2.1 bt579.2.2.2.2.2.1 bt579.2.2.2.2.2.2.1 bt579.2.2.2.2.2.2.2 bt595.1 bt595.2.1 bt595.2.2.1 bt595.2.2.2.1 bt595.2.2.2.2.1 bt595.2.2.2.2.2.1 bt595.2.2.2.2.2.2.1 bt595.2.2.2.2.2.2.2.1) else (if (!(bt595.1 == bt606.1) || (!(bt595.2.1 == bt606.2.1) || (!(bt595.2.2.1 == bt606.2.2.1) || (!(bt595.2.2.2.1 == bt606.2.2.2.1) || (!(bt595.2.2.2.2.1 == bt606.2.2.2.2.1) || (!(bt595.2.2.2.2.2.1 == bt606.2.2.2.2.2.1) || (!(bt595.2.2.2.2.2.2.1.toList == bt606.2.2.2.2.2.2.1.toList) || (!(bt595.2.2.2.2.2.2.2.1.toList == bt606.2.2.2.2.2.2.2.1.toList))))))))) = true then (laws_FnCmdBytes.j0 k l0 t588 bt591.1 bt591.2 bt595.2.2.2.2.2.2.2.2.1 bt595.2.2.2.2.2.2.2.2.2 true bt579.1 bt579.2.1 bt579.2.2.1 bt579.2.2.2.1 bt579.2.2.2.2.1 bt579.2.2.2.2.2.1 bt579.2.2.2.2.2.2.1 bt579.2.2.2.2.2.2.2 bt595.1 bt595.2.1 bt595.2.2.1 bt595.2.2.2.1 bt595.2.2.2.2.1 bt595.2.2.2.2.2.1 bt595.2.2.2.2.2.2.1 bt595.2.2.2.2.2.2.2.1) else (laws_FnCmdBytes.j0 k l0 t588 bt591.1 bt591.2 bt595.2.2.2.2.2.2.2.2.1 bt595.2.2.2.2.2.2.2.2.2 (bt595.2.2.2.2.2.2.2.2.1 != bt606.2.2.2.2.2.2.2.2.1) bt579.1 bt579.2.1 bt579.2.2.1 bt579.2.2.2.1 bt579.2.2.2.2.1 bt579.2.2.2.2.2.1 bt579.2.2.2.2.2.2.1 bt579.2.2.2.2.2.2.2 bt595.1 bt595.2.1 bt595.2.2.1 bt595.2.2.2.1 bt595.2.2.2.2.1 bt595.2.2.2.2.2.1 bt595.2.2.2.2.2.2.1 bt595.2.2.2.2.2.2.2.1))))) else (laws_FnCmdBytes.j0 k l0 t588 bt591.1 bt591.2 bt595.2.2.2.2.2.2.2.2.1 bt595.2.2.2.2.2.2.2.2.2 true bt579.1 bt579.2.1 bt579.2.2.1 bt579.2.2.2.1 bt579.2.2.2.2.1 bt579.2.2.2.2.2.1 bt579.2.2.2.2.2.2.1 bt579.2.2.2.2.2.2.2 bt595.1 bt595.2.1 bt595.2.2.1 bt595.2.2.2.1 bt595.2.2.2.2.1 bt595.2.2.2.2.2.1 bt595.2.2.2.2.2.2.1 bt595.2.2.2.2.2.2.2.1)))))))) = some r := by rw [if_neg (show ¬ (false = true) by decide)] at H; exact H
  clear H
  have H := H1
  clear H1
  replace H := Option.bind_eq_some_iff.mp H
  obtain ⟨⟨t579, t580, t581, t582, t583, t584, t585, t586⟩, A40, H⟩ := H
  replace H : ((impl_CmdBytes.f k t579 t580 t581 t582 t583 t584 t585 t586).bind fun t588 => ((spec_DrawCmdOf.f k l0).bind fun bt591 => ((impl_CmdOf.f k bt591.1 bt591.2).bind fun bt595 => ((spec_CmdOf.f k bt591.1 bt591.2).bind fun bt606 => ((spec_CmdBytes.f k t579 t580 t581 t582 t583 t584 t585 t586).bind fun t617 => (if (strOfNums t588).toList = (strOfNums t617).toList then ((impl_CmdOk.f k t579 t580 t581 t582 t583 t584 t585 t586).bind fun t620 => (if ((decide ((t588.length : Int) > 0)) != t620) = true then (laws_FnCmdBytes.j0 k l0 t588 bt591.1 bt591.2 bt595.2.2.2.2.2.2.2.2.1 bt595.2.2.2.2.2.2.2.2.2 true t579 t580 t581 t582 t583 t584 t585 t586 bt595.1 bt595.2.1 bt595.2.2.1 bt595.2.2.2.1 bt595.2.2.2.2.1 bt595.2.2.2.2.2.1 bt595.2.2.2.2.2.2.1 bt595.2.2.2.2.2.2.2.1) else (if (bt595.2.2.2.2.2.2.2.2.2 != bt606.2.2.2.2.2.2.2.2.2) = true then (laws_FnCmdBytes.j0 k l0 t588 bt591.1 bt591.2 bt595.2.2.2.2.2.2.2.2.1 bt595.2.2.2.2.2.2.2.2.2 true t579 t580 t581 t582 t583 t584 t585 t586 bt595.1 bt595.2.1 bt595.2.2.1 bt595.2.2.2.1 bt595.2.2.2.2.1 bt595.2.2.2.2.2.1 bt595.2.2.2.2.2.2.1 bt595.2.2.2.2.2.2.2.1) else (if (!(bt595.1 == bt606.1) || (!(bt595.2.1 == bt606.2.1) || (!(bt595.2.2.1 == bt606.2.2.1) || (!(bt595.2.2.2.1 == bt606.2.2.2.1) || (!(bt595.2.2.2.2.1 == bt606.2.2.2.2.1) || (!(bt595.2.2.2.2.2.1 == bt606.2.2.2.2.2.1) || (!(bt595.2.2.2.2.2.2.1.toList == bt606.2.2.2.2.2.2.1.toList) || (!(bt595.2.2.2.2.2.2.2.1.toList == bt606.2.2.2.2.2.2.2.1.toList))))))))) = true then (laws_FnCmdBytes.j0 k l0 t588 bt591.1 bt591.2 bt595.2.2.2.2.2.2.2.2.1 bt595.2.2.2.2.2.2.2.2.2 true t579 t580 t581 t582 t583 t584 t585 t586 bt595.1 bt595.2.1 bt595.2.2.1 bt595.2.2.2.1 bt595.2.2.2.2.1 bt595.2.2.2.2.2.1 bt595.2.2.2.2.2.2.1 bt595.2.2.2.2.2.2.2.1) else (laws_FnCmdBytes.j0 k l0 t588 bt591.1 bt591.2 bt595.2.2.2.2.2.2.2.2.1 bt595.2.2.2.2.2.2.2.2.2 (bt595.2.2.2.2.2.2.2.2.1 != bt606.2.2.2.2.2.2.2.2.1) t579 t580 t581 t582 t583 t584 t585 t586 bt595.1 bt595.2.1 bt595.2.2.1 bt595.2.2.2.1 bt595.2.2.2.2.1 bt595.2.2.2.2.2.1 bt595.2.2.2.2.2.2.1 bt595.2.2.2.2.2.2.2.1))))) else (laws_FnCmdBytes.j0 k l0 t588 bt591.1 bt591.2 bt595.2.2.2.2.2.2.2.2.1 bt595.2.2.2.2.2.2.2.2.2 true t579 t580 t581 t582 t583 t584 t585 t586 bt595.1 bt595.2.1 bt595.2.2.1 bt595.2.2.2.1 bt595.2.2.2.2.1 bt595.2.2.2.2.2.1 bt595.2.2.2.2.2.2.1 bt595.2.2.2.2.2.2.2.1))))))) = some r := H
  have A4 := Aside0.mk A40
  clear A40
  replace H := Option.bind_eq_some_iff.mp H
  obtain ⟨t588, A50, H⟩ := H
  replace H : ((spec_DrawCmdOf.f k l0).bind fun bt591 => ((impl_CmdOf.f k bt591.1 bt591.2).bind fun bt595 => ((spec_CmdOf.f k bt591.1 bt591.2).bind fun bt606 => ((spec_CmdBytes.f k t579 t580 t581 t582 t583 t584 t585 t586).bind fun t617 => (if (strOfNums t588).toList = (strOfNums t617).toList then ((impl_CmdOk.f k t579 t580 t581 t582 t583 t584 t585 t586).bind fun t620 => (if ((decide ((t588.length : Int) > 0)) != t620) = true then (laws_FnCmdBytes.j0 k l0 t588 bt591.1 bt591.2 bt595.2.2.2.2.2.2.2.2.1 bt595.2.2.2.2.2.2.2.2.2 true t579 t580 t581 t582 t583 t584 t585 t586 bt595.1 bt595.2.1 bt595.2.2.1 bt595.2.2.2.1 bt595.2.2.2.2.1 bt595.2.2.2.2.2.1 bt595.2.2.2.2.2.2.1 bt595.2.2.2.2.2.2.2.1) else (if (bt595.2.2.2.2.2.2.2.2.2 != bt606.2.2.2.2.2.2.2.2.2) = true then (laws_FnCmdBytes.j0 k l0 t588 bt591.1 bt591.2 bt595.2.2.2.2.2.2.2.2.1 bt595.2.2.2.2.2.2.2.2.2 true t579 t580 t581 t582 t583 t584 t585 t586 bt595.1 bt595.2.1 bt595.2.2.1 bt595.2.2.2.1 bt595.2.2.2.2.1 bt595.2.2.2.2.2.1 bt595.2.2.2.2.2.2.1 bt595.2.2.2.2.2.2.2.1) else (if (!(bt595.1 == bt606.1) || (!(bt595.2.1 == bt606.2.1) || (!(bt595.2.2.1 == bt606.2.2.1) || (!(bt595.2.2.2.1 == bt606.2.2.2.1) || (!(bt595.2.2.2.2.1 == bt606.2.2.2.2.1) || (!(bt595.2.2.2.2.2.1 == bt606.2.2.2.2.2.1) || (!(bt595.2.2.2.2.2.2.1.toList == bt606.2.2.2.2.2.2.1.toList) || (!(bt595.2.2.2.2.2.2.2.1.toList == bt606.2.2.2.2.2.2.2.1.toList))))))))) = true then (laws_FnCmdBytes.j0 k l0 t588 bt591.1 bt591.2 bt595.2.2.2.2.2.2.2.2.1 bt595.2.2.2.2.2.2.2.2.2 true t579 t580 t581 t582 t583 t584 t585 t586 bt595.1 bt595.2.1 bt595.2.2.1 bt595.2.2.2.1 bt595.2.2.2.2.1 bt595.2.2.2.2.2.1 bt595.2.2.2.2.2.2.1 bt595.2.2.2.2.2.2.2.1) else (laws_FnCmdBytes.j0 k l0 t588 bt591.1 bt591.2 bt595.2.2.2.2.2.2.2.2.1 bt595.2.2.2.2.2.2.2.2.2 (bt595.2.2.2.2.2.2.2.2.1 != bt606.2.2.2.2.2.2.2.2.1) t579 t580 t581 t582 t583 t584 t585 t586 bt595.1 bt595.2.1 bt595.2.2.1 bt595.2.2.2.1 bt595.2.2.2.2.1 bt595.2.2.2.2.2.1 bt595.2.2.2.2.2.2.1 bt595.2.2.2.2.2.2.2.1))))) else (laws_FnCmdBytes.j0 k l0 t588 bt591.1 bt591.2 bt595.2.2.2.2.2.2.2.2.1 bt595.2.2.2.2.2.2.2.2.2 true t579 t580 t581 t582 t583 t584 t585 t586 bt595.1 bt595.2.1 bt595.2.2.1 bt595.2.2.2.1 bt595.2.2.2.2.1 bt595.2.2.2.2.2.1 bt595.2.2.2.2.2.2.1 bt595.2.2.2.2.2.2.2.1)))))) = some r := H
  have A5 := Aside0.mk A50
  clear A50
  replace H := Option.bind_eq_some_iff.mp H
  obtain ⟨⟨t591, t592⟩, A60, H⟩ := H
  replace H : ((impl_CmdOf.f k t591 t592).bind fun bt595 => ((spec_CmdOf.f k t591 t592).bind fun bt606 => ((spec_CmdBytes.f k t579 t580 t581 t582 t583 t584 t585 t586).bind fun t617 => (if (strOfNums t588).toList = (strOfNums t617).toList then ((impl_CmdOk.f k t579 t580 t581 t582 t583 t584 t585 t586).bind fun t620 => (if ((decide ((t588.length : Int) > 0)) != t620) = true then (laws_FnCmdBytes.j0 k l0 t588 t591 t592 bt595.2.2.2.2.2.2.2.2.1 bt595.2.2.2.2.2.2.2.2.2 true t579 t580 t581 t582 t583 t584 t585 t586 bt595.1 bt595.2.1 bt595.2.2.1 bt595.2.2.2.1 bt595.2.2.2.2.1 bt595.2.2.2.2.2.1 bt595.2.2.2.2.2.2.1 bt595.2.2.2.2.2.2.2.1) else (if (bt595.2.2.2.2.2.2.2.2.2 != bt606.2.2.2.2.2.2.2.2.2) = true then (laws_FnCmdBytes.j0 k l0 t588 t591 t592 bt595.2.2.2.2.2.2.2.2.1 bt595.2.2.2.2.2.2.2.2.2 true t579 t580 t581 t582 t583 t584 t585 t586 bt595.1 bt595.2.1 bt595.2.2.1 bt595.2.2.2.1 bt595.2.2.2.2.1 bt595.2.2.2.2.2.1 bt595.2.2.2.2.2.2.1 bt595.2.2.2.2.2.2.2.1) else (if (!(bt595.1 == bt606.1) || (!(bt595.2.1 == bt606.2.1) || (!(bt595.2.2.1 == bt606.2.2.1) || (!(bt595.2.2.2.1 == bt606.2.2.2.1) || (!(bt595.2.2.2.2.1 == bt606.2.2.2.2.1) || (!(bt595.2.2.2.2.2.1 == bt606.2.2.2.2.2.1) || (!(bt595.2.2.2.2.2.2.1.toList == bt606.2.2.2.2.2.2.1.toList) || (!(bt595.2.2.2.2.2.2.2.1.toList == bt606.2.2.2.2.2.2.2.1.toList))))))))) = true then (laws_FnCmdBytes.j0 k l0 t588 t591 t592 bt595.2.2.2.2.2.2.2.2.1 bt595.2.2.2.2.2.2.2.2.2 true t579 t580 t581 t582 t583 t584 t585 t586 bt595.1 bt595.2.1 bt595.2.2.1 bt595.2.2.2.1 bt595.2.2.2.2.1 bt595.2.2.2.2.2.1 bt595.2.2.2.2.2.2.1 bt595.2.2.2.2.2.2.2.1) else (laws_FnCmdBytes.j0 k l0 t588 t591 t592 bt595.2.2.2.2.2.2.2.2.1 bt595.2.2.2.2.2.2.2.2.2 (bt595.2.2.2.2.2.2.2.2.1 != bt606.2.2.2.2.2.2.2.2.1) t579 t580 t581 t582 t583 t584 t585 t586 bt595.1 bt595.2.1 bt595.2.2.1 bt595.2.2.2.1 bt595.2.2.2.2.1 bt595.2.2.2.2.2.1 bt595.2.2.2.2.2.2.1 bt595.2.2.2.2.2.2.2.1))))) else (laws_FnCmdBytes.j0 k l0 t588 t591 t592 bt595.2.2.2.2.2.2.2.2.1 bt595.2.2.2.2.2.2.2.2.2 true t579 t580 t581 t582 t583 t584 t585 t586 bt595.1 bt595.2.1 bt595.2.2.1 bt595.2.2.2.1 bt595.2.2.2.2.1 bt595.2.2.2.2.2.1 bt595.2.2.2.2.2.2.1 bt595.2.2.2.2.2.2.2.1))))) = some r := H
  have A6 := Aside0.mk A60
  clear A60
  replace H := Option.bind_eq_some_iff.mp H
  obtain ⟨⟨t595, t596, t597, t598, t599, t600, t601, t602, t603, t604⟩, A70, H⟩ := H
  replace H : ((spec_CmdOf.f k t591 t592).bind fun bt606 => ((spec_CmdBytes.f k t579 t580 t581 t582 t583 t584 t585 t586).bind fun t617 => (if (strOfNums t588).toList = (strOfNums t617).toList then ((impl_CmdOk.f k t579 t580 t581 t582 t583 t584 t585 t586).bind fun t620 => (if ((decide ((t588.length : Int) > 0)) != t620) = true then (laws_FnCmdBytes.j0 k l0 t588 t591 t592 t603 t604 true t579 t580 t581 t582 t583 t584 t585 t586 t595 t596 t597 t598 t599 t600 t601 t602) else (if (t604 != bt606.2.2.2.2.2.2.2.2.2) = true then (laws_FnCmdBytes.j0 k l0 t588 t591 t592 t603 t604 true t579 t580 t581 t582 t583 t584 t585 t586 t595 t596 t597 t598 t599 t600 t601 t602) else (if (!(t595 == bt606.1) || (!(t596 == bt606.2.1) || (!(t597 == bt606.2.2.1) || (!(t598 == bt606.2.2.2.1) || (!(t599 == bt606.2.2.2.2.1) || (!(t600 == bt606.2.2.2.2.2.1) || (!(t601.toList == bt606.2.2.2.2.2.2.1.toList) || (!(t602.toList == bt606.2.2.2.2.2.2.2.1.toList))))))))) = true then (laws_FnCmdBytes.j0 k l0 t588 t591 t592 t603 t604 true t579 t580 t581 t582 t583 t584 t585 t586 t595 t596 t597 t598 t599 t600 t601 t602) else (laws_FnCmdBytes.j0 k l0 t588 t591 t592 t603 t604 (t603 != bt606.2.2.2.2.2.2.2.2.1) t579 t580 t581 t582 t583 t584 t585 t586 t595 t596 t597 t598 t599 t600 t601 t602))))) else (laws_FnCmdBytes.j0 k l0 t588 t591 t592 t603 t604 true t579 t580 t581 t582 t583 t584 t585 t586 t595 t596 t597 t598 t599 t600 t601 t602)))) = some r := H
  have A7 := Aside0.mk A70
  clear A70
  replace H := Option.bind_eq_some_iff.mp H
  obtain ⟨⟨t606, t607, t608, t609, t610, t611, t612, t613, t614, t615⟩, A80, H⟩ := H
  replace H : ((spec_CmdBytes.f k t579 t580 t581 t582 t583 t584 t585 t586).bind fun t617 => (if (strOfNums t588).toList = (strOfNums t617).toList then ((impl_CmdOk.f k t579 t580 t581 t582 t583 t584 t585 t586).bind fun t620 => (if ((decide ((t588.length : Int) > 0)) != t620) = true then (laws_FnCmdBytes.j0 k l0 t588 t591 t592 t603 t604 true t579 t580 t581 t582 t583 t584 t585 t586 t595 t596 t597 t598 t599 t600 t601 t602) else (if (t604 != t615) = true then (laws_FnCmdBytes.j0 k l0 t588 t591 t592 t603 t604 true t579 t580 t581 t582 t583 t584 t585 t586 t595 t596 t597 t598 t599 t600 t601 t602) else (if (!(t595 == t606) || (!(t596 == t607) || (!(t597 == t608) || (!(t598 == t609) || (!(t599 == t610) || (!(t600 == t611) || (!(t601.toList == t612.toList) || (!(t602.toList == t613.toList))))))))) = true then (laws_FnCmdBytes.j0 k l0 t588 t591 t592 t603 t604 true t579 t580 t581 t582 t583 t584 t585 t586 t595 t596 t597 t598 t599 t600 t601 t602) else (laws_FnCmdBytes.j0 k l0 t588 t591 t592 t603 t604 (t603 != t614) t579 t580 t581 t582 t583 t584 t585 t586 t595 t596 t597 t598 t599 t600 t601 t602))))) else (laws_FnCmdBytes.j0 k l0 t588 t591 t592 t603 t604 true t579 t580 t581 t582 t583 t584 t585 t586 t595 t596 t597 t598 t599 t600 t601 t602))) = some r := H
  have A8 := Aside0.mk A80
  clear A80
  have HC9 := Aside0.mk H
  clear H
  go_enter Try.func10, Try.ntmps10
  go_upto_region 8 with (first | ((with_reducible refine gate_callee (f := 12) rfl ?_); refine goesL_ (some 17) rfl rfl Try.func12 (by kernel_rfl) rfl #[.slice A0 l0.length c0] rfl sm_ ?_; (with_reducible refine (laws_big.calls _ _ l0 false _ ?side1 ?side2 A2.out).mono ?_); (case side1 => repeat (first | exact HR0.out | (with_reducible refine Kd.C_alloc ?_ _) | (with_reducible refine Kd.C_drewN ?_ _) | (with_reducible refine Kd.C_drew ?_))); (case side2 => exact HC0.out); rintro e w' ⟨rfl, ⟨nd, rfl⟩⟩; refine ⟨_, rfl, ?_⟩) | ((with_reducible refine gate_callee (f := 62) rfl ?_); refine goesL_ (some 19) rfl rfl Try.func62 (by kernel_rfl) rfl #[.slice A0 l0.length c0] rfl sm_ ?_; (with_reducible refine (spec_DrawCmdBytes.calls k _ _ l0 t579 t580 t581 t582 t583 t584 t585 t586 _ ?side1 ?side2 A4.out).mono ?_); (case side1 => repeat (first | exact HR0.out | (with_reducible refine Kd.C_alloc ?_ _) | (with_reducible refine Kd.C_drewN ?_ _) | (with_reducible refine Kd.C_drew ?_))); (case side2 => exact HC0.out); rintro e w10 ⟨rfl, hb⟩; refine ⟨_, rfl, ?_⟩; have n0_ := Aside0.mk (below_step (hb_ HB.out) hb); clear HB; have HB := n0_; clear n0_; (try clear hb); (try clear hb2); (try clear hk); (try clear hi)) | ((with_reducible refine gate_dst (N := 3) rfl ?_); (try (refine gate_guard (by rfl) ?_; dsimp only)); refine box_event ?hg (N := 3) ?hd (cs := #[.int .i64 0, .int .i64 0, .int .i64 0, .int .i64 0, .int .i64 0, .int .i64 0, .string (⟨#[]⟩ : ByteArray), .string (⟨#[]⟩ : ByteArray)]) (t := 95) ?hr ?_; (case hd => rfl); (case hg => rfl); (case hr => first | (go_simp; done) | (go_simp; rfl)); intro gb587 hg w11 hbox hb; have n0_ := Aside0.mk (below_step (hb_ HB.out) hb); have n1_ := Aside0.mk (hbox); have n2_ := Aside0.mk ((by rw [hg]; exact (below_size (hb_ HB.out)) : w.heap.size ≤ gb587)); have n3_ := Aside0.mk ((by rw [hg]; exact (below_size (hb_ HB.out)) : w.heap.size ≤ gb587)); clear HB; have HB := n0_; have BK587 := n1_; have GW587 := n2_; have GE587 := n3_; clear n0_ n1_ n2_ n3_; clear hb hbox hg; have hcz12_0 : w11.cell? ⟨gb587, 0, none⟩ = some (.int .i64 0) := bc_ BK587 0; have hcz12_1 : w11.cell? ⟨gb587, 1, none⟩ = some (.int .i64 0) := bc_ BK587 1; have hcz12_2 : w11.cell? ⟨gb587, 2, none⟩ = some (.int .i64 0) := bc_ BK587 2; have hcz12_3 : w11.cell? ⟨gb587, 3, none⟩ = some (.int .i64 0) := bc_ BK587 3; have hcz12_4 : w11.cell? ⟨gb587, 4, none⟩ = some (.int .i64 0) := bc_ BK587 4; have hcz12_5 : w11.cell? ⟨gb587, 5, none⟩ = some (.int .i64 0) := bc_ BK587 5; have hcz12_6 : w11.cell? ⟨gb587, 6, none⟩ = some (.string (⟨#[]⟩ : ByteArray)) := bc_ BK587 6; have hcz12_7 : w11.cell? ⟨gb587, 7, none⟩ = some (.string (⟨#[]⟩ : ByteArray)) := bc_ BK587 7; have hfz12_0 := blk_frozen BK587.out 0; have hfz12_1 := blk_frozen BK587.out 1; have hfz12_2 := blk_frozen BK587.out 2; have hfz12_3 := blk_frozen BK587.out 3; have hfz12_4 := blk_frozen BK587.out 4; have hfz12_5 := blk_frozen BK587.out 5; have hfz12_6 := blk_frozen BK587.out 6; have hfz12_7 := blk_frozen BK587.out 7) | ((with_reducible refine gate_callee (f := 63) rfl ?_); refine goesL_ (some 21) rfl rfl Try.func63 (by kernel_rfl) rfl #[.agg #[.int .i64 t579, .int .i64 t580, .int .i64 t581, .int .i64 t582, .int .i64 t583, .int .i64 t584, .string t585, .string t586]] rfl sm_ ?_; (with_reducible refine (impl_CmdBytes.calls k t579 t580 t581 t582 t583 t584 t585 t586 t588 _ A5.out).mono ?_); rintro e w13 ⟨v589, rfl, ho0, hb⟩; refine ⟨_, rfl, ?_⟩; have n0_ := Aside0.mk (Kd.R_lower ho0 (below_size (hb_ HB.out))); have n1_ := Aside0.mk (blk_below (g := gb587) (o := .cells #[.int .i64 t579, .int .i64 t580, .int .i64 t581, .int .i64 t582, .int .i64 t583, .int .i64 t584, .string t585, .string t586] 95 (0, 0)) (bp_ BK587.out) hb); have n2_ := Aside0.mk (below_step (hb_ HB.out) hb); clear BK587; clear HB; have HO590 := n0_; have BK587 := n1_; have HB := n2_; clear n0_ n1_ n2_; (try clear hb); (try clear hb2); (try clear hk); (try clear hi); (try clear ho0)) | ((with_reducible refine gate_callee (f := 64) rfl ?_); refine goesL_ (some 24) rfl rfl Try.func64 (by kernel_rfl) rfl #[.slice A0 l0.length c0] rfl sm_ ?_; (with_reducible refine (spec_DrawCmdOf.calls k _ _ l0 t591 t592 _ ?side1 ?side2 A6.out).mono ?_); (case side1 => repeat (first | exact (Kd.C_below HR0.out HB.out) | (with_reducible refine Kd.C_alloc ?_ _) | (with_reducible refine Kd.C_drewN ?_ _) | (with_reducible refine Kd.C_drew ?_))); (case side2 => exact HC0.out); rintro e w14 ⟨v593, rfl, ho0, hb⟩; refine ⟨_, rfl, ?_⟩; have n0_ := Aside0.mk (Kd.R_elder' (rq_ HO590.out) (Kd.R_base ho0) hb); have n1_ := Aside0.mk (Kd.R_lower (Kd.R_new' ho0 (Kd.R_lt (rq_ HO590.out))) (below_size (hb_ HB.out))); have n2_ := Aside0.mk (bb_ BK587.out hb); have n3_ := Aside0.mk (below_step (hb_ HB.out) hb); clear HO590; clear BK587; clear HB; have HO590 := n0_; have HO594 := n1_; have BK587 := n2_; have HB := n3_; clear n0_ n1_ n2_ n3_; (try clear hb); (try clear hb2); (try clear hk); (try clear hi); (try clear ho0); obtain ⟨Ao15, co15, eo15⟩ := Kd.R_slice HO594.out; subst eo15) | ((with_reducible refine gate_callee (f := 65) rfl ?_); refine goesL_ (some 30) rfl rfl Try.func65 (by kernel_rfl) rfl #[.slice Ao15 t591.length co15, .int .i64 t592] rfl sm_ ?_; (with_reducible refine (impl_CmdOf.calls k _ _ t591 t592 t595 t596 t597 t598 t599 t600 t601 t602 t603 t604 _ ?side1 ?side2 A7.out).mono ?_); (case side1 => repeat (first | exact (Kd.R_reads' HO594.out).2.2 | (with_reducible refine Kd.C_alloc ?_ _) | (with_reducible refine Kd.C_drewN ?_ _) | (with_reducible refine Kd.C_drew ?_))); (case side2 => exact (Kd.R_reads' HO594.out).2.1); rintro e w16 ⟨rfl, hb⟩; refine ⟨_, rfl, ?_⟩; have n0_ := Aside0.mk (Kd.R_below (rq_ HO590.out) hb); have n1_ := Aside0.mk (Kd.R_below (rq_ HO594.out) hb); have n2_ := Aside0.mk (bb_ BK587.out hb); have n3_ := Aside0.mk (below_step (hb_ HB.out) hb); clear HO590; clear HO594; clear BK587; clear HB; have HO590 := n0_; have HO594 := n1_; have BK587 := n2_; have HB := n3_; clear n0_ n1_ n2_ n3_; (try clear hb); (try clear hb2); (try clear hk); (try clear hi)) | ((with_reducible refine gate_dst (N := 7) rfl ?_); (try (refine gate_guard (by rfl) ?_; dsimp only)); refine box_event ?hg (N := 7) ?hd (cs := #[.int .i64 0, .int .i64 0, .int .i64 0, .int .i64 0, .int .i64 0, .int .i64 0, .string (⟨#[]⟩ : ByteArray), .string (⟨#[]⟩ : ByteArray)]) (t := 95) ?hr ?_; (case hd => rfl); (case hg => rfl); (case hr => first | (go_simp; done) | (go_simp; rfl)); intro gb605 hg w17 hbox hb; have n0_ := Aside0.mk (Kd.R_below (rq_ HO590.out) hb); have n1_ := Aside0.mk (Kd.R_below (rq_ HO594.out) hb); have n2_ := Aside0.mk (bb_ BK587.out hb); have n3_ := Aside0.mk (below_step (hb_ HB.out) hb); have n4_ := Aside0.mk (hbox); have n5_ := Aside0.mk ((by rw [hg]; exact (below_size (hb_ HB.out)) : w.heap.size ≤ gb605)); have n6_ := Aside0.mk ((by rw [hg]; exact (below_size (hb_ HB.out)) : w.heap.size ≤ gb605)); have n7_ := Aside0.mk ((nl_ BK587.out hg : gb587 ≠ gb605)); have n8_ := Aside0.mk ((ng_ BK587.out hg : gb605 ≠ gb587)); clear HO590; clear HO594; clear BK587; clear HB; have HO590 := n0_; have HO594 := n1_; have BK587 := n2_; have HB := n3_; have BK605 := n4_; have GW605 := n5_; have GE605 := n6_; have NB587_605 := n7_; have NB605_587 := n8_; clear n0_ n1_ n2_ n3_ n4_ n5_ n6_ n7_ n8_; clear hb hbox hg; have hnb18 := NB605_587.out; have hnc18 := NB587_605.out; have hcz19_0 : w17.cell? ⟨gb605, 0, none⟩ = some (.int .i64 0) := bc_ BK605 0; have hcz19_1 : w17.cell? ⟨gb605, 1, none⟩ = some (.int .i64 0) := bc_ BK605 1; have hcz19_2 : w17.cell? ⟨gb605, 2, none⟩ = some (.int .i64 0) := bc_ BK605 2; have hcz19_3 : w17.cell? ⟨gb605, 3, none⟩ = some (.int .i64 0) := bc_ BK605 3; have hcz19_4 : w17.cell? ⟨gb605, 4, none⟩ = some (.int .i64 0) := bc_ BK605 4; have hcz19_5 : w17.cell? ⟨gb605, 5, none⟩ = some (.int .i64 0) := bc_ BK605 5; have hcz19_6 : w17.cell? ⟨gb605, 6, none⟩ = some (.string (⟨#[]⟩ : ByteArray)) := bc_ BK605 6; have hcz19_7 : w17.cell? ⟨gb605, 7, none⟩ = some (.string (⟨#[]⟩ : ByteArray)) := bc_ BK605 7; have hfz19_0 := blk_frozen BK605.out 0; have hfz19_1 := blk_frozen BK605.out 1; have hfz19_2 := blk_frozen BK605.out 2; have hfz19_3 := blk_frozen BK605.out 3; have hfz19_4 := blk_frozen BK605.out 4; have hfz19_5 := blk_frozen BK605.out 5; have hfz19_6 := blk_frozen BK605.out 6; have hfz19_7 := blk_frozen BK605.out 7) | ((with_reducible refine gate_callee (f := 66) rfl ?_); refine goesL_ (some 37) rfl rfl Try.func66 (by kernel_rfl) rfl #[.slice Ao15 t591.length co15, .int .i64 t592] rfl sm_ ?_; (with_reducible refine (spec_CmdOf.calls k _ _ t591 t592 t606 t607 t608 t609 t610 t611 t612 t613 t614 t615 _ ?side1 ?side2 A8.out).mono ?_); (case side1 => refine (Kd.R_reads' (e := 5) (base := w.heap.size) (ok := fun k_ => (True ∧ some k_ ≠ (v589 : Value).ownBlock)) (n := t591.length) (c := co15) ?_).2.2; exact (rk_ HO594.out BK605.out)); (case side2 => exact (Kd.R_reads' HO594.out).2.1); rintro e w20 ⟨rfl, hb⟩; refine ⟨_, rfl, ?_⟩; have n0_ := Aside0.mk (Kd.R_below (rk_ HO590.out BK605.out) hb); have n1_ := Aside0.mk (Kd.R_below (rk_ HO594.out BK605.out) hb); have n2_ := Aside0.mk (blk_below (g := gb587) (o := .cells #[.int .i64 t579, .int .i64 t580, .int .i64 t581, .int .i64 t582, .int .i64 t583, .int .i64 t584, .string t585, .string t586] 95 (0, 0)) (bf_ NB587_605.out BK587.out) hb); have n3_ := Aside0.mk (blk_below (g := gb605) (o := .cells #[.int .i64 t595, .int .i64 t596, .int .i64 t597, .int .i64 t598, .int .i64 t599, .int .i64 t600, .string t601, .string t602] 95 (0, 0)) (bp_ BK605.out) hb); have n4_ := Aside0.mk (below_step (hb_ HB.out) hb); clear HO590; clear HO594; clear BK587; clear BK605; clear HB; have HO590 := n0_; have HO594 := n1_; have BK587 := n2_; have BK605 := n3_; have HB := n4_; clear n0_ n1_ n2_ n3_ n4_; (try clear hb); (try clear hb2); (try clear hk); (try clear hi)) | ((with_reducible refine gate_dst (N := 10) rfl ?_); (try (refine gate_guard (by rfl) ?_; dsimp only)); refine box_event ?hg (N := 10) ?hd (cs := #[.int .i64 0, .int .i64 0, .int .i64 0, .int .i64 0, .int .i64 0, .int .i64 0, .string (⟨#[]⟩ : ByteArray), .string (⟨#[]⟩ : ByteArray)]) (t := 95) ?hr ?_; (case hd => rfl); (case hg => rfl); (case hr => first | (go_simp; done) | (go_simp; rfl)); intro gb616 hg w21 hbox hb; have n0_ := Aside0.mk (Kd.R_below (rq_ HO590.out) hb); have n1_ := Aside0.mk (Kd.R_below (rq_ HO594.out) hb); have n2_ := Aside0.mk (bb_ BK587.out hb); have n3_ := Aside0.mk (bb_ BK605.out hb); have n4_ := Aside0.mk (below_step (hb_ HB.out) hb); have n5_ := Aside0.mk (hbox); have n6_ := Aside0.mk ((by rw [hg]; exact (below_size (hb_ HB.out)) : w.heap.size ≤ gb616)); have n7_ := Aside0.mk ((by rw [hg]; exact (below_size (hb_ HB.out)) : w.heap.size ≤ gb616)); have n8_ := Aside0.mk ((nl_ BK587.out hg : gb587 ≠ gb616)); have n9_ := Aside0.mk ((ng_ BK587.out hg : gb616 ≠ gb587)); have n10_ := Aside0.mk ((nl_ BK605.out hg : gb605 ≠ gb616)); have n11_ := Aside0.mk ((ng_ BK605.out hg : gb616 ≠ gb605)); clear HO590; clear HO594; clear BK587; clear BK605; clear HB; have HO590 := n0_; have HO594 := n1_; have BK587 := n2_; have BK605 := n3_; have HB := n4_; have BK616 := n5_; have GW616 := n6_; have GE616 := n7_; have NB587_616 := n8_; have NB616_587 := n9_; have NB605_616 := n10_; have NB616_605 := n11_; clear n0_ n1_ n2_ n3_ n4_ n5_ n6_ n7_ n8_ n9_ n10_ n11_; clear hb hbox hg; have hnb22 := NB616_587.out; have hnc22 := NB587_616.out; have hnb23 := NB616_605.out; have hnc23 := NB605_616.out; have hcz24_0 : w21.cell? ⟨gb616, 0, none⟩ = some (.int .i64 0) := bc_ BK616 0; have hcz24_1 : w21.cell? ⟨gb616, 1, none⟩ = some (.int .i64 0) := bc_ BK616 1; have hcz24_2 : w21.cell? ⟨gb616, 2, none⟩ = some (.int .i64 0) := bc_ BK616 2; have hcz24_3 : w21.cell? ⟨gb616, 3, none⟩ = some (.int .i64 0) := bc_ BK616 3; have hcz24_4 : w21.cell? ⟨gb616, 4, none⟩ = some (.int .i64 0) := bc_ BK616 4; have hcz24_5 : w21.cell? ⟨gb616, 5, none⟩ = some (.int .i64 0) := bc_ BK616 5; have hcz24_6 : w21.cell? ⟨gb616, 6, none⟩ = some (.string (⟨#[]⟩ : ByteArray)) := bc_ BK616 6; have hcz24_7 : w21.cell? ⟨gb616, 7, none⟩ = some (.string (⟨#[]⟩ : ByteArray)) := bc_ BK616 7; have hfz24_0 := blk_frozen BK616.out 0; have hfz24_1 := blk_frozen BK616.out 1; have hfz24_2 := blk_frozen BK616.out 2; have hfz24_3 := blk_frozen BK616.out 3; have hfz24_4 := blk_frozen BK616.out 4; have hfz24_5 := blk_frozen BK616.out 5; have hfz24_6 := blk_frozen BK616.out 6; have hfz24_7 := blk_frozen BK616.out 7))
  (try simp only [Act.put, List.setIfInBounds_toArray, List.set_cons_zero, List.set_cons_succ])
  go_cut [69] (fun v69 wc => ∃ (kq : Nat) (x69_8 : Bool), v69 = .bool x69_8 ∧ Aside0 (laws_FnCmdBytes.j0 kq l0 t588 t591 t592 t603 t604 x69_8 t579 t580 t581 t582 t583 t584 t585 t586 t595 t596 t597 t598 t599 t600 t601 t602 = some r) ∧ Aside0 (kq ≤ k) ∧ Aside0 (Kd.R (Kd.int .u8) 5 wc w.heap.size (fun k_ => some k_ ≠ ((.slice Ao15 t591.length co15) : Value).ownBlock) v589 t588) ∧ Aside0 (Kd.R (Kd.int .u8) 5 wc w.heap.size (fun k_ => some k_ ≠ (v589 : Value).ownBlock) (.slice Ao15 t591.length co15) t591) ∧ Aside0 (wc.heap[gb587]? = some (.cells #[.int .i64 t579, .int .i64 t580, .int .i64 t581, .int .i64 t582, .int .i64 t583, .int .i64 t584, .string t585, .string t586] 95 (0, 0))) ∧ Aside0 (wc.heap[gb605]? = some (.cells #[.int .i64 t595, .int .i64 t596, .int .i64 t597, .int .i64 t598, .int .i64 t599, .int .i64 t600, .string t601, .string t602] 95 (0, 0))) ∧ Aside0 (wc.heap[gb616]? = some (.cells #[.int .i64 t606, .int .i64 t607, .int .i64 t608, .int .i64 t609, .int .i64 t610, .int .i64 t611, .string t612, .string t613] 95 (0, 0))) ∧ Aside0 (Below w.heap.size w wc))
  case first =>
   have H := HC9.out
   clear HC9
   replace H := Option.bind_eq_some_iff.mp H
   obtain ⟨t617, A250, H⟩ := H
   replace H : (if (strOfNums t588).toList = (strOfNums t617).toList then ((impl_CmdOk.f k t579 t580 t581 t582 t583 t584 t585 t586).bind fun t620 => (if ((decide ((t588.length : Int) > 0)) != t620) = true then (laws_FnCmdBytes.j0 k l0 t588 t591 t592 t603 t604 true t579 t580 t581 t582 t583 t584 t585 t586 t595 t596 t597 t598 t599 t600 t601 t602) else (if (t604 != t615) = true then (laws_FnCmdBytes.j0 k l0 t588 t591 t592 t603 t604 true t579 t580 t581 t582 t583 t584 t585 t586 t595 t596 t597 t598 t599 t600 t601 t602) else (if (!(t595 == t606) || (!(t596 == t607) || (!(t597 == t608) || (!(t598 == t609) || (!(t599 == t610) || (!(t600 == t611) || (!(t601.toList == t612.toList) || (!(t602.toList == t613.toList))))))))) = true then (laws_FnCmdBytes.j0 k l0 t588 t591 t592 t603 t604 true t579 t580 t581 t582 t583 t584 t585 t586 t595 t596 t597 t598 t599 t600 t601 t602) else (laws_FnCmdBytes.j0 k l0 t588 t591 t592 t603 t604 (t603 != t614) t579 t580 t581 t582 t583 t584 t585 t586 t595 t596 t597 t598 t599 t600 t601 t602))))) else (laws_FnCmdBytes.j0 k l0 t588 t591 t592 t603 t604 true t579 t580 t581 t582 t583 t584 t585 t586 t595 t596 t597 t598 t599 t600 t601 t602)) = some r := H
   have A25 := Aside0.mk A250
   clear A250
   by_cases c26 : (strOfNums t588).toList = (strOfNums t617).toList
   ·
    rw [if_pos c26] at H
    have c26b0 : ((strOfNums t588).toList == (strOfNums t617).toList) = true := beq_iff_eq.mpr c26
    have c26b1 : ((strOfNums t588).toList != (strOfNums t617).toList) = false := bne_eq_false_iff_eq.mpr c26
    clear c26
    (first | rw [c26b0] | (simp only [i64_w, i32_w]; rw [c26b0]) | rw [c26b4] | rw [c26b3] | skip)
    replace H := Option.bind_eq_some_iff.mp H
    obtain ⟨t620, A270, H⟩ := H
    replace H : (if ((decide ((t588.length : Int) > 0)) != t620) = true then (laws_FnCmdBytes.j0 k l0 t588 t591 t592 t603 t604 true t579 t580 t581 t582 t583 t584 t585 t586 t595 t596 t597 t598 t599 t600 t601 t602) else (if (t604 != t615) = true then (laws_FnCmdBytes.j0 k l0 t588 t591 t592 t603 t604 true t579 t580 t581 t582 t583 t584 t585 t586 t595 t596 t597 t598 t599 t600 t601 t602) else (if (!(t595 == t606) || (!(t596 == t607) || (!(t597 == t608) || (!(t598 == t609) || (!(t599 == t610) || (!(t600 == t611) || (!(t601.toList == t612.toList) || (!(t602.toList == t613.toList))))))))) = true then (laws_FnCmdBytes.j0 k l0 t588 t591 t592 t603 t604 true t579 t580 t581 t582 t583 t584 t585 t586 t595 t596 t597 t598 t599 t600 t601 t602) else (laws_FnCmdBytes.j0 k l0 t588 t591 t592 t603 t604 (t603 != t614) t579 t580 t581 t582 t583 t584 t585 t586 t595 t596 t597 t598 t599 t600 t601 t602)))) = some r := H
    have A27 := Aside0.mk A270
    clear A270
    by_cases c28 : ((decide ((t588.length : Int) > 0)) != t620) = true
    ·
     rw [if_pos c28] at H
     have c28b0 : ((decide ((t588.length : Int) > 0)) != t620) = true := c28
     (try (have c28b1 : decide ((decide ((t588.length : Int) > 0)) = t620) = false := by simpa using c28))
     (try (have c28b2 : ((decide ((t588.length : Int) > 0)) == t620) = false := by simpa using c28))
     (try (have c28b3 : ¬ ((decide ((t588.length : Int) > 0)) = t620) := by simpa using c28))
     (try (have c28b4 : (!((decide ((t588.length : Int) > 0)) == t620)) = true := (show ∀ a b : Bool, (a != b) = true → (!(a == b)) = true by decide) _ _ c28))
     (try (have c28b5 : (!((decide (0 < t588.length)) == t620)) = true := by rw [show decide (0 < t588.length) = decide ((t588.length : Int) > 0) from decide_eq_decide.mpr (by omega)]; exact (show ∀ a b : Bool, (a != b) = true → (!(a == b)) = true by decide) _ _ c28))
     clear c28
     have H' := Aside0.mk H
     clear H
     obtain ⟨Ao29, co29, eo29⟩ := Kd.R_slice HO590.out
     subst eo29
     try go_wp2
     have n0_ : Aside0 (Kd.R (Kd.int .u8) 5 ((((((((w21.setCell ⟨gb616, 0, none⟩ (.int .i64 t606)).setCell ⟨gb616, 1, none⟩ (.int .i64 t607)).setCell ⟨gb616, 2, none⟩ (.int .i64 t608)).setCell ⟨gb616, 3, none⟩ (.int .i64 t609)).setCell ⟨gb616, 4, none⟩ (.int .i64 t610)).setCell ⟨gb616, 5, none⟩ (.int .i64 t611)).setCell ⟨gb616, 6, none⟩ (.string t612)).setCell ⟨gb616, 7, none⟩ (.string t613)) w.heap.size (fun k_ => some k_ ≠ (.slice Ao15 t591.length co15 : Value).ownBlock) (.slice Ao29 t588.length co29) t588) := ⟨qf1_⟩
     have n1_ : Aside0 (Kd.R (Kd.int .u8) 5 ((((((((w21.setCell ⟨gb616, 0, none⟩ (.int .i64 t606)).setCell ⟨gb616, 1, none⟩ (.int .i64 t607)).setCell ⟨gb616, 2, none⟩ (.int .i64 t608)).setCell ⟨gb616, 3, none⟩ (.int .i64 t609)).setCell ⟨gb616, 4, none⟩ (.int .i64 t610)).setCell ⟨gb616, 5, none⟩ (.int .i64 t611)).setCell ⟨gb616, 6, none⟩ (.string t612)).setCell ⟨gb616, 7, none⟩ (.string t613)) w.heap.size (fun k_ => some k_ ≠ (.slice Ao29 t588.length co29 : Value).ownBlock) (.slice Ao15 t591.length co15) t591) := ⟨qf0_⟩
     have n2_ : Aside0 (((((((((w21.setCell ⟨gb616, 0, none⟩ (.int .i64 t606)).setCell ⟨gb616, 1, none⟩ (.int .i64 t607)).setCell ⟨gb616, 2, none⟩ (.int .i64 t608)).setCell ⟨gb616, 3, none⟩ (.int .i64 t609)).setCell ⟨gb616, 4, none⟩ (.int .i64 t610)).setCell ⟨gb616, 5, none⟩ (.int .i64 t611)).setCell ⟨gb616, 6, none⟩ (.string t612)).setCell ⟨gb616, 7, none⟩ (.string t613)).heap[gb587]? = some (.cells #[.int .i64 t579, .int .i64 t580, .int .i64 t581, .int .i64 t582, .int .i64 t583, .int .i64 t584, .string t585, .string t586] 95 (0, 0))) := ⟨bf_ NB587_616.out BK587.out⟩
     have n3_ : Aside0 (((((((((w21.setCell ⟨gb616, 0, none⟩ (.int .i64 t606)).setCell ⟨gb616, 1, none⟩ (.int .i64 t607)).setCell ⟨gb616, 2, none⟩ (.int .i64 t608)).setCell ⟨gb616, 3, none⟩ (.int .i64 t609)).setCell ⟨gb616, 4, none⟩ (.int .i64 t610)).setCell ⟨gb616, 5, none⟩ (.int .i64 t611)).setCell ⟨gb616, 6, none⟩ (.string t612)).setCell ⟨gb616, 7, none⟩ (.string t613)).heap[gb605]? = some (.cells #[.int .i64 t595, .int .i64 t596, .int .i64 t597, .int .i64 t598, .int .i64 t599, .int .i64 t600, .string t601, .string t602] 95 (0, 0))) := ⟨bf_ NB605_616.out BK605.out⟩
     have n4_ : Aside0 (((((((((w21.setCell ⟨gb616, 0, none⟩ (.int .i64 t606)).setCell ⟨gb616, 1, none⟩ (.int .i64 t607)).setCell ⟨gb616, 2, none⟩ (.int .i64 t608)).setCell ⟨gb616, 3, none⟩ (.int .i64 t609)).setCell ⟨gb616, 4, none⟩ (.int .i64 t610)).setCell ⟨gb616, 5, none⟩ (.int .i64 t611)).setCell ⟨gb616, 6, none⟩ (.string t612)).setCell ⟨gb616, 7, none⟩ (.string t613)).heap[gb616]? = some (.cells #[.int .i64 t606, .int .i64 t607, .int .i64 t608, .int .i64 t609, .int .i64 t610, .int .i64 t611, .string t612, .string t613] 95 (0, 0))) := ⟨bp_ BK616.out⟩
     have n5_ : Aside0 (Below w.heap.size w ((((((((w21.setCell ⟨gb616, 0, none⟩ (.int .i64 t606)).setCell ⟨gb616, 1, none⟩ (.int .i64 t607)).setCell ⟨gb616, 2, none⟩ (.int .i64 t608)).setCell ⟨gb616, 3, none⟩ (.int .i64 t609)).setCell ⟨gb616, 4, none⟩ (.int .i64 t610)).setCell ⟨gb616, 5, none⟩ (.int .i64 t611)).setCell ⟨gb616, 6, none⟩ (.string t612)).setCell ⟨gb616, 7, none⟩ (.string t613))) := ⟨hb_ HB.out⟩
     (try clear HO590)
     (try clear HO594)
     (try clear BK587)
     (try clear BK605)
     (try clear BK616)
     (try clear HB)
     generalize ((((((((w21.setCell ⟨gb616, 0, none⟩ (.int .i64 t606)).setCell ⟨gb616, 1, none⟩ (.int .i64 t607)).setCell ⟨gb616, 2, none⟩ (.int .i64 t608)).setCell ⟨gb616, 3, none⟩ (.int .i64 t609)).setCell ⟨gb616, 4, none⟩ (.int .i64 t610)).setCell ⟨gb616, 5, none⟩ (.int .i64 t611)).setCell ⟨gb616, 6, none⟩ (.string t612)).setCell ⟨gb616, 7, none⟩ (.string t613)) = w30 at n0_ n1_ n2_ n3_ n4_ n5_ ⊢
     have HO590 := n0_
     have HO594 := n1_
     have BK587 := n2_
     have BK605 := n3_
     have BK616 := n4_
     have HB := n5_
     clear n0_ n1_ n2_ n3_ n4_ n5_
     have n0_ := Aside0.mk (Kd.R_drew HO590.out)
     have n1_ := Aside0.mk (Kd.R_drew HO594.out)
     have n2_ := Aside0.mk (blk_drew BK587.out)
     have n3_ := Aside0.mk (blk_drew BK605.out)
     have n4_ := Aside0.mk (blk_drew BK616.out)
     have n5_ := Aside0.mk (below_drew1 HB.out)
     clear HO590; clear HO594
     clear BK587; clear BK605
     clear BK616; clear HB
     have HO590 := n0_
     have HO594 := n1_
     have BK587 := n2_
     have BK605 := n3_
     have BK616 := n4_
     have HB := n5_
     clear n0_ n1_ n2_ n3_ n4_ n5_
     refine start_ (n := 29) (S := fun w' => w'.cell? ⟨gb587, 0, none⟩ = some (.int .i64 t579) ∧ w'.cell? ⟨gb587, 1, none⟩ = some (.int .i64 t580) ∧ w'.cell? ⟨gb587, 2, none⟩ = some (.int .i64 t581) ∧ w'.cell? ⟨gb587, 3, none⟩ = some (.int .i64 t582) ∧ w'.cell? ⟨gb587, 4, none⟩ = some (.int .i64 t583) ∧ w'.cell? ⟨gb587, 5, none⟩ = some (.int .i64 t584) ∧ w'.cell? ⟨gb587, 6, none⟩ = some (.string t585) ∧ w'.cell? ⟨gb587, 7, none⟩ = some (.string t586)) (ds := []) laws_FnCmdBytes.m0 (by kernel_rfl) rfl rfl ⟨bc_ BK587 0, bc_ BK587 1, bc_ BK587 2, bc_ BK587 3, bc_ BK587 4, bc_ BK587 5, bc_ BK587 6, bc_ BK587 7⟩ (fun hHeld => ?_); refine with_tabW laws_FnCmdBytes.tab8 laws_FnCmdBytes.bits8 (fun HT_ HW_ => ?_)
     generalize w30.drew = w31 at HO590 HO594 BK587 BK605 BK616 HB hHeld ⊢
     refine pI_ 0 41 HT_ laws_FnCmdBytes.m1 rfl rfl ?_
     refine tk_ 2 43 HT_ HW_ laws_FnCmdBytes.m2 rfl rfl hHeld ?_
     refine join_ (σ := Value) 24 laws_FnCmdBytes.m3 (fun s_ => [(42, .string (strOfNums t588)), (44, s_), (45, .string (strOfNums t617))]) (fun s_ w' => (w'.cell? ⟨gb587, 0, none⟩ = some (.int .i64 t579) ∧ w'.cell? ⟨gb587, 1, none⟩ = some (.int .i64 t580) ∧ w'.cell? ⟨gb587, 2, none⟩ = some (.int .i64 t581) ∧ w'.cell? ⟨gb587, 3, none⟩ = some (.int .i64 t582) ∧ w'.cell? ⟨gb587, 4, none⟩ = some (.int .i64 t583) ∧ w'.cell? ⟨gb587, 5, none⟩ = some (.int .i64 t584) ∧ w'.cell? ⟨gb587, 6, none⟩ = some (.string t585) ∧ w'.cell? ⟨gb587, 7, none⟩ = some (.string t586)) ∧ (Kd.R (Kd.int .u8) 5 w' w.heap.size (fun k_ => some k_ ≠ (.slice Ao15 t591.length co15 : Value).ownBlock ∧ some k_ ≠ (s_ : Value).ownBlock) (.slice Ao29 t588.length co29) t588) ∧ (Kd.R (Kd.int .u8) 5 w' w.heap.size (fun k_ => some k_ ≠ (.slice Ao29 t588.length co29 : Value).ownBlock ∧ some k_ ≠ (s_ : Value).ownBlock) (.slice Ao15 t591.length co15) t591) ∧ (Kd.R (Kd.int .u8) 5 w' w.heap.size (fun k_ => some k_ ≠ (.slice Ao29 t588.length co29 : Value).ownBlock ∧ some k_ ≠ (.slice Ao15 t591.length co15 : Value).ownBlock) s_ t617) ∧ (w'.heap[gb587]? = some (.cells #[.int .i64 t579, .int .i64 t580, .int .i64 t581, .int .i64 t582, .int .i64 t583, .int .i64 t584, .string t585, .string t586] 95 (0, 0))) ∧ (w'.heap[gb605]? = some (.cells #[.int .i64 t595, .int .i64 t596, .int .i64 t597, .int .i64 t598, .int .i64 t599, .int .i64 t600, .string t601, .string t602] 95 (0, 0))) ∧ (w'.heap[gb616]? = some (.cells #[.int .i64 t606, .int .i64 t607, .int .i64 t608, .int .i64 t609, .int .i64 t610, .int .i64 t611, .string t612, .string t613] 95 (0, 0))) ∧ (Below w.heap.size w w')) ?_ ?_
     rotate_left
     ·
      intro hCont
      refine two_ (i := 1) (j := 3) (Ni := some 42) (Nj := some 44) laws_FnCmdBytes.m4 laws_FnCmdBytes.m5 rfl rfl rfl rfl (two_of HT_.out (by kernel_rfl)) (by decide) (by decide) (fun K hK => ?_) (fun K hK => ?_)
      ·
       skip
       have hcv32 := own_string (P := Try.prog) Try.underlying22 Try.underlying5 Try.underlying9 (Kd.own_of_R HO590.out)
       refine value_ (w1 := ?_) (v := ?_) (by rfl) rfl ?_ ?_
       rotate_left 2
       ·
        go_simp
        constructor
        ·
         rfl
        ·
         rfl
       clear hcv32
       refine hK.out _ _ ⟨bc_ BK587 0, bc_ BK587 1, bc_ BK587 2, bc_ BK587 3, bc_ BK587 4, bc_ BK587 5, bc_ BK587 6, bc_ BK587 7⟩ (fun hHeld => ?_)
       clear hK K
       refine nm_ ?_
       refine on_ 3 44 HT_ laws_FnCmdBytes.m6 rfl rfl (fun K hK => ?_)
       refine goes_ Try.func67 (by kernel_rfl) rfl #[.agg #[.int .i64 t579, .int .i64 t580, .int .i64 t581, .int .i64 t582, .int .i64 t583, .int .i64 t584, .string t585, .string t586]] (by rfl) rfl rfl sm_ ?_
       with_reducible refine (spec_CmdBytes.calls k t579 t580 t581 t582 t583 t584 t585 t586 t617 _ A25.out).mono ?_
       rintro e w33 ⟨v618, rfl, ho0, hb⟩
       refine ⟨_, rfl, ?_⟩
       have n0_ := Aside0.mk (Kd.R_elder' (rq_ HO590.out) (Kd.R_base ho0) hb)
       have n1_ := Aside0.mk (Kd.R_elder' (rq_ HO594.out) (Kd.R_base ho0) hb)
       have n2_ := Aside0.mk (Kd.R_lower (Kd.R_new' (Kd.R_new' ho0 (Kd.R_lt (rq_ HO590.out))) (Kd.R_lt (rq_ HO594.out))) (below_size (hb_ HB.out)))
       have n3_ := Aside0.mk (bb_ BK587.out hb)
       have n4_ := Aside0.mk (bb_ BK605.out hb)
       have n5_ := Aside0.mk (bb_ BK616.out hb)
       have n6_ := Aside0.mk (below_step (hb_ HB.out) hb)
       clear HO590; clear HO594
       clear BK587; clear BK605
       clear BK616; clear HB
       have HO590 := n0_
       have HO594 := n1_
       have HO619 := n2_
       have BK587 := n3_
       have BK605 := n4_
       have BK616 := n5_
       have HB := n6_
       clear n0_ n1_ n2_ n3_ n4_ n5_ n6_
       (try clear hb)
       (try clear hb2)
       (try clear hk)
       (try clear hi)
       (try clear ho0)
       refine hK.out _ _ ⟨bc_ BK587 0, bc_ BK587 1, bc_ BK587 2, bc_ BK587 3, bc_ BK587 4, bc_ BK587 5, bc_ BK587 6, bc_ BK587 7⟩ (fun hHeld => ?_)
       clear hK K
       refine nm_ ?_
       refine on_ 4 45 HT_ laws_FnCmdBytes.m3 rfl rfl (fun K hK => ?_)
       have hcv34 := own_string (P := Try.prog) Try.underlying22 Try.underlying5 Try.underlying9 (Kd.own_of_R HO619.out)
       refine value_ (w1 := ?_) (v := ?_) (by rfl) rfl ?_ ?_
       rotate_left 2
       ·
        go_simp
        constructor
        ·
         rfl
        ·
         rfl
       clear hcv34
       refine hK.out _ _ ⟨bc_ BK587 0, bc_ BK587 1, bc_ BK587 2, bc_ BK587 3, bc_ BK587 4, bc_ BK587 5, bc_ BK587 6, bc_ BK587 7⟩ (fun hHeld => ?_)
       clear hK K
       refine nm_ ?_
       exact norm_ (qf2_) (hCont (v618) _ ⟨hHeld, (rq_ HO590.out), (rq_ HO594.out), (rm_ HO619.out), (bq_ BK587.out), (bq_ BK605.out), (bq_ BK616.out), (hb_ HB.out)⟩)
      ·
       skip
       refine goes_ Try.func67 (by kernel_rfl) rfl #[.agg #[.int .i64 t579, .int .i64 t580, .int .i64 t581, .int .i64 t582, .int .i64 t583, .int .i64 t584, .string t585, .string t586]] (by rfl) rfl rfl sm_ ?_
       with_reducible refine (spec_CmdBytes.calls k t579 t580 t581 t582 t583 t584 t585 t586 t617 _ A25.out).mono ?_
       rintro e w32 ⟨v618, rfl, ho0, hb⟩
       refine ⟨_, rfl, ?_⟩
       have n0_ := Aside0.mk (Kd.R_elder' (rq_ HO590.out) (Kd.R_base ho0) hb)
       have n1_ := Aside0.mk (Kd.R_elder' (rq_ HO594.out) (Kd.R_base ho0) hb)
       have n2_ := Aside0.mk (Kd.R_lower (Kd.R_new' (Kd.R_new' ho0 (Kd.R_lt (rq_ HO590.out))) (Kd.R_lt (rq_ HO594.out))) (below_size (hb_ HB.out)))
       have n3_ := Aside0.mk (bb_ BK587.out hb)
       have n4_ := Aside0.mk (bb_ BK605.out hb)
       have n5_ := Aside0.mk (bb_ BK616.out hb)
       have n6_ := Aside0.mk (below_step (hb_ HB.out) hb)
       clear HO590; clear HO594
       clear BK587; clear BK605
       clear BK616; clear HB
       have HO590 := n0_
       have HO594 := n1_
       have HO619 := n2_
       have BK587 := n3_
       have BK605 := n4_
       have BK616 := n5_
       have HB := n6_
       clear n0_ n1_ n2_ n3_ n4_ n5_ n6_
       (try clear hb)
       (try clear hb2)
       (try clear hk)
       (try clear hi)
       (try clear ho0)
       refine hK.out _ _ ⟨bc_ BK587 0, bc_ BK587 1, bc_ BK587 2, bc_ BK587 3, bc_ BK587 4, bc_ BK587 5, bc_ BK587 6, bc_ BK587 7⟩ (fun hHeld => ?_)
       clear hK K
       refine nm_ ?_
       refine two_ (i := 1) (j := 4) (Ni := some 42) (Nj := some 45) laws_FnCmdBytes.m6 laws_FnCmdBytes.m7 rfl rfl rfl rfl (two_of HT_.out (by kernel_rfl)) (by decide) (by decide) (fun K hK => ?_) (fun K hK => ?_)
       ·
        skip
        have hcv33 := own_string (P := Try.prog) Try.underlying22 Try.underlying5 Try.underlying9 (Kd.own_of_R HO590.out)
        refine value_ (w1 := ?_) (v := ?_) (by rfl) rfl ?_ ?_
        rotate_left 2
        ·
         go_simp
         constructor
         ·
          rfl
         ·
          rfl
        clear hcv33
        refine hK.out _ _ ⟨bc_ BK587 0, bc_ BK587 1, bc_ BK587 2, bc_ BK587 3, bc_ BK587 4, bc_ BK587 5, bc_ BK587 6, bc_ BK587 7⟩ (fun hHeld => ?_)
        clear hK K
        refine nm_ ?_
        refine on_ 4 45 HT_ laws_FnCmdBytes.m3 rfl rfl (fun K hK => ?_)
        have hcv34 := own_string (P := Try.prog) Try.underlying22 Try.underlying5 Try.underlying9 (Kd.own_of_R HO619.out)
        refine value_ (w1 := ?_) (v := ?_) (by rfl) rfl ?_ ?_
        rotate_left 2
        ·
         go_simp
         constructor
         ·
          rfl
         ·
          rfl
        clear hcv34
        refine hK.out _ _ ⟨bc_ BK587 0, bc_ BK587 1, bc_ BK587 2, bc_ BK587 3, bc_ BK587 4, bc_ BK587 5, bc_ BK587 6, bc_ BK587 7⟩ (fun hHeld => ?_)
        clear hK K
        refine nm_ ?_
        exact norm_ (qf2_) (hCont (v618) _ ⟨hHeld, (rq_ HO590.out), (rq_ HO594.out), (rm_ HO619.out), (bq_ BK587.out), (bq_ BK605.out), (bq_ BK616.out), (hb_ HB.out)⟩)
       ·
        skip
        have hcv33 := own_string (P := Try.prog) Try.underlying22 Try.underlying5 Try.underlying9 (Kd.own_of_R HO619.out)
        refine value_ (w1 := ?_) (v := ?_) (by rfl) rfl ?_ ?_
        rotate_left 2
        ·
         go_simp
         constructor
         ·
          rfl
         ·
          rfl
        clear hcv33
        refine hK.out _ _ ⟨bc_ BK587 0, bc_ BK587 1, bc_ BK587 2, bc_ BK587 3, bc_ BK587 4, bc_ BK587 5, bc_ BK587 6, bc_ BK587 7⟩ (fun hHeld => ?_)
        clear hK K
        refine nm_ ?_
        refine on_ 1 42 HT_ laws_FnCmdBytes.m3 rfl rfl (fun K hK => ?_)
        have hcv34 := own_string (P := Try.prog) Try.underlying22 Try.underlying5 Try.underlying9 (Kd.own_of_R HO590.out)
        refine value_ (w1 := ?_) (v := ?_) (by rfl) rfl ?_ ?_
        rotate_left 2
        ·
         go_simp
         constructor
         ·
          rfl
         ·
          rfl
        clear hcv34
        refine hK.out _ _ ⟨bc_ BK587 0, bc_ BK587 1, bc_ BK587 2, bc_ BK587 3, bc_ BK587 4, bc_ BK587 5, bc_ BK587 6, bc_ BK587 7⟩ (fun hHeld => ?_)
        clear hK K
        refine nm_ ?_
        exact norm_ (qf2_) (hCont (v618) _ ⟨hHeld, (rq_ HO590.out), (rq_ HO594.out), (rm_ HO619.out), (bq_ BK587.out), (bq_ BK605.out), (bq_ BK616.out), (hb_ HB.out)⟩)
     rintro v618 w35 ⟨hS_, h0_, h1_, h2_, h3_, h4_, h5_, h6_⟩
     have n0_ : Aside0 (Kd.R (Kd.int .u8) 5 w35 w.heap.size (fun k_ => some k_ ≠ (.slice Ao15 t591.length co15 : Value).ownBlock ∧ some k_ ≠ (v618 : Value).ownBlock) (.slice Ao29 t588.length co29) t588) := ⟨h0_⟩
     have n1_ : Aside0 (Kd.R (Kd.int .u8) 5 w35 w.heap.size (fun k_ => some k_ ≠ (.slice Ao29 t588.length co29 : Value).ownBlock ∧ some k_ ≠ (v618 : Value).ownBlock) (.slice Ao15 t591.length co15) t591) := ⟨h1_⟩
     have n2_ : Aside0 (Kd.R (Kd.int .u8) 5 w35 w.heap.size (fun k_ => some k_ ≠ (.slice Ao29 t588.length co29 : Value).ownBlock ∧ some k_ ≠ (.slice Ao15 t591.length co15 : Value).ownBlock) v618 t617) := ⟨h2_⟩
     have n3_ : Aside0 (w35.heap[gb587]? = some (.cells #[.int .i64 t579, .int .i64 t580, .int .i64 t581, .int .i64 t582, .int .i64 t583, .int .i64 t584, .string t585, .string t586] 95 (0, 0))) := ⟨h3_⟩
     have n4_ : Aside0 (w35.heap[gb605]? = some (.cells #[.int .i64 t595, .int .i64 t596, .int .i64 t597, .int .i64 t598, .int .i64 t599, .int .i64 t600, .string t601, .string t602] 95 (0, 0))) := ⟨h4_⟩
     have n5_ : Aside0 (w35.heap[gb616]? = some (.cells #[.int .i64 t606, .int .i64 t607, .int .i64 t608, .int .i64 t609, .int .i64 t610, .int .i64 t611, .string t612, .string t613] 95 (0, 0))) := ⟨h5_⟩
     have n6_ : Aside0 (Below w.heap.size w w35) := ⟨h6_⟩
     clear HO590; clear HO594
     clear BK587; clear BK605
     clear BK616; clear HB
     clear h0_ h1_ h2_ h3_ h4_ h5_ h6_
     have HO590 := n0_
     have HO594 := n1_
     have HO619 := n2_
     have BK587 := n3_
     have BK605 := n4_
     have BK616 := n5_
     have HB := n6_
     clear n0_ n1_ n2_ n3_ n4_ n5_ n6_
     have hHeld : w35.cell? ⟨gb587, 0, none⟩ = some (.int .i64 t579) ∧ w35.cell? ⟨gb587, 1, none⟩ = some (.int .i64 t580) ∧ w35.cell? ⟨gb587, 2, none⟩ = some (.int .i64 t581) ∧ w35.cell? ⟨gb587, 3, none⟩ = some (.int .i64 t582) ∧ w35.cell? ⟨gb587, 4, none⟩ = some (.int .i64 t583) ∧ w35.cell? ⟨gb587, 5, none⟩ = some (.int .i64 t584) ∧ w35.cell? ⟨gb587, 6, none⟩ = some (.string t585) ∧ w35.cell? ⟨gb587, 7, none⟩ = some (.string t586) := hS_
     refine norm_ (a' := ?_) ?_ ?_
     rotate_left; (focus simp only [putAll, Act.put, List.setIfInBounds_toArray, List.set_cons_zero, List.set_cons_succ]; rfl)
     refine pI_ 5 46 HT_ laws_FnCmdBytes.m8 rfl rfl ?_
     refine pI_ 6 47 HT_ laws_FnCmdBytes.m9 rfl rfl ?_
     refine pI_ 7 48 HT_ laws_FnCmdBytes.m10 rfl rfl ?_
     refine pI_ 8 49 HT_ laws_FnCmdBytes.m11 rfl rfl ?_
     refine pI_ 9 50 HT_ laws_FnCmdBytes.m12 rfl rfl ?_
     refine tk_ 10 51 HT_ HW_ laws_FnCmdBytes.m13 rfl rfl hHeld ?_
     refine on_ 11 52 HT_ laws_FnCmdBytes.m14 rfl rfl (fun K hK => ?_)
     refine goes_ Try.func68 (by kernel_rfl) rfl #[.agg #[.int .i64 t579, .int .i64 t580, .int .i64 t581, .int .i64 t582, .int .i64 t583, .int .i64 t584, .string t585, .string t586]] (by rfl) rfl rfl sm_ ?_
     with_reducible refine (impl_CmdOk.calls k t579 t580 t581 t582 t583 t584 t585 t586 t620 _ A27.out).mono ?_
     rintro e w36 ⟨rfl, hb⟩
     refine ⟨_, rfl, ?_⟩
     have n0_ := Aside0.mk (Kd.R_below (rq_ HO590.out) hb)
     have n1_ := Aside0.mk (Kd.R_below (rq_ HO594.out) hb)
     have n2_ := Aside0.mk (Kd.R_below (rq_ HO619.out) hb)
     have n3_ := Aside0.mk (bb_ BK587.out hb)
     have n4_ := Aside0.mk (bb_ BK605.out hb)
     have n5_ := Aside0.mk (bb_ BK616.out hb)
     have n6_ := Aside0.mk (below_step (hb_ HB.out) hb)
     clear HO590; clear HO594
     clear HO619; clear BK587
     clear BK605; clear BK616
     clear HB
     have HO590 := n0_
     have HO594 := n1_
     have HO619 := n2_
     have BK587 := n3_
     have BK605 := n4_
     have BK616 := n5_
     have HB := n6_
     clear n0_ n1_ n2_ n3_ n4_ n5_ n6_
     (try clear hb)
     (try clear hb2)
     (try clear hk)
     (try clear hi)
     refine hK.out _ _ ⟨bc_ BK587 0, bc_ BK587 1, bc_ BK587 2, bc_ BK587 3, bc_ BK587 4, bc_ BK587 5, bc_ BK587 6, bc_ BK587 7⟩ (fun hHeld => ?_)
     clear hK K
     refine nm_ ?_
     refine pI_ 12 53 HT_ laws_FnCmdBytes.m15 rfl rfl ?_
     refine pI_ 13 54 HT_ laws_FnCmdBytes.m16 rfl rfl ?_
     refine pI_ 14 55 HT_ laws_FnCmdBytes.m17 rfl rfl ?_
     refine pU_ 15 56 HT_ laws_FnCmdBytes.m18 rfl rfl ?_
     refine pU_ 16 57 HT_ laws_FnCmdBytes.m19 rfl rfl ?_
     refine pU_ 17 58 HT_ laws_FnCmdBytes.m20 rfl rfl ?_
     refine pI_ 18 59 HT_ laws_FnCmdBytes.m21 rfl rfl ?_
     refine pI_ 19 60 HT_ laws_FnCmdBytes.m22 rfl rfl ?_
     refine pU_ 20 61 HT_ laws_FnCmdBytes.m23 rfl rfl ?_
     refine pU_ 21 62 HT_ laws_FnCmdBytes.m24 rfl rfl ?_
     refine pU_ 22 63 HT_ laws_FnCmdBytes.m25 rfl rfl ?_
     refine pI_ 23 64 HT_ laws_FnCmdBytes.m26 rfl rfl ?_
     refine pI_ 24 65 HT_ laws_FnCmdBytes.m27 rfl rfl ?_
     refine pU_ 25 66 HT_ laws_FnCmdBytes.m28 rfl rfl ?_
     refine pU_ 26 67 HT_ laws_FnCmdBytes.m29 rfl rfl ?_
     refine pU_ 27 68 HT_ laws_FnCmdBytes.m30 rfl rfl ?_
     refine pI_ 28 69 HT_ laws_FnCmdBytes.m31 rfl rfl ?_
     refine done_ (done_of HT_.out (by kernel_rfl)) ?_
     try go_wp2
     go_meet
     case rel => exact ⟨_, (true), (qf5_), H', ⟨qf7_⟩, ⟨rm_ HO590.out⟩, ⟨rm_ HO594.out⟩, ⟨bq_ BK587.out⟩, ⟨bq_ BK605.out⟩, ⟨bq_ BK616.out⟩, ⟨hb_ HB.out⟩⟩
    ·
     rw [if_neg c28] at H
     have c28b0 : ((decide ((t588.length : Int) > 0)) != t620) = false := by simpa using c28
     (try (have c28b1 : decide ((decide ((t588.length : Int) > 0)) = t620) = true := by simpa using c28))
     (try (have c28b2 : ((decide ((t588.length : Int) > 0)) == t620) = true := by simpa using c28))
     (try (have c28b3 : (!((decide ((t588.length : Int) > 0)) == t620)) = false := (show ∀ a b : Bool, ¬ (a != b) = true → (!(a == b)) = false by decide) _ _ c28))
     (try (have c28b4 : (!((decide (0 < t588.length)) == t620)) = false := by rw [show decide (0 < t588.length) = decide ((t588.length : Int) > 0) from decide_eq_decide.mpr (by omega)]; exact (show ∀ a b : Bool, ¬ (a != b) = true → (!(a == b)) = false by decide) _ _ c28))
     clear c28
     by_cases c37 : (t604 != t615) = true
     ·
      rw [if_pos c37] at H
      have c37b0 : (t604 != t615) = true := c37
      (try (have c37b1 : decide (t604 = t615) = false := by simpa using c37))
      (try (have c37b2 : (t604 == t615) = false := by simpa using c37))
      (try (have c37b3 : ¬ (t604 = t615) := by simpa using c37))
      (try (have c37b4 : (!(t604 == t615)) = true := (show ∀ a b : Bool, (a != b) = true → (!(a == b)) = true by decide) _ _ c37))
      clear c37
      have H' := Aside0.mk H
      clear H
      obtain ⟨Ao38, co38, eo38⟩ := Kd.R_slice HO590.out
      subst eo38
      try go_wp2
      have n0_ : Aside0 (Kd.R (Kd.int .u8) 5 ((((((((w21.setCell ⟨gb616, 0, none⟩ (.int .i64 t606)).setCell ⟨gb616, 1, none⟩ (.int .i64 t607)).setCell ⟨gb616, 2, none⟩ (.int .i64 t608)).setCell ⟨gb616, 3, none⟩ (.int .i64 t609)).setCell ⟨gb616, 4, none⟩ (.int .i64 t610)).setCell ⟨gb616, 5, none⟩ (.int .i64 t611)).setCell ⟨gb616, 6, none⟩ (.string t612)).setCell ⟨gb616, 7, none⟩ (.string t613)) w.heap.size (fun k_ => some k_ ≠ (.slice Ao15 t591.length co15 : Value).ownBlock) (.slice Ao38 t588.length co38) t588) := ⟨qf1_⟩
      have n1_ : Aside0 (Kd.R (Kd.int .u8) 5 ((((((((w21.setCell ⟨gb616, 0, none⟩ (.int .i64 t606)).setCell ⟨gb616, 1, none⟩ (.int .i64 t607)).setCell ⟨gb616, 2, none⟩ (.int .i64 t608)).setCell ⟨gb616, 3, none⟩ (.int .i64 t609)).setCell ⟨gb616, 4, none⟩ (.int .i64 t610)).setCell ⟨gb616, 5, none⟩ (.int .i64 t611)).setCell ⟨gb616, 6, none⟩ (.string t612)).setCell ⟨gb616, 7, none⟩ (.string t613)) w.heap.size (fun k_ => some k_ ≠ (.slice Ao38 t588.length co38 : Value).ownBlock) (.slice Ao15 t591.length co15) t591) := ⟨qf0_⟩
      have n2_ : Aside0 (((((((((w21.setCell ⟨gb616, 0, none⟩ (.int .i64 t606)).setCell ⟨gb616, 1, none⟩ (.int .i64 t607)).setCell ⟨gb616, 2, none⟩ (.int .i64 t608)).setCell ⟨gb616, 3, none⟩ (.int .i64 t609)).setCell ⟨gb616, 4, none⟩ (.int .i64 t610)).setCell ⟨gb616, 5, none⟩ (.int .i64 t611)).setCell ⟨gb616, 6, none⟩ (.string t612)).setCell ⟨gb616, 7, none⟩ (.string t613)).heap[gb587]? = some (.cells #[.int .i64 t579, .int .i64 t580, .int .i64 t581, .int .i64 t582, .int .i64 t583, .int .i64 t584, .string t585, .string t586] 95 (0, 0))) := ⟨bf_ NB587_616.out BK587.out⟩
      have n3_ : Aside0 (((((((((w21.setCell ⟨gb616, 0, none⟩ (.int .i64 t606)).setCell ⟨gb616, 1, none⟩ (.int .i64 t607)).setCell ⟨gb616, 2, none⟩ (.int .i64 t608)).setCell ⟨gb616, 3, none⟩ (.int .i64 t609)).setCell ⟨gb616, 4, none⟩ (.int .i64 t610)).setCell ⟨gb616, 5, none⟩ (.int .i64 t611)).setCell ⟨gb616, 6, none⟩ (.string t612)).setCell ⟨gb616, 7, none⟩ (.string t613)).heap[gb605]? = some (.cells #[.int .i64 t595, .int .i64 t596, .int .i64 t597, .int .i64 t598, .int .i64 t599, .int .i64 t600, .string t601, .string t602] 95 (0, 0))) := ⟨bf_ NB605_616.out BK605.out⟩
      have n4_ : Aside0 (((((((((w21.setCell ⟨gb616, 0, none⟩ (.int .i64 t606)).setCell ⟨gb616, 1, none⟩ (.int .i64 t607)).setCell ⟨gb616, 2, none⟩ (.int .i64 t608)).setCell ⟨gb616, 3, none⟩ (.int .i64 t609)).setCell ⟨gb616, 4, none⟩ (.int .i64 t610)).setCell ⟨gb616, 5, none⟩ (.int .i64 t611)).setCell ⟨gb616, 6, none⟩ (.string t612)).setCell ⟨gb616, 7, none⟩ (.string t613)).heap[gb616]? = some (.cells #[.int .i64 t606, .int .i64 t607, .int .i64 t608, .int .i64 t609, .int .i64 t610, .int .i64 t611, .string t612, .string t613] 95 (0, 0))) := ⟨bp_ BK616.out⟩
      have n5_ : Aside0 (Below w.heap.size w ((((((((w21.setCell ⟨gb616, 0, none⟩ (.int .i64 t606)).setCell ⟨gb616, 1, none⟩ (.int .i64 t607)).setCell ⟨gb616, 2, none⟩ (.int .i64 t608)).setCell ⟨gb616, 3, none⟩ (.int .i64 t609)).setCell ⟨gb616, 4, none⟩ (.int .i64 t610)).setCell ⟨gb616, 5, none⟩ (.int .i64 t611)).setCell ⟨gb616, 6, none⟩ (.string t612)).setCell ⟨gb616, 7, none⟩ (.string t613))) := ⟨hb_ HB.out⟩
      (try clear HO590)
      (try clear HO594)
      (try clear BK587)
      (try clear BK605)
      (try clear BK616)
      (try clear HB)
      generalize ((((((((w21.setCell ⟨gb616, 0, none⟩ (.int .i64 t606)).setCell ⟨gb616, 1, none⟩ (.int .i64 t607)).setCell ⟨gb616, 2, none⟩ (.int .i64 t608)).setCell ⟨gb616, 3, none⟩ (.int .i64 t609)).setCell ⟨gb616, 4, none⟩ (.int .i64 t610)).setCell ⟨gb616, 5, none⟩ (.int .i64 t611)).setCell ⟨gb616, 6, none⟩ (.string t612)).setCell ⟨gb616, 7, none⟩ (.string t613)) = w39 at n0_ n1_ n2_ n3_ n4_ n5_ ⊢
      have HO590 := n0_
      have HO594 := n1_
      have BK587 := n2_
      have BK605 := n3_
      have BK616 := n4_
      have HB := n5_
      clear n0_ n1_ n2_ n3_ n4_ n5_
      have n0_ := Aside0.mk (Kd.R_drew HO590.out)
      have n1_ := Aside0.mk (Kd.R_drew HO594.out)
      have n2_ := Aside0.mk (blk_drew BK587.out)
      have n3_ := Aside0.mk (blk_drew BK605.out)
      have n4_ := Aside0.mk (blk_drew BK616.out)
      have n5_ := Aside0.mk (below_drew1 HB.out)
      clear HO590; clear HO594
      clear BK587; clear BK605
      clear BK616; clear HB
      have HO590 := n0_
      have HO594 := n1_
      have BK587 := n2_
      have BK605 := n3_
      have BK616 := n4_
      have HB := n5_
      clear n0_ n1_ n2_ n3_ n4_ n5_
      refine start_ (n := 29) (S := fun w' => w'.cell? ⟨gb587, 0, none⟩ = some (.int .i64 t579) ∧ w'.cell? ⟨gb587, 1, none⟩ = some (.int .i64 t580) ∧ w'.cell? ⟨gb587, 2, none⟩ = some (.int .i64 t581) ∧ w'.cell? ⟨gb587, 3, none⟩ = some (.int .i64 t582) ∧ w'.cell? ⟨gb587, 4, none⟩ = some (.int .i64 t583) ∧ w'.cell? ⟨gb587, 5, none⟩ = some (.int .i64 t584) ∧ w'.cell? ⟨gb587, 6, none⟩ = some (.string t585) ∧ w'.cell? ⟨gb587, 7, none⟩ = some (.string t586)) (ds := []) laws_FnCmdBytes.m0 (by kernel_rfl) rfl rfl ⟨bc_ BK587 0, bc_ BK587 1, bc_ BK587 2, bc_ BK587 3, bc_ BK587 4, bc_ BK587 5, bc_ BK587 6, bc_ BK587 7⟩ (fun hHeld => ?_); refine with_tabW laws_FnCmdBytes.tab8 laws_FnCmdBytes.bits8 (fun HT_ HW_ => ?_)
      generalize w39.drew = w40 at HO590 HO594 BK587 BK605 BK616 HB hHeld ⊢
      refine pI_ 0 41 HT_ laws_FnCmdBytes.m1 rfl rfl ?_
      refine tk_ 2 43 HT_ HW_ laws_FnCmdBytes.m2 rfl rfl hHeld ?_
      refine join_ (σ := Value) 24 laws_FnCmdBytes.m3 (fun s_ => [(42, .string (strOfNums t588)), (44, s_), (45, .string (strOfNums t617))]) (fun s_ w' => (w'.cell? ⟨gb587, 0, none⟩ = some (.int .i64 t579) ∧ w'.cell? ⟨gb587, 1, none⟩ = some (.int .i64 t580) ∧ w'.cell? ⟨gb587, 2, none⟩ = some (.int .i64 t581) ∧ w'.cell? ⟨gb587, 3, none⟩ = some (.int .i64 t582) ∧ w'.cell? ⟨gb587, 4, none⟩ = some (.int .i64 t583) ∧ w'.cell? ⟨gb587, 5, none⟩ = some (.int .i64 t584) ∧ w'.cell? ⟨gb587, 6, none⟩ = some (.string t585) ∧ w'.cell? ⟨gb587, 7, none⟩ = some (.string t586)) ∧ (Kd.R (Kd.int .u8) 5 w' w.heap.size (fun k_ => some k_ ≠ (.slice Ao15 t591.length co15 : Value).ownBlock ∧ some k_ ≠ (s_ : Value).ownBlock) (.slice Ao38 t588.length co38) t588) ∧ (Kd.R (Kd.int .u8) 5 w' w.heap.size (fun k_ => some k_ ≠ (.slice Ao38 t588.length co38 : Value).ownBlock ∧ some k_ ≠ (s_ : Value).ownBlock) (.slice Ao15 t591.length co15) t591) ∧ (Kd.R (Kd.int .u8) 5 w' w.heap.size (fun k_ => some k_ ≠ (.slice Ao38 t588.length co38 : Value).ownBlock ∧ some k_ ≠ (.slice Ao15 t591.length co15 : Value).ownBlock) s_ t617) ∧ (w'.heap[gb587]? = some (.cells #[.int .i64 t579, .int .i64 t580, .int .i64 t581, .int .i64 t582, .int .i64 t583, .int .i64 t584, .string t585, .string t586] 95 (0, 0))) ∧ (w'.heap[gb605]? = some (.cells #[.int .i64 t595, .int .i64 t596, .int .i64 t597, .int .i64 t598, .int .i64 t599, .int .i64 t600, .string t601, .string t602] 95 (0, 0))) ∧ (w'.heap[gb616]? = some (.cells #[.int .i64 t606, .int .i64 t607, .int .i64 t608, .int .i64 t609, .int .i64 t610, .int .i64 t611, .string t612, .string t613] 95 (0, 0))) ∧ (Below w.heap.size w w')) ?_ ?_
      rotate_left
      ·
       intro hCont
       refine two_ (i := 1) (j := 3) (Ni := some 42) (Nj := some 44) laws_FnCmdBytes.m4 laws_FnCmdBytes.m5 rfl rfl rfl rfl (two_of HT_.out (by kernel_rfl)) (by decide) (by decide) (fun K hK => ?_) (fun K hK => ?_)
       ·
        skip
        have hcv41 := own_string (P := Try.prog) Try.underlying22 Try.underlying5 Try.underlying9 (Kd.own_of_R HO590.out)
        refine value_ (w1 := ?_) (v := ?_) (by rfl) rfl ?_ ?_
        rotate_left 2
        ·
         go_simp
         constructor
         ·
          rfl
         ·
          rfl
        clear hcv41
        refine hK.out _ _ ⟨bc_ BK587 0, bc_ BK587 1, bc_ BK587 2, bc_ BK587 3, bc_ BK587 4, bc_ BK587 5, bc_ BK587 6, bc_ BK587 7⟩ (fun hHeld => ?_)
        clear hK K
        refine nm_ ?_
        refine on_ 3 44 HT_ laws_FnCmdBytes.m6 rfl rfl (fun K hK => ?_)
        refine goes_ Try.func67 (by kernel_rfl) rfl #[.agg #[.int .i64 t579, .int .i64 t580, .int .i64 t581, .int .i64 t582, .int .i64 t583, .int .i64 t584, .string t585, .string t586]] (by rfl) rfl rfl sm_ ?_
        with_reducible refine (spec_CmdBytes.calls k t579 t580 t581 t582 t583 t584 t585 t586 t617 _ A25.out).mono ?_
        rintro e w42 ⟨v618, rfl, ho0, hb⟩
        refine ⟨_, rfl, ?_⟩
        have n0_ := Aside0.mk (Kd.R_elder' (rq_ HO590.out) (Kd.R_base ho0) hb)
        have n1_ := Aside0.mk (Kd.R_elder' (rq_ HO594.out) (Kd.R_base ho0) hb)
        have n2_ := Aside0.mk (Kd.R_lower (Kd.R_new' (Kd.R_new' ho0 (Kd.R_lt (rq_ HO590.out))) (Kd.R_lt (rq_ HO594.out))) (below_size (hb_ HB.out)))
        have n3_ := Aside0.mk (bb_ BK587.out hb)
        have n4_ := Aside0.mk (bb_ BK605.out hb)
        have n5_ := Aside0.mk (bb_ BK616.out hb)
        have n6_ := Aside0.mk (below_step (hb_ HB.out) hb)
        clear HO590; clear HO594
        clear BK587; clear BK605
        clear BK616; clear HB
        have HO590 := n0_
        have HO594 := n1_
        have HO619 := n2_
        have BK587 := n3_
        have BK605 := n4_
        have BK616 := n5_
        have HB := n6_
        clear n0_ n1_ n2_ n3_ n4_ n5_ n6_
        (try clear hb)
        (try clear hb2)
        (try clear hk)
        (try clear hi)
        (try clear ho0)
        refine hK.out _ _ ⟨bc_ BK587 0, bc_ BK587 1, bc_ BK587 2, bc_ BK587 3, bc_ BK587 4, bc_ BK587 5, bc_ BK587 6, bc_ BK587 7⟩ (fun hHeld => ?_)
        clear hK K
        refine nm_ ?_
        refine on_ 4 45 HT_ laws_FnCmdBytes.m3 rfl rfl (fun K hK => ?_)
        have hcv43 := own_string (P := Try.prog) Try.underlying22 Try.underlying5 Try.underlying9 (Kd.own_of_R HO619.out)
        refine value_ (w1 := ?_) (v := ?_) (by rfl) rfl ?_ ?_
        rotate_left 2
        ·
         go_simp
         constructor
         ·
          rfl
         ·
          rfl
        clear hcv43
        refine hK.out _ _ ⟨bc_ BK587 0, bc_ BK587 1, bc_ BK587 2, bc_ BK587 3, bc_ BK587 4, bc_ BK587 5, bc_ BK587 6, bc_ BK587 7⟩ (fun hHeld => ?_)
        clear hK K
        refine nm_ ?_
        exact norm_ (qf2_) (hCont (v618) _ ⟨hHeld, (rq_ HO590.out), (rq_ HO594.out), (rm_ HO619.out), (bq_ BK587.out), (bq_ BK605.out), (bq_ BK616.out), (hb_ HB.out)⟩)
       ·
        skip
        refine goes_ Try.func67 (by kernel_rfl) rfl #[.agg #[.int .i64 t579, .int .i64 t580, .int .i64 t581, .int .i64 t582, .int .i64 t583, .int .i64 t584, .string t585, .string t586]] (by rfl) rfl rfl sm_ ?_
        with_reducible refine (spec_CmdBytes.calls k t579 t580 t581 t582 t583 t584 t585 t586 t617 _ A25.out).mono ?_
        rintro e w41 ⟨v618, rfl, ho0, hb⟩
        refine ⟨_, rfl, ?_⟩
        have n0_ := Aside0.mk (Kd.R_elder' (rq_ HO590.out) (Kd.R_base ho0) hb)
        have n1_ := Aside0.mk (Kd.R_elder' (rq_ HO594.out) (Kd.R_base ho0) hb)
        have n2_ := Aside0.mk (Kd.R_lower (Kd.R_new' (Kd.R_new' ho0 (Kd.R_lt (rq_ HO590.out))) (Kd.R_lt (rq_ HO594.out))) (below_size (hb_ HB.out)))
        have n3_ := Aside0.mk (bb_ BK587.out hb)
        have n4_ := Aside0.mk (bb_ BK605.out hb)
        have n5_ := Aside0.mk (bb_ BK616.out hb)
        have n6_ := Aside0.mk (below_step (hb_ HB.out) hb)
        clear HO590; clear HO594
        clear BK587; clear BK605
        clear BK616; clear HB
        have HO590 := n0_
        have HO594 := n1_
        have HO619 := n2_
        have BK587 := n3_
        have BK605 := n4_
        have BK616 := n5_
        have HB := n6_
        clear n0_ n1_ n2_ n3_ n4_ n5_ n6_
        (try clear hb)
        (try clear hb2)
        (try clear hk)
        (try clear hi)
        (try clear ho0)
        refine hK.out _ _ ⟨bc_ BK587 0, bc_ BK587 1, bc_ BK587 2, bc_ BK587 3, bc_ BK587 4, bc_ BK587 5, bc_ BK587 6, bc_ BK587 7⟩ (fun hHeld => ?_)
        clear hK K
        refine nm_ ?_
        refine two_ (i := 1) (j := 4) (Ni := some 42) (Nj := some 45) laws_FnCmdBytes.m6 laws_FnCmdBytes.m7 rfl rfl rfl rfl (two_of HT_.out (by kernel_rfl)) (by decide) (by decide) (fun K hK => ?_) (fun K hK => ?_)
        ·
         skip
         have hcv42 := own_string (P := Try.prog) Try.underlying22 Try.underlying5 Try.underlying9 (Kd.own_of_R HO590.out)
         refine value_ (w1 := ?_) (v := ?_) (by rfl) rfl ?_ ?_
         rotate_left 2
         ·
          go_simp
          constructor
          ·
           rfl
          ·
           rfl
         clear hcv42
         refine hK.out _ _ ⟨bc_ BK587 0, bc_ BK587 1, bc_ BK587 2, bc_ BK587 3, bc_ BK587 4, bc_ BK587 5, bc_ BK587 6, bc_ BK587 7⟩ (fun hHeld => ?_)
         clear hK K
         refine nm_ ?_
         refine on_ 4 45 HT_ laws_FnCmdBytes.m3 rfl rfl (fun K hK => ?_)
         have hcv43 := own_string (P := Try.prog) Try.underlying22 Try.underlying5 Try.underlying9 (Kd.own_of_R HO619.out)
         refine value_ (w1 := ?_) (v := ?_) (by rfl) rfl ?_ ?_
         rotate_left 2
         ·
          go_simp
          constructor
          ·
           rfl
          ·
           rfl
         clear hcv43
         refine hK.out _ _ ⟨bc_ BK587 0, bc_ BK587 1, bc_ BK587 2, bc_ BK587 3, bc_ BK587 4, bc_ BK587 5, bc_ BK587 6, bc_ BK587 7⟩ (fun hHeld => ?_)
         clear hK K
         refine nm_ ?_
         exact norm_ (qf2_) (hCont (v618) _ ⟨hHeld, (rq_ HO590.out), (rq_ HO594.out), (rm_ HO619.out), (bq_ BK587.out), (bq_ BK605.out), (bq_ BK616.out), (hb_ HB.out)⟩)
        ·
         skip
         have hcv42 := own_string (P := Try.prog) Try.underlying22 Try.underlying5 Try.underlying9 (Kd.own_of_R HO619.out)
         refine value_ (w1 := ?_) (v := ?_) (by rfl) rfl ?_ ?_
         rotate_left 2
         ·
          go_simp
          constructor
          ·
           rfl
          ·
           rfl
         clear hcv42
         refine hK.out _ _ ⟨bc_ BK587 0, bc_ BK587 1, bc_ BK587 2, bc_ BK587 3, bc_ BK587 4, bc_ BK587 5, bc_ BK587 6, bc_ BK587 7⟩ (fun hHeld => ?_)
         clear hK K
         refine nm_ ?_
         refine on_ 1 42 HT_ laws_FnCmdBytes.m3 rfl rfl (fun K hK => ?_)
         have hcv43 := own_string (P := Try.prog) Try.underlying22 Try.underlying5 Try.underlying9 (Kd.own_of_R HO590.out)
         refine value_ (w1 := ?_) (v := ?_) (by rfl) rfl ?_ ?_
         rotate_left 2
         ·
          go_simp
          constructor
          ·
           rfl
          ·
           rfl
         clear hcv43
         refine hK.out _ _ ⟨bc_ BK587 0, bc_ BK587 1, bc_ BK587 2, bc_ BK587 3, bc_ BK587 4, bc_ BK587 5, bc_ BK587 6, bc_ BK587 7⟩ (fun hHeld => ?_)
         clear hK K
         refine nm_ ?_
         exact norm_ (qf2_) (hCont (v618) _ ⟨hHeld, (rq_ HO590.out), (rq_ HO594.out), (rm_ HO619.out), (bq_ BK587.out), (bq_ BK605.out), (bq_ BK616.out), (hb_ HB.out)⟩)
      rintro v618 w44 ⟨hS_, h0_, h1_, h2_, h3_, h4_, h5_, h6_⟩
      have n0_ : Aside0 (Kd.R (Kd.int .u8) 5 w44 w.heap.size (fun k_ => some k_ ≠ (.slice Ao15 t591.length co15 : Value).ownBlock ∧ some k_ ≠ (v618 : Value).ownBlock) (.slice Ao38 t588.length co38) t588) := ⟨h0_⟩
      have n1_ : Aside0 (Kd.R (Kd.int .u8) 5 w44 w.heap.size (fun k_ => some k_ ≠ (.slice Ao38 t588.length co38 : Value).ownBlock ∧ some k_ ≠ (v618 : Value).ownBlock) (.slice Ao15 t591.length co15) t591) := ⟨h1_⟩
      have n2_ : Aside0 (Kd.R (Kd.int .u8) 5 w44 w.heap.size (fun k_ => some k_ ≠ (.slice Ao38 t588.length co38 : Value).ownBlock ∧ some k_ ≠ (.slice Ao15 t591.length co15 : Value).ownBlock) v618 t617) := ⟨h2_⟩
      have n3_ : Aside0 (w44.heap[gb587]? = some (.cells #[.int .i64 t579, .int .i64 t580, .int .i64 t581, .int .i64 t582, .int .i64 t583, .int .i64 t584, .string t585, .string t586] 95 (0, 0))) := ⟨h3_⟩
      have n4_ : Aside0 (w44.heap[gb605]? = some (.cells #[.int .i64 t595, .int .i64 t596, .int .i64 t597, .int .i64 t598, .int .i64 t599, .int .i64 t600, .string t601, .string t602] 95 (0, 0))) := ⟨h4_⟩
      have n5_ : Aside0 (w44.heap[gb616]? = some (.cells #[.int .i64 t606, .int .i64 t607, .int .i64 t608, .int .i64 t609, .int .i64 t610, .int .i64 t611, .string t612, .string t613] 95 (0, 0))) := ⟨h5_⟩
      have n6_ : Aside0 (Below w.heap.size w w44) := ⟨h6_⟩
      clear HO590; clear HO594
      clear BK587; clear BK605
      clear BK616; clear HB
      clear h0_ h1_ h2_ h3_ h4_ h5_ h6_
      have HO590 := n0_
      have HO594 := n1_
      have HO619 := n2_
      have BK587 := n3_
      have BK605 := n4_
      have BK616 := n5_
      have HB := n6_
      clear n0_ n1_ n2_ n3_ n4_ n5_ n6_
      have hHeld : w44.cell? ⟨gb587, 0, none⟩ = some (.int .i64 t579) ∧ w44.cell? ⟨gb587, 1, none⟩ = some (.int .i64 t580) ∧ w44.cell? ⟨gb587, 2, none⟩ = some (.int .i64 t581) ∧ w44.cell? ⟨gb587, 3, none⟩ = some (.int .i64 t582) ∧ w44.cell? ⟨gb587, 4, none⟩ = some (.int .i64 t583) ∧ w44.cell? ⟨gb587, 5, none⟩ = some (.int .i64 t584) ∧ w44.cell? ⟨gb587, 6, none⟩ = some (.string t585) ∧ w44.cell? ⟨gb587, 7, none⟩ = some (.string t586) := hS_
      refine norm_ (a' := ?_) ?_ ?_
      rotate_left; (focus simp only [putAll, Act.put, List.setIfInBounds_toArray, List.set_cons_zero, List.set_cons_succ]; rfl)
      refine pI_ 5 46 HT_ laws_FnCmdBytes.m8 rfl rfl ?_
      refine pI_ 6 47 HT_ laws_FnCmdBytes.m9 rfl rfl ?_
      refine pI_ 7 48 HT_ laws_FnCmdBytes.m10 rfl rfl ?_
      refine pI_ 8 49 HT_ laws_FnCmdBytes.m11 rfl rfl ?_
      refine pI_ 9 50 HT_ laws_FnCmdBytes.m12 rfl rfl ?_
      refine tk_ 10 51 HT_ HW_ laws_FnCmdBytes.m13 rfl rfl hHeld ?_
      refine on_ 11 52 HT_ laws_FnCmdBytes.m14 rfl rfl (fun K hK => ?_)
      refine goes_ Try.func68 (by kernel_rfl) rfl #[.agg #[.int .i64 t579, .int .i64 t580, .int .i64 t581, .int .i64 t582, .int .i64 t583, .int .i64 t584, .string t585, .string t586]] (by rfl) rfl rfl sm_ ?_
      with_reducible refine (impl_CmdOk.calls k t579 t580 t581 t582 t583 t584 t585 t586 t620 _ A27.out).mono ?_
      rintro e w45 ⟨rfl, hb⟩
      refine ⟨_, rfl, ?_⟩
      have n0_ := Aside0.mk (Kd.R_below (rq_ HO590.out) hb)
      have n1_ := Aside0.mk (Kd.R_below (rq_ HO594.out) hb)
      have n2_ := Aside0.mk (Kd.R_below (rq_ HO619.out) hb)
      have n3_ := Aside0.mk (bb_ BK587.out hb)
      have n4_ := Aside0.mk (bb_ BK605.out hb)
      have n5_ := Aside0.mk (bb_ BK616.out hb)
      have n6_ := Aside0.mk (below_step (hb_ HB.out) hb)
      clear HO590; clear HO594
      clear HO619; clear BK587
      clear BK605; clear BK616
      clear HB
      have HO590 := n0_
      have HO594 := n1_
      have HO619 := n2_
      have BK587 := n3_
      have BK605 := n4_
      have BK616 := n5_
      have HB := n6_
      clear n0_ n1_ n2_ n3_ n4_ n5_ n6_
      (try clear hb)
      (try clear hb2)
      (try clear hk)
      (try clear hi)
      refine hK.out _ _ ⟨bc_ BK587 0, bc_ BK587 1, bc_ BK587 2, bc_ BK587 3, bc_ BK587 4, bc_ BK587 5, bc_ BK587 6, bc_ BK587 7⟩ (fun hHeld => ?_)
      clear hK K
      refine nm_ ?_
      refine pI_ 12 53 HT_ laws_FnCmdBytes.m15 rfl rfl ?_
      refine pI_ 13 54 HT_ laws_FnCmdBytes.m16 rfl rfl ?_
      refine pI_ 14 55 HT_ laws_FnCmdBytes.m17 rfl rfl ?_
      refine pI_ 15 56 HT_ laws_FnCmdBytes.m18 rfl rfl ?_
      refine pI_ 16 57 HT_ laws_FnCmdBytes.m19 rfl rfl ?_
      refine pI_ 17 58 HT_ laws_FnCmdBytes.m20 rfl rfl ?_
      refine pI_ 18 59 HT_ laws_FnCmdBytes.m21 rfl rfl ?_
      refine pI_ 19 60 HT_ laws_FnCmdBytes.m22 rfl rfl ?_
      refine pU_ 20 61 HT_ laws_FnCmdBytes.m23 rfl rfl ?_
      refine pU_ 21 62 HT_ laws_FnCmdBytes.m24 rfl rfl ?_
      refine pU_ 22 63 HT_ laws_FnCmdBytes.m25 rfl rfl ?_
      refine pI_ 23 64 HT_ laws_FnCmdBytes.m26 rfl rfl ?_
      refine pI_ 24 65 HT_ laws_FnCmdBytes.m27 rfl rfl ?_
      refine pU_ 25 66 HT_ laws_FnCmdBytes.m28 rfl rfl ?_
      refine pU_ 26 67 HT_ laws_FnCmdBytes.m29 rfl rfl ?_
      refine pU_ 27 68 HT_ laws_FnCmdBytes.m30 rfl rfl ?_
      refine pI_ 28 69 HT_ laws_FnCmdBytes.m31 rfl rfl ?_
      refine done_ (done_of HT_.out (by kernel_rfl)) ?_
      try go_wp2
      go_meet
      case rel => exact ⟨_, (true), (qf5_), H', ⟨qf7_⟩, ⟨rm_ HO590.out⟩, ⟨rm_ HO594.out⟩, ⟨bq_ BK587.out⟩, ⟨bq_ BK605.out⟩, ⟨bq_ BK616.out⟩, ⟨hb_ HB.out⟩⟩
     ·
      rw [if_neg c37] at H
      have c37b0 : (t604 != t615) = false := by simpa using c37
      (try (have c37b1 : decide (t604 = t615) = true := by simpa using c37))
      (try (have c37b2 : (t604 == t615) = true := by simpa using c37))
      (try (have c37b3 : (!(t604 == t615)) = false := (show ∀ a b : Bool, ¬ (a != b) = true → (!(a == b)) = false by decide) _ _ c37))
      clear c37
      by_cases c46 : (!(t595 == t606) || (!(t596 == t607) || (!(t597 == t608) || (!(t598 == t609) || (!(t599 == t610) || (!(t600 == t611) || (!(t601.toList == t612.toList) || (!(t602.toList == t613.toList))))))))) = true
      ·
       rw [if_pos c46] at H
       have c46b0 : (!(t595 == t606) || (!(t596 == t607) || (!(t597 == t608) || (!(t598 == t609) || (!(t599 == t610) || (!(t600 == t611) || (!(t601.toList == t612.toList) || (!(t602.toList == t613.toList))))))))) = true := c46
       clear c46
       have H' := Aside0.mk H
       clear H
       obtain ⟨Ao47, co47, eo47⟩ := Kd.R_slice HO590.out
       subst eo47
       try go_wp2
       have n0_ : Aside0 (Kd.R (Kd.int .u8) 5 ((((((((w21.setCell ⟨gb616, 0, none⟩ (.int .i64 t606)).setCell ⟨gb616, 1, none⟩ (.int .i64 t607)).setCell ⟨gb616, 2, none⟩ (.int .i64 t608)).setCell ⟨gb616, 3, none⟩ (.int .i64 t609)).setCell ⟨gb616, 4, none⟩ (.int .i64 t610)).setCell ⟨gb616, 5, none⟩ (.int .i64 t611)).setCell ⟨gb616, 6, none⟩ (.string t612)).setCell ⟨gb616, 7, none⟩ (.string t613)) w.heap.size (fun k_ => some k_ ≠ (.slice Ao15 t591.length co15 : Value).ownBlock) (.slice Ao47 t588.length co47) t588) := ⟨qf1_⟩
       have n1_ : Aside0 (Kd.R (Kd.int .u8) 5 ((((((((w21.setCell ⟨gb616, 0, none⟩ (.int .i64 t606)).setCell ⟨gb616, 1, none⟩ (.int .i64 t607)).setCell ⟨gb616, 2, none⟩ (.int .i64 t608)).setCell ⟨gb616, 3, none⟩ (.int .i64 t609)).setCell ⟨gb616, 4, none⟩ (.int .i64 t610)).setCell ⟨gb616, 5, none⟩ (.int .i64 t611)).setCell ⟨gb616, 6, none⟩ (.string t612)).setCell ⟨gb616, 7, none⟩ (.string t613)) w.heap.size (fun k_ => some k_ ≠ (.slice Ao47 t588.length co47 : Value).ownBlock) (.slice Ao15 t591.length co15) t591) := ⟨qf0_⟩
       have n2_ : Aside0 (((((((((w21.setCell ⟨gb616, 0, none⟩ (.int .i64 t606)).setCell ⟨gb616, 1, none⟩ (.int .i64 t607)).setCell ⟨gb616, 2, none⟩ (.int .i64 t608)).setCell ⟨gb616, 3, none⟩ (.int .i64 t609)).setCell ⟨gb616, 4, none⟩ (.int .i64 t610)).setCell ⟨gb616, 5, none⟩ (.int .i64 t611)).setCell ⟨gb616, 6, none⟩ (.string t612)).setCell ⟨gb616, 7, none⟩ (.string t613)).heap[gb587]? = some (.cells #[.int .i64 t579, .int .i64 t580, .int .i64 t581, .int .i64 t582, .int .i64 t583, .int .i64 t584, .string t585, .string t586] 95 (0, 0))) := ⟨bf_ NB587_616.out BK587.out⟩
       have n3_ : Aside0 (((((((((w21.setCell ⟨gb616, 0, none⟩ (.int .i64 t606)).setCell ⟨gb616, 1, none⟩ (.int .i64 t607)).setCell ⟨gb616, 2, none⟩ (.int .i64 t608)).setCell ⟨gb616, 3, none⟩ (.int .i64 t609)).setCell ⟨gb616, 4, none⟩ (.int .i64 t610)).setCell ⟨gb616, 5, none⟩ (.int .i64 t611)).setCell ⟨gb616, 6, none⟩ (.string t612)).setCell ⟨gb616, 7, none⟩ (.string t613)).heap[gb605]? = some (.cells #[.int .i64 t595, .int .i64 t596, .int .i64 t597, .int .i64 t598, .int .i64 t599, .int .i64 t600, .string t601, .string t602] 95 (0, 0))) := ⟨bf_ NB605_616.out BK605.out⟩
       have n4_ : Aside0 (((((((((w21.setCell ⟨gb616, 0, none⟩ (.int .i64 t606)).setCell ⟨gb616, 1, none⟩ (.int .i64 t607)).setCell ⟨gb616, 2, none⟩ (.int .i64 t608)).setCell ⟨gb616, 3, none⟩ (.int .i64 t609)).setCell ⟨gb616, 4, none⟩ (.int .i64 t610)).setCell ⟨gb616, 5, none⟩ (.int .i64 t611)).setCell ⟨gb616, 6, none⟩ (.string t612)).setCell ⟨gb616, 7, none⟩ (.string t613)).heap[gb616]? = some (.cells #[.int .i64 t606, .int .i64 t607, .int .i64 t608, .int .i64 t609, .int .i64 t610, .int .i64 t611, .string t612, .string t613] 95 (0, 0))) := ⟨bp_ BK616.out⟩
       have n5_ : Aside0 (Below w.heap.size w ((((((((w21.setCell ⟨gb616, 0, none⟩ (.int .i64 t606)).setCell ⟨gb616, 1, none⟩ (.int .i64 t607)).setCell ⟨gb616, 2, none⟩ (.int .i64 t608)).setCell ⟨gb616, 3, none⟩ (.int .i64 t609)).setCell ⟨gb616, 4, none⟩ (.int .i64 t610)).setCell ⟨gb616, 5, none⟩ (.int .i64 t611)).setCell ⟨gb616, 6, none⟩ (.string t612)).setCell ⟨gb616, 7, none⟩ (.string t613))) := ⟨hb_ HB.out⟩
       (try clear HO590)
       (try clear HO594)
       (try clear BK587)
       (try clear BK605)
       (try clear BK616)
       (try clear HB)
       generalize ((((((((w21.setCell ⟨gb616, 0, none⟩ (.int .i64 t606)).setCell ⟨gb616, 1, none⟩ (.int .i64 t607)).setCell ⟨gb616, 2, none⟩ (.int .i64 t608)).setCell ⟨gb616, 3, none⟩ (.int .i64 t609)).setCell ⟨gb616, 4, none⟩ (.int .i64 t610)).setCell ⟨gb616, 5, none⟩ (.int .i64 t611)).setCell ⟨gb616, 6, none⟩ (.string t612)).setCell ⟨gb616, 7, none⟩ (.string t613)) = w48 at n0_ n1_ n2_ n3_ n4_ n5_ ⊢
       have HO590 := n0_
       have HO594 := n1_
       have BK587 := n2_
       have BK605 := n3_
       have BK616 := n4_
       have HB := n5_
       clear n0_ n1_ n2_ n3_ n4_ n5_
       have n0_ := Aside0.mk (Kd.R_drew HO590.out)
       have n1_ := Aside0.mk (Kd.R_drew HO594.out)
       have n2_ := Aside0.mk (blk_drew BK587.out)
       have n3_ := Aside0.mk (blk_drew BK605.out)
       have n4_ := Aside0.mk (blk_drew BK616.out)
       have n5_ := Aside0.mk (below_drew1 HB.out)
       clear HO590; clear HO594
       clear BK587; clear BK605
       clear BK616; clear HB
       have HO590 := n0_
       have HO594 := n1_
       have BK587 := n2_
       have BK605 := n3_
       have BK616 := n4_
       have HB := n5_
       clear n0_ n1_ n2_ n3_ n4_ n5_
       refine start_ (n := 29) (S := fun w' => w'.cell? ⟨gb587, 0, none⟩ = some (.int .i64 t579) ∧ w'.cell? ⟨gb587, 1, none⟩ = some (.int .i64 t580) ∧ w'.cell? ⟨gb587, 2, none⟩ = some (.int .i64 t581) ∧ w'.cell? ⟨gb587, 3, none⟩ = some (.int .i64 t582) ∧ w'.cell? ⟨gb587, 4, none⟩ = some (.int .i64 t583) ∧ w'.cell? ⟨gb587, 5, none⟩ = some (.int .i64 t584) ∧ w'.cell? ⟨gb587, 6, none⟩ = some (.string t585) ∧ w'.cell? ⟨gb587, 7, none⟩ = some (.string t586) ∧ w'.cell? ⟨gb605, 0, none⟩ = some (.int .i64 t595) ∧ w'.cell? ⟨gb605, 1, none⟩ = some (.int .i64 t596) ∧ w'.cell? ⟨gb605, 2, none⟩ = some (.int .i64 t597) ∧ w'.cell? ⟨gb605, 3, none⟩ = some (.int .i64 t598) ∧ w'.cell? ⟨gb605, 4, none⟩ = some (.int .i64 t599) ∧ w'.cell? ⟨gb605, 5, none⟩ = some (.int .i64 t600) ∧ w'.cell? ⟨gb605, 6, none⟩ = some (.string t601) ∧ w'.cell? ⟨gb605, 7, none⟩ = some (.string t602) ∧ w'.cell? ⟨gb616, 0, none⟩ = some (.int .i64 t606) ∧ w'.cell? ⟨gb616, 1, none⟩ = some (.int .i64 t607) ∧ w'.cell? ⟨gb616, 2, none⟩ = some (.int .i64 t608) ∧ w'.cell? ⟨gb616, 3, none⟩ = some (.int .i64 t609) ∧ w'.cell? ⟨gb616, 4, none⟩ = some (.int .i64 t610) ∧ w'.cell? ⟨gb616, 5, none⟩ = some (.int .i64 t611) ∧ w'.cell? ⟨gb616, 6, none⟩ = some (.string t612) ∧ w'.cell? ⟨gb616, 7, none⟩ = some (.string t613)) (ds := []) laws_FnCmdBytes.m0 (by kernel_rfl) rfl rfl ⟨bc_ BK587 0, bc_ BK587 1, bc_ BK587 2, bc_ BK587 3, bc_ BK587 4, bc_ BK587 5, bc_ BK587 6, bc_ BK587 7, bc_ BK605 0, bc_ BK605 1, bc_ BK605 2, bc_ BK605 3, bc_ BK605 4, bc_ BK605 5, bc_ BK605 6, bc_ BK605 7, bc_ BK616 0, bc_ BK616 1, bc_ BK616 2, bc_ BK616 3, bc_ BK616 4, bc_ BK616 5, bc_ BK616 6, bc_ BK616 7⟩ (fun hHeld => ?_); refine with_tabW laws_FnCmdBytes.tab8 laws_FnCmdBytes.bits8 (fun HT_ HW_ => ?_)
       generalize w48.drew = w49 at HO590 HO594 BK587 BK605 BK616 HB hHeld ⊢
       refine pI_ 0 41 HT_ laws_FnCmdBytes.m1 rfl rfl ?_
       refine tk_ 2 43 HT_ HW_ laws_FnCmdBytes.m2 rfl rfl hHeld ?_
       refine join_ (σ := Value) 24 laws_FnCmdBytes.m3 (fun s_ => [(42, .string (strOfNums t588)), (44, s_), (45, .string (strOfNums t617))]) (fun s_ w' => (w'.cell? ⟨gb587, 0, none⟩ = some (.int .i64 t579) ∧ w'.cell? ⟨gb587, 1, none⟩ = some (.int .i64 t580) ∧ w'.cell? ⟨gb587, 2, none⟩ = some (.int .i64 t581) ∧ w'.cell? ⟨gb587, 3, none⟩ = some (.int .i64 t582) ∧ w'.cell? ⟨gb587, 4, none⟩ = some (.int .i64 t583) ∧ w'.cell? ⟨gb587, 5, none⟩ = some (.int .i64 t584) ∧ w'.cell? ⟨gb587, 6, none⟩ = some (.string t585) ∧ w'.cell? ⟨gb587, 7, none⟩ = some (.string t586) ∧ w'.cell? ⟨gb605, 0, none⟩ = some (.int .i64 t595) ∧ w'.cell? ⟨gb605, 1, none⟩ = some (.int .i64 t596) ∧ w'.cell? ⟨gb605, 2, none⟩ = some (.int .i64 t597) ∧ w'.cell? ⟨gb605, 3, none⟩ = some (.int .i64 t598) ∧ w'.cell? ⟨gb605, 4, none⟩ = some (.int .i64 t599) ∧ w'.cell? ⟨gb605, 5, none⟩ = some (.int .i64 t600) ∧ w'.cell? ⟨gb605, 6, none⟩ = some (.string t601) ∧ w'.cell? ⟨gb605, 7, none⟩ = some (.string t602) ∧ w'.cell? ⟨gb616, 0, none⟩ = some (.int .i64 t606) ∧ w'.cell? ⟨gb616, 1, none⟩ = some (.int .i64 t607) ∧ w'.cell? ⟨gb616, 2, none⟩ = some (.int .i64 t608) ∧ w'.cell? ⟨gb616, 3, none⟩ = some (.int .i64 t609) ∧ w'.cell? ⟨gb616, 4, none⟩ = some (.int .i64 t610) ∧ w'.cell? ⟨gb616, 5, none⟩ = some (.int .i64 t611) ∧ w'.cell? ⟨gb616, 6, none⟩ = some (.string t612) ∧ w'.cell? ⟨gb616, 7, none⟩ = some (.string t613)) ∧ (Kd.R (Kd.int .u8) 5 w' w.heap.size (fun k_ => some k_ ≠ (.slice Ao15 t591.length co15 : Value).ownBlock ∧ some k_ ≠ (s_ : Value).ownBlock) (.slice Ao47 t588.length co47) t588) ∧ (Kd.R (Kd.int .u8) 5 w' w.heap.size (fun k_ => some k_ ≠ (.slice Ao47 t588.length co47 : Value).ownBlock ∧ some k_ ≠ (s_ : Value).ownBlock) (.slice Ao15 t591.length co15) t591) ∧ (Kd.R (Kd.int .u8) 5 w' w.heap.size (fun k_ => some k_ ≠ (.slice Ao47 t588.length co47 : Value).ownBlock ∧ some k_ ≠ (.slice Ao15 t591.length co15 : Value).ownBlock) s_ t617) ∧ (w'.heap[gb587]? = some (.cells #[.int .i64 t579, .int .i64 t580, .int .i64 t581, .int .i64 t582, .int .i64 t583, .int .i64 t584, .string t585, .string t586] 95 (0, 0))) ∧ (w'.heap[gb605]? = some (.cells #[.int .i64 t595, .int .i64 t596, .int .i64 t597, .int .i64 t598, .int .i64 t599, .int .i64 t600, .string t601, .string t602] 95 (0, 0))) ∧ (w'.heap[gb616]? = some (.cells #[.int .i64 t606, .int .i64 t607, .int .i64 t608, .int .i64 t609, .int .i64 t610, .int .i64 t611, .string t612, .string t613] 95 (0, 0))) ∧ (Below w.heap.size w w')) ?_ ?_
       rotate_left
       ·
        intro hCont
        refine two_ (i := 1) (j := 3) (Ni := some 42) (Nj := some 44) laws_FnCmdBytes.m4 laws_FnCmdBytes.m5 rfl rfl rfl rfl (two_of HT_.out (by kernel_rfl)) (by decide) (by decide) (fun K hK => ?_) (fun K hK => ?_)
        ·
         skip
         have hcv50 := own_string (P := Try.prog) Try.underlying22 Try.underlying5 Try.underlying9 (Kd.own_of_R HO590.out)
         refine value_ (w1 := ?_) (v := ?_) (by rfl) rfl ?_ ?_
         rotate_left 2
         ·
          go_simp
          constructor
          ·
           rfl
          ·
           rfl
         clear hcv50
         refine hK.out _ _ ⟨bc_ BK587 0, bc_ BK587 1, bc_ BK587 2, bc_ BK587 3, bc_ BK587 4, bc_ BK587 5, bc_ BK587 6, bc_ BK587 7, bc_ BK605 0, bc_ BK605 1, bc_ BK605 2, bc_ BK605 3, bc_ BK605 4, bc_ BK605 5, bc_ BK605 6, bc_ BK605 7, bc_ BK616 0, bc_ BK616 1, bc_ BK616 2, bc_ BK616 3, bc_ BK616 4, bc_ BK616 5, bc_ BK616 6, bc_ BK616 7⟩ (fun hHeld => ?_)
         clear hK K
         refine nm_ ?_
         refine on_ 3 44 HT_ laws_FnCmdBytes.m6 rfl rfl (fun K hK => ?_)
         refine goes_ Try.func67 (by kernel_rfl) rfl #[.agg #[.int .i64 t579, .int .i64 t580, .int .i64 t581, .int .i64 t582, .int .i64 t583, .int .i64 t584, .string t585, .string t586]] (by rfl) rfl rfl sm_ ?_
         with_reducible refine (spec_CmdBytes.calls k t579 t580 t581 t582 t583 t584 t585 t586 t617 _ A25.out).mono ?_
         rintro e w51 ⟨v618, rfl, ho0, hb⟩
         refine ⟨_, rfl, ?_⟩
         have n0_ := Aside0.mk (Kd.R_elder' (rq_ HO590.out) (Kd.R_base ho0) hb)
         have n1_ := Aside0.mk (Kd.R_elder' (rq_ HO594.out) (Kd.R_base ho0) hb)
         have n2_ := Aside0.mk (Kd.R_lower (Kd.R_new' (Kd.R_new' ho0 (Kd.R_lt (rq_ HO590.out))) (Kd.R_lt (rq_ HO594.out))) (below_size (hb_ HB.out)))
         have n3_ := Aside0.mk (bb_ BK587.out hb)
         have n4_ := Aside0.mk (bb_ BK605.out hb)
         have n5_ := Aside0.mk (bb_ BK616.out hb)
         have n6_ := Aside0.mk (below_step (hb_ HB.out) hb)
         clear HO590; clear HO594
         clear BK587; clear BK605
         clear BK616; clear HB
         have HO590 := n0_
         have HO594 := n1_
         have HO619 := n2_
         have BK587 := n3_
         have BK605 := n4_
         have BK616 := n5_
         have HB := n6_
         clear n0_ n1_ n2_ n3_ n4_ n5_ n6_
         (try clear hb)
         (try clear hb2)
         (try clear hk)
         (try clear hi)
         (try clear ho0)
         refine hK.out _ _ ⟨bc_ BK587 0, bc_ BK587 1, bc_ BK587 2, bc_ BK587 3, bc_ BK587 4, bc_ BK587 5, bc_ BK587 6, bc_ BK587 7, bc_ BK605 0, bc_ BK605 1, bc_ BK605 2, bc_ BK605 3, bc_ BK605 4, bc_ BK605 5, bc_ BK605 6, bc_ BK605 7, bc_ BK616 0, bc_ BK616 1, bc_ BK616 2, bc_ BK616 3, bc_ BK616 4, bc_ BK616 5, bc_ BK616 6, bc_ BK616 7⟩ (fun hHeld => ?_)
         clear hK K
         refine nm_ ?_
         refine on_ 4 45 HT_ laws_FnCmdBytes.m3 rfl rfl (fun K hK => ?_)
         have hcv52 := own_string (P := Try.prog) Try.underlying22 Try.underlying5 Try.underlying9 (Kd.own_of_R HO619.out)
         refine value_ (w1 := ?_) (v := ?_) (by rfl) rfl ?_ ?_
         rotate_left 2
         ·
          go_simp
          constructor
          ·
           rfl
          ·
           rfl
         clear hcv52
         refine hK.out _ _ ⟨bc_ BK587 0, bc_ BK587 1, bc_ BK587 2, bc_ BK587 3, bc_ BK587 4, bc_ BK587 5, bc_ BK587 6, bc_ BK587 7, bc_ BK605 0, bc_ BK605 1, bc_ BK605 2, bc_ BK605 3, bc_ BK605 4, bc_ BK605 5, bc_ BK605 6, bc_ BK605 7, bc_ BK616 0, bc_ BK616 1, bc_ BK616 2, bc_ BK616 3, bc_ BK616 4, bc_ BK616 5, bc_ BK616 6, bc_ BK616 7⟩ (fun hHeld => ?_)
         clear hK K
         refine nm_ ?_
         exact norm_ (qf2_) (hCont (v618) _ ⟨hHeld, (rq_ HO590.out), (rq_ HO594.out), (rm_ HO619.out), (bq_ BK587.out), (bq_ BK605.out), (bq_ BK616.out), (hb_ HB.out)⟩)
        ·
         skip
         refine goes_ Try.func67 (by kernel_rfl) rfl #[.agg #[.int .i64 t579, .int .i64 t580, .int .i64 t581, .int .i64 t582, .int .i64 t583, .int .i64 t584, .string t585, .string t586]] (by rfl) rfl rfl sm_ ?_
         with_reducible refine (spec_CmdBytes.calls k t579 t580 t581 t582 t583 t584 t585 t586 t617 _ A25.out).mono ?_
         rintro e w50 ⟨v618, rfl, ho0, hb⟩
         refine ⟨_, rfl, ?_⟩
         have n0_ := Aside0.mk (Kd.R_elder' (rq_ HO590.out) (Kd.R_base ho0) hb)
         have n1_ := Aside0.mk (Kd.R_elder' (rq_ HO594.out) (Kd.R_base ho0) hb)
         have n2_ := Aside0.mk (Kd.R_lower (Kd.R_new' (Kd.R_new' ho0 (Kd.R_lt (rq_ HO590.out))) (Kd.R_lt (rq_ HO594.out))) (below_size (hb_ HB.out)))
         have n3_ := Aside0.mk (bb_ BK587.out hb)
         have n4_ := Aside0.mk (bb_ BK605.out hb)
         have n5_ := Aside0.mk (bb_ BK616.out hb)
         have n6_ := Aside0.mk (below_step (hb_ HB.out) hb)
         clear HO590; clear HO594
         clear BK587; clear BK605
         clear BK616; clear HB
         have HO590 := n0_
         have HO594 := n1_
         have HO619 := n2_
         have BK587 := n3_
         have BK605 := n4_
         have BK616 := n5_
         have HB := n6_
         clear n0_ n1_ n2_ n3_ n4_ n5_ n6_
         (try clear hb)
         (try clear hb2)
         (try clear hk)
         (try clear hi)
         (try clear ho0)
         refine hK.out _ _ ⟨bc_ BK587 0, bc_ BK587 1, bc_ BK587 2, bc_ BK587 3, bc_ BK587 4, bc_ BK587 5, bc_ BK587 6, bc_ BK587 7, bc_ BK605 0, bc_ BK605 1, bc_ BK605 2, bc_ BK605 3, bc_ BK605 4, bc_ BK605 5, bc_ BK605 6, bc_ BK605 7, bc_ BK616 0, bc_ BK616 1, bc_ BK616 2, bc_ BK616 3, bc_ BK616 4, bc_ BK616 5, bc_ BK616 6, bc_ BK616 7⟩ (fun hHeld => ?_)
         clear hK K
         refine nm_ ?_
         refine two_ (i := 1) (j := 4) (Ni := some 42) (Nj := some 45) laws_FnCmdBytes.m6 laws_FnCmdBytes.m7 rfl rfl rfl rfl (two_of HT_.out (by kernel_rfl)) (by decide) (by decide) (fun K hK => ?_) (fun K hK => ?_)
         ·
          skip
          have hcv51 := own_string (P := Try.prog) Try.underlying22 Try.underlying5 Try.underlying9 (Kd.own_of_R HO590.out)
          refine value_ (w1 := ?_) (v := ?_) (by rfl) rfl ?_ ?_
          rotate_left 2
          ·
           go_simp
           constructor
           ·
            rfl
           ·
            rfl
          clear hcv51
          refine hK.out _ _ ⟨bc_ BK587 0, bc_ BK587 1, bc_ BK587 2, bc_ BK587 3, bc_ BK587 4, bc_ BK587 5, bc_ BK587 6, bc_ BK587 7, bc_ BK605 0, bc_ BK605 1, bc_ BK605 2, bc_ BK605 3, bc_ BK605 4, bc_ BK605 5, bc_ BK605 6, bc_ BK605 7, bc_ BK616 0, bc_ BK616 1, bc_ BK616 2, bc_ BK616 3, bc_ BK616 4, bc_ BK616 5, bc_ BK616 6, bc_ BK616 7⟩ (fun hHeld => ?_)
          clear hK K
          refine nm_ ?_
          refine on_ 4 45 HT_ laws_FnCmdBytes.m3 rfl rfl (fun K hK => ?_)
          have hcv52 := own_string (P := Try.prog) Try.underlying22 Try.underlying5 Try.underlying9 (Kd.own_of_R HO619.out)
          refine value_ (w1 := ?_) (v := ?_) (by rfl) rfl ?_ ?_
          rotate_left 2
          ·
           go_simp
           constructor
           ·
            rfl
           ·
            rfl
          clear hcv52
          refine hK.out _ _ ⟨bc_ BK587 0, bc_ BK587 1, bc_ BK587 2, bc_ BK587 3, bc_ BK587 4, bc_ BK587 5, bc_ BK587 6, bc_ BK587 7, bc_ BK605 0, bc_ BK605 1, bc_ BK605 2, bc_ BK605 3, bc_ BK605 4, bc_ BK605 5, bc_ BK605 6, bc_ BK605 7, bc_ BK616 0, bc_ BK616 1, bc_ BK616 2, bc_ BK616 3, bc_ BK616 4, bc_ BK616 5, bc_ BK616 6, bc_ BK616 7⟩ (fun hHeld => ?_)
          clear hK K
          refine nm_ ?_
          exact norm_ (qf2_) (hCont (v618) _ ⟨hHeld, (rq_ HO590.out), (rq_ HO594.out), (rm_ HO619.out), (bq_ BK587.out), (bq_ BK605.out), (bq_ BK616.out), (hb_ HB.out)⟩)
         ·
          skip
          have hcv51 := own_string (P := Try.prog) Try.underlying22 Try.underlying5 Try.underlying9 (Kd.own_of_R HO619.out)
          refine value_ (w1 := ?_) (v := ?_) (by rfl) rfl ?_ ?_
          rotate_left 2
          ·
           go_simp
           constructor
           ·
            rfl
           ·
            rfl
          clear hcv51
          refine hK.out _ _ ⟨bc_ BK587 0, bc_ BK587 1, bc_ BK587 2, bc_ BK587 3, bc_ BK587 4, bc_ BK587 5, bc_ BK587 6, bc_ BK587 7, bc_ BK605 0, bc_ BK605 1, bc_ BK605 2, bc_ BK605 3, bc_ BK605 4, bc_ BK605 5, bc_ BK605 6, bc_ BK605 7, bc_ BK616 0, bc_ BK616 1, bc_ BK616 2, bc_ BK616 3, bc_ BK616 4, bc_ BK616 5, bc_ BK616 6, bc_ BK616 7⟩ (fun hHeld => ?_)
          clear hK K
          refine nm_ ?_
          refine on_ 1 42 HT_ laws_FnCmdBytes.m3 rfl rfl (fun K hK => ?_)
          have hcv52 := own_string (P := Try.prog) Try.underlying22 Try.underlying5 Try.underlying9 (Kd.own_of_R HO590.out)
          refine value_ (w1 := ?_) (v := ?_) (by rfl) rfl ?_ ?_
          rotate_left 2
          ·
           go_simp
           constructor
           ·
            rfl
           ·
            rfl
          clear hcv52
          refine hK.out _ _ ⟨bc_ BK587 0, bc_ BK587 1, bc_ BK587 2, bc_ BK587 3, bc_ BK587 4, bc_ BK587 5, bc_ BK587 6, bc_ BK587 7, bc_ BK605 0, bc_ BK605 1, bc_ BK605 2, bc_ BK605 3, bc_ BK605 4, bc_ BK605 5, bc_ BK605 6, bc_ BK605 7, bc_ BK616 0, bc_ BK616 1, bc_ BK616 2, bc_ BK616 3, bc_ BK616 4, bc_ BK616 5, bc_ BK616 6, bc_ BK616 7⟩ (fun hHeld => ?_)
          clear hK K
          refine nm_ ?_
          exact norm_ (qf2_) (hCont (v618) _ ⟨hHeld, (rq_ HO590.out), (rq_ HO594.out), (rm_ HO619.out), (bq_ BK587.out), (bq_ BK605.out), (bq_ BK616.out), (hb_ HB.out)⟩)
       rintro v618 w53 ⟨hS_, h0_, h1_, h2_, h3_, h4_, h5_, h6_⟩
       have n0_ : Aside0 (Kd.R (Kd.int .u8) 5 w53 w.heap.size (fun k_ => some k_ ≠ (.slice Ao15 t591.length co15 : Value).ownBlock ∧ some k_ ≠ (v618 : Value).ownBlock) (.slice Ao47 t588.length co47) t588) := ⟨h0_⟩
       have n1_ : Aside0 (Kd.R (Kd.int .u8) 5 w53 w.heap.size (fun k_ => some k_ ≠ (.slice Ao47 t588.length co47 : Value).ownBlock ∧ some k_ ≠ (v618 : Value).ownBlock) (.slice Ao15 t591.length co15) t591) := ⟨h1_⟩
       have n2_ : Aside0 (Kd.R (Kd.int .u8) 5 w53 w.heap.size (fun k_ => some k_ ≠ (.slice Ao47 t588.length co47 : Value).ownBlock ∧ some k_ ≠ (.slice Ao15 t591.length co15 : Value).ownBlock) v618 t617) := ⟨h2_⟩
       have n3_ : Aside0 (w53.heap[gb587]? = some (.cells #[.int .i64 t579, .int .i64 t580, .int .i64 t581, .int .i64 t582, .int .i64 t583, .int .i64 t584, .string t585, .string t586] 95 (0, 0))) := ⟨h3_⟩
       have n4_ : Aside0 (w53.heap[gb605]? = some (.cells #[.int .i64 t595, .int .i64 t596, .int .i64 t597, .int .i64 t598, .int .i64 t599, .int .i64 t600, .string t601, .string t602] 95 (0, 0))) := ⟨h4_⟩
       have n5_ : Aside0 (w53.heap[gb616]? = some (.cells #[.int .i64 t606, .int .i64 t607, .int .i64 t608, .int .i64 t609, .int .i64 t610, .int .i64 t611, .string t612, .string t613] 95 (0, 0))) := ⟨h5_⟩
       have n6_ : Aside0 (Below w.heap.size w w53) := ⟨h6_⟩
       clear HO590; clear HO594
       clear BK587; clear BK605
       clear BK616; clear HB
       clear h0_ h1_ h2_ h3_ h4_ h5_ h6_
       have HO590 := n0_
       have HO594 := n1_
       have HO619 := n2_
       have BK587 := n3_
       have BK605 := n4_
       have BK616 := n5_
       have HB := n6_
       clear n0_ n1_ n2_ n3_ n4_ n5_ n6_
       have hHeld : w53.cell? ⟨gb587, 0, none⟩ = some (.int .i64 t579) ∧ w53.cell? ⟨gb587, 1, none⟩ = some (.int .i64 t580) ∧ w53.cell? ⟨gb587, 2, none⟩ = some (.int .i64 t581) ∧ w53.cell? ⟨gb587, 3, none⟩ = some (.int .i64 t582) ∧ w53.cell? ⟨gb587, 4, none⟩ = some (.int .i64 t583) ∧ w53.cell? ⟨gb587, 5, none⟩ = some (.int .i64 t584) ∧ w53.cell? ⟨gb587, 6, none⟩ = some (.string t585) ∧ w53.cell? ⟨gb587, 7, none⟩ = some (.string t586) ∧ w53.cell? ⟨gb605, 0, none⟩ = some (.int .i64 t595) ∧ w53.cell? ⟨gb605, 1, none⟩ = some (.int .i64 t596) ∧ w53.cell? ⟨gb605, 2, none⟩ = some (.int .i64 t597) ∧ w53.cell? ⟨gb605, 3, none⟩ = some (.int .i64 t598) ∧ w53.cell? ⟨gb605, 4, none⟩ = some (.int .i64 t599) ∧ w53.cell? ⟨gb605, 5, none⟩ = some (.int .i64 t600) ∧ w53.cell? ⟨gb605, 6, none⟩ = some (.string t601) ∧ w53.cell? ⟨gb605, 7, none⟩ = some (.string t602) ∧ w53.cell? ⟨gb616, 0, none⟩ = some (.int .i64 t606) ∧ w53.cell? ⟨gb616, 1, none⟩ = some (.int .i64 t607) ∧ w53.cell? ⟨gb616, 2, none⟩ = some (.int .i64 t608) ∧ w53.cell? ⟨gb616, 3, none⟩ = some (.int .i64 t609) ∧ w53.cell? ⟨gb616, 4, none⟩ = some (.int .i64 t610) ∧ w53.cell? ⟨gb616, 5, none⟩ = some (.int .i64 t611) ∧ w53.cell? ⟨gb616, 6, none⟩ = some (.string t612) ∧ w53.cell? ⟨gb616, 7, none⟩ = some (.string t613) := hS_
       refine norm_ (a' := ?_) ?_ ?_
       rotate_left; (focus simp only [putAll, Act.put, List.setIfInBounds_toArray, List.set_cons_zero, List.set_cons_succ]; rfl)
       refine pI_ 5 46 HT_ laws_FnCmdBytes.m8 rfl rfl ?_
       refine pI_ 6 47 HT_ laws_FnCmdBytes.m9 rfl rfl ?_
       refine pI_ 7 48 HT_ laws_FnCmdBytes.m10 rfl rfl ?_
       refine pI_ 8 49 HT_ laws_FnCmdBytes.m11 rfl rfl ?_
       refine pI_ 9 50 HT_ laws_FnCmdBytes.m12 rfl rfl ?_
       refine tk_ 10 51 HT_ HW_ laws_FnCmdBytes.m13 rfl rfl hHeld ?_
       refine on_ 11 52 HT_ laws_FnCmdBytes.m14 rfl rfl (fun K hK => ?_)
       refine goes_ Try.func68 (by kernel_rfl) rfl #[.agg #[.int .i64 t579, .int .i64 t580, .int .i64 t581, .int .i64 t582, .int .i64 t583, .int .i64 t584, .string t585, .string t586]] (by rfl) rfl rfl sm_ ?_
       with_reducible refine (impl_CmdOk.calls k t579 t580 t581 t582 t583 t584 t585 t586 t620 _ A27.out).mono ?_
       rintro e w54 ⟨rfl, hb⟩
       refine ⟨_, rfl, ?_⟩
       have n0_ := Aside0.mk (Kd.R_below (rq_ HO590.out) hb)
       have n1_ := Aside0.mk (Kd.R_below (rq_ HO594.out) hb)
       have n2_ := Aside0.mk (Kd.R_below (rq_ HO619.out) hb)
       have n3_ := Aside0.mk (bb_ BK587.out hb)
       have n4_ := Aside0.mk (bb_ BK605.out hb)
       have n5_ := Aside0.mk (bb_ BK616.out hb)
       have n6_ := Aside0.mk (below_step (hb_ HB.out) hb)
       clear HO590; clear HO594
       clear HO619; clear BK587
       clear BK605; clear BK616
       clear HB
       have HO590 := n0_
       have HO594 := n1_
       have HO619 := n2_
       have BK587 := n3_
       have BK605 := n4_
       have BK616 := n5_
       have HB := n6_
       clear n0_ n1_ n2_ n3_ n4_ n5_ n6_
       (try clear hb)
       (try clear hb2)
       (try clear hk)
       (try clear hi)
       refine hK.out _ _ ⟨bc_ BK587 0, bc_ BK587 1, bc_ BK587 2, bc_ BK587 3, bc_ BK587 4, bc_ BK587 5, bc_ BK587 6, bc_ BK587 7, bc_ BK605 0, bc_ BK605 1, bc_ BK605 2, bc_ BK605 3, bc_ BK605 4, bc_ BK605 5, bc_ BK605 6, bc_ BK605 7, bc_ BK616 0, bc_ BK616 1, bc_ BK616 2, bc_ BK616 3, bc_ BK616 4, bc_ BK616 5, bc_ BK616 6, bc_ BK616 7⟩ (fun hHeld => ?_)
       clear hK K
       refine nm_ ?_
       refine pI_ 12 53 HT_ laws_FnCmdBytes.m15 rfl rfl ?_
       refine pI_ 13 54 HT_ laws_FnCmdBytes.m16 rfl rfl ?_
       refine pI_ 14 55 HT_ laws_FnCmdBytes.m17 rfl rfl ?_
       refine pI_ 15 56 HT_ laws_FnCmdBytes.m18 rfl rfl ?_
       refine pI_ 16 57 HT_ laws_FnCmdBytes.m19 rfl rfl ?_
       refine pI_ 17 58 HT_ laws_FnCmdBytes.m20 rfl rfl ?_
       refine pI_ 18 59 HT_ laws_FnCmdBytes.m21 rfl rfl ?_
       refine pI_ 19 60 HT_ laws_FnCmdBytes.m22 rfl rfl ?_
       refine tk_ 20 61 HT_ HW_ laws_FnCmdBytes.m23 rfl rfl hHeld ?_
       refine tk_ 21 62 HT_ HW_ laws_FnCmdBytes.m24 rfl rfl hHeld ?_
       refine pI_ 22 63 HT_ laws_FnCmdBytes.m25 rfl rfl ?_
       refine pI_ 23 64 HT_ laws_FnCmdBytes.m26 rfl rfl ?_
       refine pI_ 24 65 HT_ laws_FnCmdBytes.m27 rfl rfl ?_
       refine pU_ 25 66 HT_ laws_FnCmdBytes.m28 rfl rfl ?_
       refine pU_ 26 67 HT_ laws_FnCmdBytes.m29 rfl rfl ?_
       refine pU_ 27 68 HT_ laws_FnCmdBytes.m30 rfl rfl ?_
       refine pI_ 28 69 HT_ laws_FnCmdBytes.m31 rfl rfl ?_
       refine done_ (done_of HT_.out (by kernel_rfl)) ?_
       try go_wp2
       go_meet
       case rel => exact ⟨_, (true), (qf5_), H', ⟨qf7_⟩, ⟨rm_ HO590.out⟩, ⟨rm_ HO594.out⟩, ⟨bq_ BK587.out⟩, ⟨bq_ BK605.out⟩, ⟨bq_ BK616.out⟩, ⟨hb_ HB.out⟩⟩
      ·
       rw [if_neg c46] at H
       have c46b0 : (!(t595 == t606) || (!(t596 == t607) || (!(t597 == t608) || (!(t598 == t609) || (!(t599 == t610) || (!(t600 == t611) || (!(t601.toList == t612.toList) || (!(t602.toList == t613.toList))))))))) = false := by simpa using c46
       clear c46
       have H' := Aside0.mk H
       clear H
       obtain ⟨Ao55, co55, eo55⟩ := Kd.R_slice HO590.out
       subst eo55
       try go_wp2
       have n0_ : Aside0 (Kd.R (Kd.int .u8) 5 ((((((((w21.setCell ⟨gb616, 0, none⟩ (.int .i64 t606)).setCell ⟨gb616, 1, none⟩ (.int .i64 t607)).setCell ⟨gb616, 2, none⟩ (.int .i64 t608)).setCell ⟨gb616, 3, none⟩ (.int .i64 t609)).setCell ⟨gb616, 4, none⟩ (.int .i64 t610)).setCell ⟨gb616, 5, none⟩ (.int .i64 t611)).setCell ⟨gb616, 6, none⟩ (.string t612)).setCell ⟨gb616, 7, none⟩ (.string t613)) w.heap.size (fun k_ => some k_ ≠ (.slice Ao15 t591.length co15 : Value).ownBlock) (.slice Ao55 t588.length co55) t588) := ⟨qf1_⟩
       have n1_ : Aside0 (Kd.R (Kd.int .u8) 5 ((((((((w21.setCell ⟨gb616, 0, none⟩ (.int .i64 t606)).setCell ⟨gb616, 1, none⟩ (.int .i64 t607)).setCell ⟨gb616, 2, none⟩ (.int .i64 t608)).setCell ⟨gb616, 3, none⟩ (.int .i64 t609)).setCell ⟨gb616, 4, none⟩ (.int .i64 t610)).setCell ⟨gb616, 5, none⟩ (.int .i64 t611)).setCell ⟨gb616, 6, none⟩ (.string t612)).setCell ⟨gb616, 7, none⟩ (.string t613)) w.heap.size (fun k_ => some k_ ≠ (.slice Ao55 t588.length co55 : Value).ownBlock) (.slice Ao15 t591.length co15) t591) := ⟨qf0_⟩
       have n2_ : Aside0 (((((((((w21.setCell ⟨gb616, 0, none⟩ (.int .i64 t606)).setCell ⟨gb616, 1, none⟩ (.int .i64 t607)).setCell ⟨gb616, 2, none⟩ (.int .i64 t608)).setCell ⟨gb616, 3, none⟩ (.int .i64 t609)).setCell ⟨gb616, 4, none⟩ (.int .i64 t610)).setCell ⟨gb616, 5, none⟩ (.int .i64 t611)).setCell ⟨gb616, 6, none⟩ (.string t612)).setCell ⟨gb616, 7, none⟩ (.string t613)).heap[gb587]? = some (.cells #[.int .i64 t579, .int .i64 t580, .int .i64 t581, .int .i64 t582, .int .i64 t583, .int .i64 t584, .string t585, .string t586] 95 (0, 0))) := ⟨bf_ NB587_616.out BK587.out⟩
       have n3_ : Aside0 (((((((((w21.setCell ⟨gb616, 0, none⟩ (.int .i64 t606)).setCell ⟨gb616, 1, none⟩ (.int .i64 t607)).setCell ⟨gb616, 2, none⟩ (.int .i64 t608)).setCell ⟨gb616, 3, none⟩ (.int .i64 t609)).setCell ⟨gb616, 4, none⟩ (.int .i64 t610)).setCell ⟨gb616, 5, none⟩ (.int .i64 t611)).setCell ⟨gb616, 6, none⟩ (.string t612)).setCell ⟨gb616, 7, none⟩ (.string t613)).heap[gb605]? = some (.cells #[.int .i64 t595, .int .i64 t596, .int .i64 t597, .int .i64 t598, .int .i64 t599, .int .i64 t600, .string t601, .string t602] 95 (0, 0))) := ⟨bf_ NB605_616.out BK605.out⟩
       have n4_ : Aside0 (((((((((w21.setCell ⟨gb616, 0, none⟩ (.int .i64 t606)).setCell ⟨gb616, 1, none⟩ (.int .i64 t607)).setCell ⟨gb616, 2, none⟩ (.int .i64 t608)).setCell ⟨gb616, 3, none⟩ (.int .i64 t609)).setCell ⟨gb616, 4, none⟩ (.int .i64 t610)).setCell ⟨gb616, 5, none⟩ (.int .i64 t611)).setCell ⟨gb616, 6, none⟩ (.string t612)).setCell ⟨gb616, 7, none⟩ (.string t613)).heap[gb616]? = some (.cells #[.int .i64 t606, .int .i64 t607, .int .i64 t608, .int .i64 t609, .int .i64 t610, .int .i64 t611, .string t612, .string t613] 95 (0, 0))) := ⟨bp_ BK616.out⟩
       have n5_ : Aside0 (Below w.heap.size w ((((((((w21.setCell ⟨gb616, 0, none⟩ (.int .i64 t606)).setCell ⟨gb616, 1, none⟩ (.int .i64 t607)).setCell ⟨gb616, 2, none⟩ (.int .i64 t608)).setCell ⟨gb616, 3, none⟩ (.int .i64 t609)).setCell ⟨gb616, 4, none⟩ (.int .i64 t610)).setCell ⟨gb616, 5, none⟩ (.int .i64 t611)).setCell ⟨gb616, 6, none⟩ (.string t612)).setCell ⟨gb616, 7, none⟩ (.string t613))) := ⟨hb_ HB.out⟩
       (try clear HO590)
       (try clear HO594)
       (try clear BK587)
       (try clear BK605)
       (try clear BK616)
       (try clear HB)
       generalize ((((((((w21.setCell ⟨gb616, 0, none⟩ (.int .i64 t606)).setCell ⟨gb616, 1, none⟩ (.int .i64 t607)).setCell ⟨gb616, 2, none⟩ (.int .i64 t608)).setCell ⟨gb616, 3, none⟩ (.int .i64 t609)).setCell ⟨gb616, 4, none⟩ (.int .i64 t610)).setCell ⟨gb616, 5, none⟩ (.int .i64 t611)).setCell ⟨gb616, 6, none⟩ (.string t612)).setCell ⟨gb616, 7, none⟩ (.string t613)) = w56 at n0_ n1_ n2_ n3_ n4_ n5_ ⊢
       have HO590 := n0_
       have HO594 := n1_
       have BK587 := n2_
       have BK605 := n3_
       have BK616 := n4_
       have HB := n5_
       clear n0_ n1_ n2_ n3_ n4_ n5_
       have n0_ := Aside0.mk (Kd.R_drew HO590.out)
       have n1_ := Aside0.mk (Kd.R_drew HO594.out)
       have n2_ := Aside0.mk (blk_drew BK587.out)
       have n3_ := Aside0.mk (blk_drew BK605.out)
       have n4_ := Aside0.mk (blk_drew BK616.out)
       have n5_ := Aside0.mk (below_drew1 HB.out)
       clear HO590; clear HO594
       clear BK587; clear BK605
       clear BK616; clear HB
       have HO590 := n0_
       have HO594 := n1_
       have BK587 := n2_
       have BK605 := n3_
       have BK616 := n4_
       have HB := n5_
       clear n0_ n1_ n2_ n3_ n4_ n5_
       refine start_ (n := 29) (S := fun w' => w'.cell? ⟨gb587, 0, none⟩ = some (.int .i64 t579) ∧ w'.cell? ⟨gb587, 1, none⟩ = some (.int .i64 t580) ∧ w'.cell? ⟨gb587, 2, none⟩ = some (.int .i64 t581) ∧ w'.cell? ⟨gb587, 3, none⟩ = some (.int .i64 t582) ∧ w'.cell? ⟨gb587, 4, none⟩ = some (.int .i64 t583) ∧ w'.cell? ⟨gb587, 5, none⟩ = some (.int .i64 t584) ∧ w'.cell? ⟨gb587, 6, none⟩ = some (.string t585) ∧ w'.cell? ⟨gb587, 7, none⟩ = some (.string t586) ∧ w'.cell? ⟨gb605, 0, none⟩ = some (.int .i64 t595) ∧ w'.cell? ⟨gb605, 1, none⟩ = some (.int .i64 t596) ∧ w'.cell? ⟨gb605, 2, none⟩ = some (.int .i64 t597) ∧ w'.cell? ⟨gb605, 3, none⟩ = some (.int .i64 t598) ∧ w'.cell? ⟨gb605, 4, none⟩ = some (.int .i64 t599) ∧ w'.cell? ⟨gb605, 5, none⟩ = some (.int .i64 t600) ∧ w'.cell? ⟨gb605, 6, none⟩ = some (.string t601) ∧ w'.cell? ⟨gb605, 7, none⟩ = some (.string t602) ∧ w'.cell? ⟨gb616, 0, none⟩ = some (.int .i64 t606) ∧ w'.cell? ⟨gb616, 1, none⟩ = some (.int .i64 t607) ∧ w'.cell? ⟨gb616, 2, none⟩ = some (.int .i64 t608) ∧ w'.cell? ⟨gb616, 3, none⟩ = some (.int .i64 t609) ∧ w'.cell? ⟨gb616, 4, none⟩ = some (.int .i64 t610) ∧ w'.cell? ⟨gb616, 5, none⟩ = some (.int .i64 t611) ∧ w'.cell? ⟨gb616, 6, none⟩ = some (.string t612) ∧ w'.cell? ⟨gb616, 7, none⟩ = some (.string t613)) (ds := []) laws_FnCmdBytes.m0 (by kernel_rfl) rfl rfl ⟨bc_ BK587 0, bc_ BK587 1, bc_ BK587 2, bc_ BK587 3, bc_ BK587 4, bc_ BK587 5, bc_ BK587 6, bc_ BK587 7, bc_ BK605 0, bc_ BK605 1, bc_ BK605 2, bc_ BK605 3, bc_ BK605 4, bc_ BK605 5, bc_ BK605 6, bc_ BK605 7, bc_ BK616 0, bc_ BK616 1, bc_ BK616 2, bc_ BK616 3, bc_ BK616 4, bc_ BK616 5, bc_ BK616 6, bc_ BK616 7⟩ (fun hHeld => ?_); refine with_tabW laws_FnCmdBytes.tab8 laws_FnCmdBytes.bits8 (fun HT_ HW_ => ?_)
       generalize w56.drew = w57 at HO590 HO594 BK587 BK605 BK616 HB hHeld ⊢
       refine pI_ 0 41 HT_ laws_FnCmdBytes.m1 rfl rfl ?_
       refine tk_ 2 43 HT_ HW_ laws_FnCmdBytes.m2 rfl rfl hHeld ?_
       refine join_ (σ := Value) 24 laws_FnCmdBytes.m3 (fun s_ => [(42, .string (strOfNums t588)), (44, s_), (45, .string (strOfNums t617))]) (fun s_ w' => (w'.cell? ⟨gb587, 0, none⟩ = some (.int .i64 t579) ∧ w'.cell? ⟨gb587, 1, none⟩ = some (.int .i64 t580) ∧ w'.cell? ⟨gb587, 2, none⟩ = some (.int .i64 t581) ∧ w'.cell? ⟨gb587, 3, none⟩ = some (.int .i64 t582) ∧ w'.cell? ⟨gb587, 4, none⟩ = some (.int .i64 t583) ∧ w'.cell? ⟨gb587, 5, none⟩ = some (.int .i64 t584) ∧ w'.cell? ⟨gb587, 6, none⟩ = some (.string t585) ∧ w'.cell? ⟨gb587, 7, none⟩ = some (.string t586) ∧ w'.cell? ⟨gb605, 0, none⟩ = some (.int .i64 t595) ∧ w'.cell? ⟨gb605, 1, none⟩ = some (.int .i64 t596) ∧ w'.cell? ⟨gb605, 2, none⟩ = some (.int .i64 t597) ∧ w'.cell? ⟨gb605, 3, none⟩ = some (.int .i64 t598) ∧ w'.cell? ⟨gb605, 4, none⟩ = some (.int .i64 t599) ∧ w'.cell? ⟨gb605, 5, none⟩ = some (.int .i64 t600) ∧ w'.cell? ⟨gb605, 6, none⟩ = some (.string t601) ∧ w'.cell? ⟨gb605, 7, none⟩ = some (.string t602) ∧ w'.cell? ⟨gb616, 0, none⟩ = some (.int .i64 t606) ∧ w'.cell? ⟨gb616, 1, none⟩ = some (.int .i64 t607) ∧ w'.cell? ⟨gb616, 2, none⟩ = some (.int .i64 t608) ∧ w'.cell? ⟨gb616, 3, none⟩ = some (.int .i64 t609) ∧ w'.cell? ⟨gb616, 4, none⟩ = some (.int .i64 t610) ∧ w'.cell? ⟨gb616, 5, none⟩ = some (.int .i64 t611) ∧ w'.cell? ⟨gb616, 6, none⟩ = some (.string t612) ∧ w'.cell? ⟨gb616, 7, none⟩ = some (.string t613)) ∧ (Kd.R (Kd.int .u8) 5 w' w.heap.size (fun k_ => some k_ ≠ (.slice Ao15 t591.length co15 : Value).ownBlock ∧ some k_ ≠ (s_ : Value).ownBlock) (.slice Ao55 t588.length co55) t588) ∧ (Kd.R (Kd.int .u8) 5 w' w.heap.size (fun k_ => some k_ ≠ (.slice Ao55 t588.length co55 : Value).ownBlock ∧ some k_ ≠ (s_ : Value).ownBlock) (.slice Ao15 t591.length co15) t591) ∧ (Kd.R (Kd.int .u8) 5 w' w.heap.size (fun k_ => some k_ ≠ (.slice Ao55 t588.length co55 : Value).ownBlock ∧ some k_ ≠ (.slice Ao15 t591.length co15 : Value).ownBlock) s_ t617) ∧ (w'.heap[gb587]? = some (.cells #[.int .i64 t579, .int .i64 t580, .int .i64 t581, .int .i64 t582, .int .i64 t583, .int .i64 t584, .string t585, .string t586] 95 (0, 0))) ∧ (w'.heap[gb605]? = some (.cells #[.int .i64 t595, .int .i64 t596, .int .i64 t597, .int .i64 t598, .int .i64 t599, .int .i64 t600, .string t601, .string t602] 95 (0, 0))) ∧ (w'.heap[gb616]? = some (.cells #[.int .i64 t606, .int .i64 t607, .int .i64 t608, .int .i64 t609, .int .i64 t610, .int .i64 t611, .string t612, .string t613] 95 (0, 0))) ∧ (Below w.heap.size w w')) ?_ ?_
       rotate_left
       ·
        intro hCont
        refine two_ (i := 1) (j := 3) (Ni := some 42) (Nj := some 44) laws_FnCmdBytes.m4 laws_FnCmdBytes.m5 rfl rfl rfl rfl (two_of HT_.out (by kernel_rfl)) (by decide) (by decide) (fun K hK => ?_) (fun K hK => ?_)
        ·
         skip
         have hcv58 := own_string (P := Try.prog) Try.underlying22 Try.underlying5 Try.underlying9 (Kd.own_of_R HO590.out)
         refine value_ (w1 := ?_) (v := ?_) (by rfl) rfl ?_ ?_
         rotate_left 2
         ·
          go_simp
          constructor
          ·
           rfl
          ·
           rfl
         clear hcv58
         refine hK.out _ _ ⟨bc_ BK587 0, bc_ BK587 1, bc_ BK587 2, bc_ BK587 3, bc_ BK587 4, bc_ BK587 5, bc_ BK587 6, bc_ BK587 7, bc_ BK605 0, bc_ BK605 1, bc_ BK605 2, bc_ BK605 3, bc_ BK605 4, bc_ BK605 5, bc_ BK605 6, bc_ BK605 7, bc_ BK616 0, bc_ BK616 1, bc_ BK616 2, bc_ BK616 3, bc_ BK616 4, bc_ BK616 5, bc_ BK616 6, bc_ BK616 7⟩ (fun hHeld => ?_)
         clear hK K
         refine nm_ ?_
         refine on_ 3 44 HT_ laws_FnCmdBytes.m6 rfl rfl (fun K hK => ?_)
         refine goes_ Try.func67 (by kernel_rfl) rfl #[.agg #[.int .i64 t579, .int .i64 t580, .int .i64 t581, .int .i64 t582, .int .i64 t583, .int .i64 t584, .string t585, .string t586]] (by rfl) rfl rfl sm_ ?_
         with_reducible refine (spec_CmdBytes.calls k t579 t580 t581 t582 t583 t584 t585 t586 t617 _ A25.out).mono ?_
         rintro e w59 ⟨v618, rfl, ho0, hb⟩
         refine ⟨_, rfl, ?_⟩
         have n0_ := Aside0.mk (Kd.R_elder' (rq_ HO590.out) (Kd.R_base ho0) hb)
         have n1_ := Aside0.mk (Kd.R_elder' (rq_ HO594.out) (Kd.R_base ho0) hb)
         have n2_ := Aside0.mk (Kd.R_lower (Kd.R_new' (Kd.R_new' ho0 (Kd.R_lt (rq_ HO590.out))) (Kd.R_lt (rq_ HO594.out))) (below_size (hb_ HB.out)))
         have n3_ := Aside0.mk (bb_ BK587.out hb)
         have n4_ := Aside0.mk (bb_ BK605.out hb)
         have n5_ := Aside0.mk (bb_ BK616.out hb)
         have n6_ := Aside0.mk (below_step (hb_ HB.out) hb)
         clear HO590; clear HO594
         clear BK587; clear BK605
         clear BK616; clear HB
         have HO590 := n0_
         have HO594 := n1_
         have HO619 := n2_
         have BK587 := n3_
         have BK605 := n4_
         have BK616 := n5_
         have HB := n6_
         clear n0_ n1_ n2_ n3_ n4_ n5_ n6_
         (try clear hb)
         (try clear hb2)
         (try clear hk)
         (try clear hi)
         (try clear ho0)
         refine hK.out _ _ ⟨bc_ BK587 0, bc_ BK587 1, bc_ BK587 2, bc_ BK587 3, bc_ BK587 4, bc_ BK587 5, bc_ BK587 6, bc_ BK587 7, bc_ BK605 0, bc_ BK605 1, bc_ BK605 2, bc_ BK605 3, bc_ BK605 4, bc_ BK605 5, bc_ BK605 6, bc_ BK605 7, bc_ BK616 0, bc_ BK616 1, bc_ BK616 2, bc_ BK616 3, bc_ BK616 4, bc_ BK616 5, bc_ BK616 6, bc_ BK616 7⟩ (fun hHeld => ?_)
         clear hK K
         refine nm_ ?_
         refine on_ 4 45 HT_ laws_FnCmdBytes.m3 rfl rfl (fun K hK => ?_)
         have hcv60 := own_string (P := Try.prog) Try.underlying22 Try.underlying5 Try.underlying9 (Kd.own_of_R HO619.out)
         refine value_ (w1 := ?_) (v := ?_) (by rfl) rfl ?_ ?_
         rotate_left 2
         ·
          go_simp
          constructor
          ·
           rfl
          ·
           rfl
         clear hcv60
         refine hK.out _ _ ⟨bc_ BK587 0, bc_ BK587 1, bc_ BK587 2, bc_ BK587 3, bc_ BK587 4, bc_ BK587 5, bc_ BK587 6, bc_ BK587 7, bc_ BK605 0, bc_ BK605 1, bc_ BK605 2, bc_ BK605 3, bc_ BK605 4, bc_ BK605 5, bc_ BK605 6, bc_ BK605 7, bc_ BK616 0, bc_ BK616 1, bc_ BK616 2, bc_ BK616 3, bc_ BK616 4, bc_ BK616 5, bc_ BK616 6, bc_ BK616 7⟩ (fun hHeld => ?_)
         clear hK K
         refine nm_ ?_
         exact norm_ (qf2_) (hCont (v618) _ ⟨hHeld, (rq_ HO590.out), (rq_ HO594.out), (rm_ HO619.out), (bq_ BK587.out), (bq_ BK605.out), (bq_ BK616.out), (hb_ HB.out)⟩)
        ·
         skip
         refine goes_ Try.func67 (by kernel_rfl) rfl #[.agg #[.int .i64 t579, .int .i64 t580, .int .i64 t581, .int .i64 t582, .int .i64 t583, .int .i64 t584, .string t585, .string t586]] (by rfl) rfl rfl sm_ ?_
         with_reducible refine (spec_CmdBytes.calls k t579 t580 t581 t582 t583 t584 t585 t586 t617 _ A25.out).mono ?_
         rintro e w58 ⟨v618, rfl, ho0, hb⟩
         refine ⟨_, rfl, ?_⟩
         have n0_ := Aside0.mk (Kd.R_elder' (rq_ HO590.out) (Kd.R_base ho0) hb)
         have n1_ := Aside0.mk (Kd.R_elder' (rq_ HO594.out) (Kd.R_base ho0) hb)
         have n2_ := Aside0.mk (Kd.R_lower (Kd.R_new' (Kd.R_new' ho0 (Kd.R_lt (rq_ HO590.out))) (Kd.R_lt (rq_ HO594.out))) (below_size (hb_ HB.out)))
         have n3_ := Aside0.mk (bb_ BK587.out hb)
         have n4_ := Aside0.mk (bb_ BK605.out hb)
         have n5_ := Aside0.mk (bb_ BK616.out hb)
         have n6_ := Aside0.mk (below_step (hb_ HB.out) hb)
         clear HO590; clear HO594
         clear BK587; clear BK605
         clear BK616; clear HB
         have HO590 := n0_
         have HO594 := n1_
         have HO619 := n2_
         have BK587 := n3_
         have BK605 := n4_
         have BK616 := n5_
         have HB := n6_
         clear n0_ n1_ n2_ n3_ n4_ n5_ n6_
         (try clear hb)
         (try clear hb2)
         (try clear hk)
         (try clear hi)
         (try clear ho0)
         refine hK.out _ _ ⟨bc_ BK587 0, bc_ BK587 1, bc_ BK587 2, bc_ BK587 3, bc_ BK587 4, bc_ BK587 5, bc_ BK587 6, bc_ BK587 7, bc_ BK605 0, bc_ BK605 1, bc_ BK605 2, bc_ BK605 3, bc_ BK605 4, bc_ BK605 5, bc_ BK605 6, bc_ BK605 7, bc_ BK616 0, bc_ BK616 1, bc_ BK616 2, bc_ BK616 3, bc_ BK616 4, bc_ BK616 5, bc_ BK616 6, bc_ BK616 7⟩ (fun hHeld => ?_)
         clear hK K
         refine nm_ ?_
         refine two_ (i := 1) (j := 4) (Ni := some 42) (Nj := some 45) laws_FnCmdBytes.m6 laws_FnCmdBytes.m7 rfl rfl rfl rfl (two_of HT_.out (by kernel_rfl)) (by decide) (by decide) (fun K hK => ?_) (fun K hK => ?_)
         ·
          skip
          have hcv59 := own_string (P := Try.prog) Try.underlying22 Try.underlying5 Try.underlying9 (Kd.own_of_R HO590.out)
          refine value_ (w1 := ?_) (v := ?_) (by rfl) rfl ?_ ?_
          rotate_left 2
          ·
           go_simp
           constructor
           ·
            rfl
           ·
            rfl
          clear hcv59
          refine hK.out _ _ ⟨bc_ BK587 0, bc_ BK587 1, bc_ BK587 2, bc_ BK587 3, bc_ BK587 4, bc_ BK587 5, bc_ BK587 6, bc_ BK587 7, bc_ BK605 0, bc_ BK605 1, bc_ BK605 2, bc_ BK605 3, bc_ BK605 4, bc_ BK605 5, bc_ BK605 6, bc_ BK605 7, bc_ BK616 0, bc_ BK616 1, bc_ BK616 2, bc_ BK616 3, bc_ BK616 4, bc_ BK616 5, bc_ BK616 6, bc_ BK616 7⟩ (fun hHeld => ?_)
          clear hK K
          refine nm_ ?_
          refine on_ 4 45 HT_ laws_FnCmdBytes.m3 rfl rfl (fun K hK => ?_)
          have hcv60 := own_string (P := Try.prog) Try.underlying22 Try.underlying5 Try.underlying9 (Kd.own_of_R HO619.out)
          refine value_ (w1 := ?_) (v := ?_) (by rfl) rfl ?_ ?_
          rotate_left 2
          ·
           go_simp
           constructor
           ·
            rfl
           ·
            rfl
          clear hcv60
          refine hK.out _ _ ⟨bc_ BK587 0, bc_ BK587 1, bc_ BK587 2, bc_ BK587 3, bc_ BK587 4, bc_ BK587 5, bc_ BK587 6, bc_ BK587 7, bc_ BK605 0, bc_ BK605 1, bc_ BK605 2, bc_ BK605 3, bc_ BK605 4, bc_ BK605 5, bc_ BK605 6, bc_ BK605 7, bc_ BK616 0, bc_ BK616 1, bc_ BK616 2, bc_ BK616 3, bc_ BK616 4, bc_ BK616 5, bc_ BK616 6, bc_ BK616 7⟩ (fun hHeld => ?_)
          clear hK K
          refine nm_ ?_
          exact norm_ (qf2_) (hCont (v618) _ ⟨hHeld, (rq_ HO590.out), (rq_ HO594.out), (rm_ HO619.out), (bq_ BK587.out), (bq_ BK605.out), (bq_ BK616.out), (hb_ HB.out)⟩)
         ·
          skip
          have hcv59 := own_string (P := Try.prog) Try.underlying22 Try.underlying5 Try.underlying9 (Kd.own_of_R HO619.out)
          refine value_ (w1 := ?_) (v := ?_) (by rfl) rfl ?_ ?_
          rotate_left 2
          ·
           go_simp
           constructor
           ·
            rfl
           ·
            rfl
          clear hcv59
          refine hK.out _ _ ⟨bc_ BK587 0, bc_ BK587 1, bc_ BK587 2, bc_ BK587 3, bc_ BK587 4, bc_ BK587 5, bc_ BK587 6, bc_ BK587 7, bc_ BK605 0, bc_ BK605 1, bc_ BK605 2, bc_ BK605 3, bc_ BK605 4, bc_ BK605 5, bc_ BK605 6, bc_ BK605 7, bc_ BK616 0, bc_ BK616 1, bc_ BK616 2, bc_ BK616 3, bc_ BK616 4, bc_ BK616 5, bc_ BK616 6, bc_ BK616 7⟩ (fun hHeld => ?_)
          clear hK K
          refine nm_ ?_
          refine on_ 1 42 HT_ laws_FnCmdBytes.m3 rfl rfl (fun K hK => ?_)
          have hcv60 := own_string (P := Try.prog) Try.underlying22 Try.underlying5 Try.underlying9 (Kd.own_of_R HO590.out)
          refine value_ (w1 := ?_) (v := ?_) (by rfl) rfl ?_ ?_
          rotate_left 2
          ·
           go_simp
           constructor
           ·
            rfl
           ·
            rfl
          clear hcv60
          refine hK.out _ _ ⟨bc_ BK587 0, bc_ BK587 1, bc_ BK587 2, bc_ BK587 3, bc_ BK587 4, bc_ BK587 5, bc_ BK587 6, bc_ BK587 7, bc_ BK605 0, bc_ BK605 1, bc_ BK605 2, bc_ BK605 3, bc_ BK605 4, bc_ BK605 5, bc_ BK605 6, bc_ BK605 7, bc_ BK616 0, bc_ BK616 1, bc_ BK616 2, bc_ BK616 3, bc_ BK616 4, bc_ BK616 5, bc_ BK616 6, bc_ BK616 7⟩ (fun hHeld => ?_)
          clear hK K
          refine nm_ ?_
          exact norm_ (qf2_) (hCont (v618) _ ⟨hHeld, (rq_ HO590.out), (rq_ HO594.out), (rm_ HO619.out), (bq_ BK587.out), (bq_ BK605.out), (bq_ BK616.out), (hb_ HB.out)⟩)
       rintro v618 w61 ⟨hS_, h0_, h1_, h2_, h3_, h4_, h5_, h6_⟩
       have n0_ : Aside0 (Kd.R (Kd.int .u8) 5 w61 w.heap.size (fun k_ => some k_ ≠ (.slice Ao15 t591.length co15 : Value).ownBlock ∧ some k_ ≠ (v618 : Value).ownBlock) (.slice Ao55 t588.length co55) t588) := ⟨h0_⟩
       have n1_ : Aside0 (Kd.R (Kd.int .u8) 5 w61 w.heap.size (fun k_ => some k_ ≠ (.slice Ao55 t588.length co55 : Value).ownBlock ∧ some k_ ≠ (v618 : Value).ownBlock) (.slice Ao15 t591.length co15) t591) := ⟨h1_⟩
       have n2_ : Aside0 (Kd.R (Kd.int .u8) 5 w61 w.heap.size (fun k_ => some k_ ≠ (.slice Ao55 t588.length co55 : Value).ownBlock ∧ some k_ ≠ (.slice Ao15 t591.length co15 : Value).ownBlock) v618 t617) := ⟨h2_⟩
       have n3_ : Aside0 (w61.heap[gb587]? = some (.cells #[.int .i64 t579, .int .i64 t580, .int .i64 t581, .int .i64 t582, .int .i64 t583, .int .i64 t584, .string t585, .string t586] 95 (0, 0))) := ⟨h3_⟩
       have n4_ : Aside0 (w61.heap[gb605]? = some (.cells #[.int .i64 t595, .int .i64 t596, .int .i64 t597, .int .i64 t598, .int .i64 t599, .int .i64 t600, .string t601, .string t602] 95 (0, 0))) := ⟨h4_⟩
       have n5_ : Aside0 (w61.heap[gb616]? = some (.cells #[.int .i64 t606, .int .i64 t607, .int .i64 t608, .int .i64 t609, .int .i64 t610, .int .i64 t611, .string t612, .string t613] 95 (0, 0))) := ⟨h5_⟩
       have n6_ : Aside0 (Below w.heap.size w w61) := ⟨h6_⟩
       clear HO590; clear HO594
       clear BK587; clear BK605
       clear BK616; clear HB
       clear h0_ h1_ h2_ h3_ h4_ h5_ h6_
       have HO590 := n0_
       have HO594 := n1_
       have HO619 := n2_
       have BK587 := n3_
       have BK605 := n4_
       have BK616 := n5_
       have HB := n6_
       clear n0_ n1_ n2_ n3_ n4_ n5_ n6_
       have hHeld : w61.cell? ⟨gb587, 0, none⟩ = some (.int .i64 t579) ∧ w61.cell? ⟨gb587, 1, none⟩ = some (.int .i64 t580) ∧ w61.cell? ⟨gb587, 2, none⟩ = some (.int .i64 t581) ∧ w61.cell? ⟨gb587, 3, none⟩ = some (.int .i64 t582) ∧ w61.cell? ⟨gb587, 4, none⟩ = some (.int .i64 t583) ∧ w61.cell? ⟨gb587, 5, none⟩ = some (.int .i64 t584) ∧ w61.cell? ⟨gb587, 6, none⟩ = some (.string t585) ∧ w61.cell? ⟨gb587, 7, none⟩ = some (.string t586) ∧ w61.cell? ⟨gb605, 0, none⟩ = some (.int .i64 t595) ∧ w61.cell? ⟨gb605, 1, none⟩ = some (.int .i64 t596) ∧ w61.cell? ⟨gb605, 2, none⟩ = some (.int .i64 t597) ∧ w61.cell? ⟨gb605, 3, none⟩ = some (.int .i64 t598) ∧ w61.cell? ⟨gb605, 4, none⟩ = some (.int .i64 t599) ∧ w61.cell? ⟨gb605, 5, none⟩ = some (.int .i64 t600) ∧ w61.cell? ⟨gb605, 6, none⟩ = some (.string t601) ∧ w61.cell? ⟨gb605, 7, none⟩ = some (.string t602) ∧ w61.cell? ⟨gb616, 0, none⟩ = some (.int .i64 t606) ∧ w61.cell? ⟨gb616, 1, none⟩ = some (.int .i64 t607) ∧ w61.cell? ⟨gb616, 2, none⟩ = some (.int .i64 t608) ∧ w61.cell? ⟨gb616, 3, none⟩ = some (.int .i64 t609) ∧ w61.cell? ⟨gb616, 4, none⟩ = some (.int .i64 t610) ∧ w61.cell? ⟨gb616, 5, none⟩ = some (.int .i64 t611) ∧ w61.cell? ⟨gb616, 6, none⟩ = some (.string t612) ∧ w61.cell? ⟨gb616, 7, none⟩ = some (.string t613) := hS_
       refine norm_ (a' := ?_) ?_ ?_
       rotate_left; (focus simp only [putAll, Act.put, List.setIfInBounds_toArray, List.set_cons_zero, List.set_cons_succ]; rfl)
       refine pI_ 5 46 HT_ laws_FnCmdBytes.m8 rfl rfl ?_
       refine pI_ 6 47 HT_ laws_FnCmdBytes.m9 rfl rfl ?_
       refine pI_ 7 48 HT_ laws_FnCmdBytes.m10 rfl rfl ?_
       refine pI_ 8 49 HT_ laws_FnCmdBytes.m11 rfl rfl ?_
       refine pI_ 9 50 HT_ laws_FnCmdBytes.m12 rfl rfl ?_
       refine tk_ 10 51 HT_ HW_ laws_FnCmdBytes.m13 rfl rfl hHeld ?_
       refine on_ 11 52 HT_ laws_FnCmdBytes.m14 rfl rfl (fun K hK => ?_)
       refine goes_ Try.func68 (by kernel_rfl) rfl #[.agg #[.int .i64 t579, .int .i64 t580, .int .i64 t581, .int .i64 t582, .int .i64 t583, .int .i64 t584, .string t585, .string t586]] (by rfl) rfl rfl sm_ ?_
       with_reducible refine (impl_CmdOk.calls k t579 t580 t581 t582 t583 t584 t585 t586 t620 _ A27.out).mono ?_
       rintro e w62 ⟨rfl, hb⟩
       refine ⟨_, rfl, ?_⟩
       have n0_ := Aside0.mk (Kd.R_below (rq_ HO590.out) hb)
       have n1_ := Aside0.mk (Kd.R_below (rq_ HO594.out) hb)
       have n2_ := Aside0.mk (Kd.R_below (rq_ HO619.out) hb)
       have n3_ := Aside0.mk (bb_ BK587.out hb)
       have n4_ := Aside0.mk (bb_ BK605.out hb)
       have n5_ := Aside0.mk (bb_ BK616.out hb)
       have n6_ := Aside0.mk (below_step (hb_ HB.out) hb)
       clear HO590; clear HO594
       clear HO619; clear BK587
       clear BK605; clear BK616
       clear HB
       have HO590 := n0_
       have HO594 := n1_
       have HO619 := n2_
       have BK587 := n3_
       have BK605 := n4_
       have BK616 := n5_
       have HB := n6_
       clear n0_ n1_ n2_ n3_ n4_ n5_ n6_
       (try clear hb)
       (try clear hb2)
       (try clear hk)
       (try clear hi)
       refine hK.out _ _ ⟨bc_ BK587 0, bc_ BK587 1, bc_ BK587 2, bc_ BK587 3, bc_ BK587 4, bc_ BK587 5, bc_ BK587 6, bc_ BK587 7, bc_ BK605 0, bc_ BK605 1, bc_ BK605 2, bc_ BK605 3, bc_ BK605 4, bc_ BK605 5, bc_ BK605 6, bc_ BK605 7, bc_ BK616 0, bc_ BK616 1, bc_ BK616 2, bc_ BK616 3, bc_ BK616 4, bc_ BK616 5, bc_ BK616 6, bc_ BK616 7⟩ (fun hHeld => ?_)
       clear hK K
       refine nm_ ?_
       refine pI_ 12 53 HT_ laws_FnCmdBytes.m15 rfl rfl ?_
       refine pI_ 13 54 HT_ laws_FnCmdBytes.m16 rfl rfl ?_
       refine pI_ 14 55 HT_ laws_FnCmdBytes.m17 rfl rfl ?_
       refine pI_ 15 56 HT_ laws_FnCmdBytes.m18 rfl rfl ?_
       refine pI_ 16 57 HT_ laws_FnCmdBytes.m19 rfl rfl ?_
       refine pI_ 17 58 HT_ laws_FnCmdBytes.m20 rfl rfl ?_
       refine pI_ 18 59 HT_ laws_FnCmdBytes.m21 rfl rfl ?_
       refine pI_ 19 60 HT_ laws_FnCmdBytes.m22 rfl rfl ?_
       refine tk_ 20 61 HT_ HW_ laws_FnCmdBytes.m23 rfl rfl hHeld ?_
       refine tk_ 21 62 HT_ HW_ laws_FnCmdBytes.m24 rfl rfl hHeld ?_
       refine pI_ 22 63 HT_ laws_FnCmdBytes.m25 rfl rfl ?_
       refine pI_ 23 64 HT_ laws_FnCmdBytes.m26 rfl rfl ?_
       refine pI_ 24 65 HT_ laws_FnCmdBytes.m27 rfl rfl ?_
       refine pI_ 25 66 HT_ laws_FnCmdBytes.m28 rfl rfl ?_
       refine pI_ 26 67 HT_ laws_FnCmdBytes.m29 rfl rfl ?_
       refine pI_ 27 68 HT_ laws_FnCmdBytes.m30 rfl rfl ?_
       refine pI_ 28 69 HT_ laws_FnCmdBytes.m31 rfl rfl ?_
       refine done_ (done_of HT_.out (by kernel_rfl)) ?_
       try go_wp2
       go_meet
       case rel => exact ⟨_, ((t603 != t614)), (qf5_), H', ⟨qf7_⟩, ⟨rm_ HO590.out⟩, ⟨rm_ HO594.out⟩, ⟨bq_ BK587.out⟩, ⟨bq_ BK605.out⟩, ⟨bq_ BK616.out⟩, ⟨hb_ HB.out⟩⟩
   ·
    rw [if_neg c26] at H
    have c26b0 : ((strOfNums t588).toList == (strOfNums t617).toList) = false := beq_eq_false_iff_ne.mpr c26
    have c26b1 : ((strOfNums t588).toList != (strOfNums t617).toList) = true := bne_iff_ne.mpr c26
    (first | rw [c26b0] | (simp only [i64_w, i32_w]; rw [c26b0]) | rw [c26b4] | rw [c26b3] | skip)
    have H' := Aside0.mk H
    clear H
    try go_wp2
    have n0_ : Aside0 (Kd.R (Kd.int .u8) 5 ((((((((w21.setCell ⟨gb616, 0, none⟩ (.int .i64 t606)).setCell ⟨gb616, 1, none⟩ (.int .i64 t607)).setCell ⟨gb616, 2, none⟩ (.int .i64 t608)).setCell ⟨gb616, 3, none⟩ (.int .i64 t609)).setCell ⟨gb616, 4, none⟩ (.int .i64 t610)).setCell ⟨gb616, 5, none⟩ (.int .i64 t611)).setCell ⟨gb616, 6, none⟩ (.string t612)).setCell ⟨gb616, 7, none⟩ (.string t613)) w.heap.size (fun k_ => some k_ ≠ (.slice Ao15 t591.length co15 : Value).ownBlock) v589 t588) := ⟨qf1_⟩
    have n1_ : Aside0 (Kd.R (Kd.int .u8) 5 ((((((((w21.setCell ⟨gb616, 0, none⟩ (.int .i64 t606)).setCell ⟨gb616, 1, none⟩ (.int .i64 t607)).setCell ⟨gb616, 2, none⟩ (.int .i64 t608)).setCell ⟨gb616, 3, none⟩ (.int .i64 t609)).setCell ⟨gb616, 4, none⟩ (.int .i64 t610)).setCell ⟨gb616, 5, none⟩ (.int .i64 t611)).setCell ⟨gb616, 6, none⟩ (.string t612)).setCell ⟨gb616, 7, none⟩ (.string t613)) w.heap.size (fun k_ => some k_ ≠ (v589 : Value).ownBlock) (.slice Ao15 t591.length co15) t591) := ⟨qf0_⟩
    have n2_ : Aside0 (((((((((w21.setCell ⟨gb616, 0, none⟩ (.int .i64 t606)).setCell ⟨gb616, 1, none⟩ (.int .i64 t607)).setCell ⟨gb616, 2, none⟩ (.int .i64 t608)).setCell ⟨gb616, 3, none⟩ (.int .i64 t609)).setCell ⟨gb616, 4, none⟩ (.int .i64 t610)).setCell ⟨gb616, 5, none⟩ (.int .i64 t611)).setCell ⟨gb616, 6, none⟩ (.string t612)).setCell ⟨gb616, 7, none⟩ (.string t613)).heap[gb587]? = some (.cells #[.int .i64 t579, .int .i64 t580, .int .i64 t581, .int .i64 t582, .int .i64 t583, .int .i64 t584, .string t585, .string t586] 95 (0, 0))) := ⟨bf_ NB587_616.out BK587.out⟩
    have n3_ : Aside0 (((((((((w21.setCell ⟨gb616, 0, none⟩ (.int .i64 t606)).setCell ⟨gb616, 1, none⟩ (.int .i64 t607)).setCell ⟨gb616, 2, none⟩ (.int .i64 t608)).setCell ⟨gb616, 3, none⟩ (.int .i64 t609)).setCell ⟨gb616, 4, none⟩ (.int .i64 t610)).setCell ⟨gb616, 5, none⟩ (.int .i64 t611)).setCell ⟨gb616, 6, none⟩ (.string t612)).setCell ⟨gb616, 7, none⟩ (.string t613)).heap[gb605]? = some (.cells #[.int .i64 t595, .int .i64 t596, .int .i64 t597, .int .i64 t598, .int .i64 t599, .int .i64 t600, .string t601, .string t602] 95 (0, 0))) := ⟨bf_ NB605_616.out BK605.out⟩
    have n4_ : Aside0 (((((((((w21.setCell ⟨gb616, 0, none⟩ (.int .i64 t606)).setCell ⟨gb616, 1, none⟩ (.int .i64 t607)).setCell ⟨gb616, 2, none⟩ (.int .i64 t608)).setCell ⟨gb616, 3, none⟩ (.int .i64 t609)).setCell ⟨gb616, 4, none⟩ (.int .i64 t610)).setCell ⟨gb616, 5, none⟩ (.int .i64 t611)).setCell ⟨gb616, 6, none⟩ (.string t612)).setCell ⟨gb616, 7, none⟩ (.string t613)).heap[gb616]? = some (.cells #[.int .i64 t606, .int .i64 t607, .int .i64 t608, .int .i64 t609, .int .i64 t610, .int .i64 t611, .string t612, .string t613] 95 (0, 0))) := ⟨bp_ BK616.out⟩
    have n5_ : Aside0 (Below w.heap.size w ((((((((w21.setCell ⟨gb616, 0, none⟩ (.int .i64 t606)).setCell ⟨gb616, 1, none⟩ (.int .i64 t607)).setCell ⟨gb616, 2, none⟩ (.int .i64 t608)).setCell ⟨gb616, 3, none⟩ (.int .i64 t609)).setCell ⟨gb616, 4, none⟩ (.int .i64 t610)).setCell ⟨gb616, 5, none⟩ (.int .i64 t611)).setCell ⟨gb616, 6, none⟩ (.string t612)).setCell ⟨gb616, 7, none⟩ (.string t613))) := ⟨hb_ HB.out⟩
    (try clear HO590)
    (try clear HO594)
    (try clear BK587)
    (try clear BK605)
    (try clear BK616)
    (try clear HB)
    generalize ((((((((w21.setCell ⟨gb616, 0, none⟩ (.int .i64 t606)).setCell ⟨gb616, 1, none⟩ (.int .i64 t607)).setCell ⟨gb616, 2, none⟩ (.int .i64 t608)).setCell ⟨gb616, 3, none⟩ (.int .i64 t609)).setCell ⟨gb616, 4, none⟩ (.int .i64 t610)).setCell ⟨gb616, 5, none⟩ (.int .i64 t611)).setCell ⟨gb616, 6, none⟩ (.string t612)).setCell ⟨gb616, 7, none⟩ (.string t613)) = w63 at n0_ n1_ n2_ n3_ n4_ n5_ ⊢
    have HO590 := n0_
    have HO594 := n1_
    have BK587 := n2_
    have BK605 := n3_
    have BK616 := n4_
    have HB := n5_
    clear n0_ n1_ n2_ n3_ n4_ n5_
    have n0_ := Aside0.mk (Kd.R_drew HO590.out)
    have n1_ := Aside0.mk (Kd.R_drew HO594.out)
    have n2_ := Aside0.mk (blk_drew BK587.out)
    have n3_ := Aside0.mk (blk_drew BK605.out)
    have n4_ := Aside0.mk (blk_drew BK616.out)
    have n5_ := Aside0.mk (below_drew1 HB.out)
    clear HO590; clear HO594
    clear BK587; clear BK605
    clear BK616; clear HB
    have HO590 := n0_
    have HO594 := n1_
    have BK587 := n2_
    have BK605 := n3_
    have BK616 := n4_
    have HB := n5_
    clear n0_ n1_ n2_ n3_ n4_ n5_
    refine start_ (n := 29) (S := fun w' => w'.cell? ⟨gb587, 0, none⟩ = some (.int .i64 t579) ∧ w'.cell? ⟨gb587, 1, none⟩ = some (.int .i64 t580) ∧ w'.cell? ⟨gb587, 2, none⟩ = some (.int .i64 t581) ∧ w'.cell? ⟨gb587, 3, none⟩ = some (.int .i64 t582) ∧ w'.cell? ⟨gb587, 4, none⟩ = some (.int .i64 t583) ∧ w'.cell? ⟨gb587, 5, none⟩ = some (.int .i64 t584) ∧ w'.cell? ⟨gb587, 6, none⟩ = some (.string t585) ∧ w'.cell? ⟨gb587, 7, none⟩ = some (.string t586)) (ds := []) laws_FnCmdBytes.m0 (by kernel_rfl) rfl rfl ⟨bc_ BK587 0, bc_ BK587 1, bc_ BK587 2, bc_ BK587 3, bc_ BK587 4, bc_ BK587 5, bc_ BK587 6, bc_ BK587 7⟩ (fun hHeld => ?_); refine with_tabW laws_FnCmdBytes.tab8 laws_FnCmdBytes.bits8 (fun HT_ HW_ => ?_)
    generalize w63.drew = w64 at HO590 HO594 BK587 BK605 BK616 HB hHeld ⊢
    refine pI_ 0 41 HT_ laws_FnCmdBytes.m1 rfl rfl ?_
    refine tk_ 2 43 HT_ HW_ laws_FnCmdBytes.m2 rfl rfl hHeld ?_
    refine join_ (σ := Value) 24 laws_FnCmdBytes.m3 (fun s_ => [(42, .string (strOfNums t588)), (44, s_), (45, .string (strOfNums t617))]) (fun s_ w' => (w'.cell? ⟨gb587, 0, none⟩ = some (.int .i64 t579) ∧ w'.cell? ⟨gb587, 1, none⟩ = some (.int .i64 t580) ∧ w'.cell? ⟨gb587, 2, none⟩ = some (.int .i64 t581) ∧ w'.cell? ⟨gb587, 3, none⟩ = some (.int .i64 t582) ∧ w'.cell? ⟨gb587, 4, none⟩ = some (.int .i64 t583) ∧ w'.cell? ⟨gb587, 5, none⟩ = some (.int .i64 t584) ∧ w'.cell? ⟨gb587, 6, none⟩ = some (.string t585) ∧ w'.cell? ⟨gb587, 7, none⟩ = some (.string t586)) ∧ (Kd.R (Kd.int .u8) 5 w' w.heap.size (fun k_ => some k_ ≠ (.slice Ao15 t591.length co15 : Value).ownBlock ∧ some k_ ≠ (s_ : Value).ownBlock) v589 t588) ∧ (Kd.R (Kd.int .u8) 5 w' w.heap.size (fun k_ => some k_ ≠ (v589 : Value).ownBlock ∧ some k_ ≠ (s_ : Value).ownBlock) (.slice Ao15 t591.length co15) t591) ∧ (Kd.R (Kd.int .u8) 5 w' w.heap.size (fun k_ => some k_ ≠ (v589 : Value).ownBlock ∧ some k_ ≠ (.slice Ao15 t591.length co15 : Value).ownBlock) s_ t617) ∧ (w'.heap[gb587]? = some (.cells #[.int .i64 t579, .int .i64 t580, .int .i64 t581, .int .i64 t582, .int .i64 t583, .int .i64 t584, .string t585, .string t586] 95 (0, 0))) ∧ (w'.heap[gb605]? = some (.cells #[.int .i64 t595, .int .i64 t596, .int .i64 t597, .int .i64 t598, .int .i64 t599, .int .i64 t600, .string t601, .string t602] 95 (0, 0))) ∧ (w'.heap[gb616]? = some (.cells #[.int .i64 t606, .int .i64 t607, .int .i64 t608, .int .i64 t609, .int .i64 t610, .int .i64 t611, .string t612, .string t613] 95 (0, 0))) ∧ (Below w.heap.size w w')) ?_ ?_
    rotate_left
    ·
     intro hCont
     refine two_ (i := 1) (j := 3) (Ni := some 42) (Nj := some 44) laws_FnCmdBytes.m4 laws_FnCmdBytes.m5 rfl rfl rfl rfl (two_of HT_.out (by kernel_rfl)) (by decide) (by decide) (fun K hK => ?_) (fun K hK => ?_)
     ·
      skip
      have hcv65 := own_string (P := Try.prog) Try.underlying22 Try.underlying5 Try.underlying9 (Kd.own_of_R HO590.out)
      refine value_ (w1 := ?_) (v := ?_) (by rfl) rfl ?_ ?_
      rotate_left 2
      ·
       go_simp
       constructor
       ·
        rfl
       ·
        rfl
      clear hcv65
      refine hK.out _ _ ⟨bc_ BK587 0, bc_ BK587 1, bc_ BK587 2, bc_ BK587 3, bc_ BK587 4, bc_ BK587 5, bc_ BK587 6, bc_ BK587 7⟩ (fun hHeld => ?_)
      clear hK K
      refine nm_ ?_
      refine on_ 3 44 HT_ laws_FnCmdBytes.m6 rfl rfl (fun K hK => ?_)
      refine goes_ Try.func67 (by kernel_rfl) rfl #[.agg #[.int .i64 t579, .int .i64 t580, .int .i64 t581, .int .i64 t582, .int .i64 t583, .int .i64 t584, .string t585, .string t586]] (by rfl) rfl rfl sm_ ?_
      with_reducible refine (spec_CmdBytes.calls k t579 t580 t581 t582 t583 t584 t585 t586 t617 _ A25.out).mono ?_
      rintro e w66 ⟨v618, rfl, ho0, hb⟩
      refine ⟨_, rfl, ?_⟩
      have n0_ := Aside0.mk (Kd.R_elder' (rq_ HO590.out) (Kd.R_base ho0) hb)
      have n1_ := Aside0.mk (Kd.R_elder' (rq_ HO594.out) (Kd.R_base ho0) hb)
      have n2_ := Aside0.mk (Kd.R_lower (Kd.R_new' (Kd.R_new' ho0 (Kd.R_lt (rq_ HO590.out))) (Kd.R_lt (rq_ HO594.out))) (below_size (hb_ HB.out)))
      have n3_ := Aside0.mk (bb_ BK587.out hb)
      have n4_ := Aside0.mk (bb_ BK605.out hb)
      have n5_ := Aside0.mk (bb_ BK616.out hb)
      have n6_ := Aside0.mk (below_step (hb_ HB.out) hb)
      clear HO590; clear HO594
      clear BK587; clear BK605
      clear BK616; clear HB
      have HO590 := n0_
      have HO594 := n1_
      have HO619 := n2_
      have BK587 := n3_
      have BK605 := n4_
      have BK616 := n5_
      have HB := n6_
      clear n0_ n1_ n2_ n3_ n4_ n5_ n6_
      (try clear hb)
      (try clear hb2)
      (try clear hk)
      (try clear hi)
      (try clear ho0)
      refine hK.out _ _ ⟨bc_ BK587 0, bc_ BK587 1, bc_ BK587 2, bc_ BK587 3, bc_ BK587 4, bc_ BK587 5, bc_ BK587 6, bc_ BK587 7⟩ (fun hHeld => ?_)
      clear hK K
      refine nm_ ?_
      refine on_ 4 45 HT_ laws_FnCmdBytes.m3 rfl rfl (fun K hK => ?_)
      have hcv67 := own_string (P := Try.prog) Try.underlying22 Try.underlying5 Try.underlying9 (Kd.own_of_R HO619.out)
      refine value_ (w1 := ?_) (v := ?_) (by rfl) rfl ?_ ?_
      rotate_left 2
      ·
       go_simp
       constructor
       ·
        rfl
       ·
        rfl
      clear hcv67
      refine hK.out _ _ ⟨bc_ BK587 0, bc_ BK587 1, bc_ BK587 2, bc_ BK587 3, bc_ BK587 4, bc_ BK587 5, bc_ BK587 6, bc_ BK587 7⟩ (fun hHeld => ?_)
      clear hK K
      refine nm_ ?_
      exact norm_ (qf2_) (hCont (v618) _ ⟨hHeld, (rq_ HO590.out), (rq_ HO594.out), (rm_ HO619.out), (bq_ BK587.out), (bq_ BK605.out), (bq_ BK616.out), (hb_ HB.out)⟩)
     ·
      skip
      refine goes_ Try.func67 (by kernel_rfl) rfl #[.agg #[.int .i64 t579, .int .i64 t580, .int .i64 t581, .int .i64 t582, .int .i64 t583, .int .i64 t584, .string t585, .string t586]] (by rfl) rfl rfl sm_ ?_
      with_reducible refine (spec_CmdBytes.calls k t579 t580 t581 t582 t583 t584 t585 t586 t617 _ A25.out).mono ?_
      rintro e w65 ⟨v618, rfl, ho0, hb⟩
      refine ⟨_, rfl, ?_⟩
      have n0_ := Aside0.mk (Kd.R_elder' (rq_ HO590.out) (Kd.R_base ho0) hb)
      have n1_ := Aside0.mk (Kd.R_elder' (rq_ HO594.out) (Kd.R_base ho0) hb)
      have n2_ := Aside0.mk (Kd.R_lower (Kd.R_new' (Kd.R_new' ho0 (Kd.R_lt (rq_ HO590.out))) (Kd.R_lt (rq_ HO594.out))) (below_size (hb_ HB.out)))
      have n3_ := Aside0.mk (bb_ BK587.out hb)
      have n4_ := Aside0.mk (bb_ BK605.out hb)
      have n5_ := Aside0.mk (bb_ BK616.out hb)
      have n6_ := Aside0.mk (below_step (hb_ HB.out) hb)
      clear HO590; clear HO594
      clear BK587; clear BK605
      clear BK616; clear HB
      have HO590 := n0_
      have HO594 := n1_
      have HO619 := n2_
      have BK587 := n3_
      have BK605 := n4_
      have BK616 := n5_
      have HB := n6_
      clear n0_ n1_ n2_ n3_ n4_ n5_ n6_
      (try clear hb)
      (try clear hb2)
      (try clear hk)
      (try clear hi)
      (try clear ho0)
      refine hK.out _ _ ⟨bc_ BK587 0, bc_ BK587 1, bc_ BK587 2, bc_ BK587 3, bc_ BK587 4, bc_ BK587 5, bc_ BK587 6, bc_ BK587 7⟩ (fun hHeld => ?_)
      clear hK K
      refine nm_ ?_
      refine two_ (i := 1) (j := 4) (Ni := some 42) (Nj := some 45) laws_FnCmdBytes.m6 laws_FnCmdBytes.m7 rfl rfl rfl rfl (two_of HT_.out (by kernel_rfl)) (by decide) (by decide) (fun K hK => ?_) (fun K hK => ?_)
      ·
       skip
       have hcv66 := own_string (P := Try.prog) Try.underlying22 Try.underlying5 Try.underlying9 (Kd.own_of_R HO590.out)
       refine value_ (w1 := ?_) (v := ?_) (by rfl) rfl ?_ ?_
       rotate_left 2
       ·
        go_simp
        constructor
        ·
         rfl
        ·
         rfl
       clear hcv66
       refine hK.out _ _ ⟨bc_ BK587 0, bc_ BK587 1, bc_ BK587 2, bc_ BK587 3, bc_ BK587 4, bc_ BK587 5, bc_ BK587 6, bc_ BK587 7⟩ (fun hHeld => ?_)
       clear hK K
       refine nm_ ?_
       refine on_ 4 45 HT_ laws_FnCmdBytes.m3 rfl rfl (fun K hK => ?_)
       have hcv67 := own_string (P := Try.prog) Try.underlying22 Try.underlying5 Try.underlying9 (Kd.own_of_R HO619.out)
       refine value_ (w1 := ?_) (v := ?_) (by rfl) rfl ?_ ?_
       rotate_left 2
       ·
        go_simp
        constructor
        ·
         rfl
        ·
         rfl
       clear hcv67
       refine hK.out _ _ ⟨bc_ BK587 0, bc_ BK587 1, bc_ BK587 2, bc_ BK587 3, bc_ BK587 4, bc_ BK587 5, bc_ BK587 6, bc_ BK587 7⟩ (fun hHeld => ?_)
       clear hK K
       refine nm_ ?_
       exact norm_ (qf2_) (hCont (v618) _ ⟨hHeld, (rq_ HO590.out), (rq_ HO594.out), (rm_ HO619.out), (bq_ BK587.out), (bq_ BK605.out), (bq_ BK616.out), (hb_ HB.out)⟩)
      ·
       skip
       have hcv66 := own_string (P := Try.prog) Try.underlying22 Try.underlying5 Try.underlying9 (Kd.own_of_R HO619.out)
       refine value_ (w1 := ?_) (v := ?_) (by rfl) rfl ?_ ?_
       rotate_left 2
       ·
        go_simp
        constructor
        ·
         rfl
        ·
         rfl
       clear hcv66
       refine hK.out _ _ ⟨bc_ BK587 0, bc_ BK587 1, bc_ BK587 2, bc_ BK587 3, bc_ BK587 4, bc_ BK587 5, bc_ BK587 6, bc_ BK587 7⟩ (fun hHeld => ?_)
       clear hK K
       refine nm_ ?_
       refine on_ 1 42 HT_ laws_FnCmdBytes.m3 rfl rfl (fun K hK => ?_)
       have hcv67 := own_string (P := Try.prog) Try.underlying22 Try.underlying5 Try.underlying9 (Kd.own_of_R HO590.out)
       refine value_ (w1 := ?_) (v := ?_) (by rfl) rfl ?_ ?_
       rotate_left 2
       ·
        go_simp
        constructor
        ·
         rfl
        ·
         rfl
       clear hcv67
       refine hK.out _ _ ⟨bc_ BK587 0, bc_ BK587 1, bc_ BK587 2, bc_ BK587 3, bc_ BK587 4, bc_ BK587 5, bc_ BK587 6, bc_ BK587 7⟩ (fun hHeld => ?_)
       clear hK K
       refine nm_ ?_
       exact norm_ (qf2_) (hCont (v618) _ ⟨hHeld, (rq_ HO590.out), (rq_ HO594.out), (rm_ HO619.out), (bq_ BK587.out), (bq_ BK605.out), (bq_ BK616.out), (hb_ HB.out)⟩)
    rintro v618 w68 ⟨hS_, h0_, h1_, h2_, h3_, h4_, h5_, h6_⟩
    have n0_ : Aside0 (Kd.R (Kd.int .u8) 5 w68 w.heap.size (fun k_ => some k_ ≠ (.slice Ao15 t591.length co15 : Value).ownBlock ∧ some k_ ≠ (v618 : Value).ownBlock) v589 t588) := ⟨h0_⟩
    have n1_ : Aside0 (Kd.R (Kd.int .u8) 5 w68 w.heap.size (fun k_ => some k_ ≠ (v589 : Value).ownBlock ∧ some k_ ≠ (v618 : Value).ownBlock) (.slice Ao15 t591.length co15) t591) := ⟨h1_⟩
    have n2_ : Aside0 (Kd.R (Kd.int .u8) 5 w68 w.heap.size (fun k_ => some k_ ≠ (v589 : Value).ownBlock ∧ some k_ ≠ (.slice Ao15 t591.length co15 : Value).ownBlock) v618 t617) := ⟨h2_⟩
    have n3_ : Aside0 (w68.heap[gb587]? = some (.cells #[.int .i64 t579, .int .i64 t580, .int .i64 t581, .int .i64 t582, .int .i64 t583, .int .i64 t584, .string t585, .string t586] 95 (0, 0))) := ⟨h3_⟩
    have n4_ : Aside0 (w68.heap[gb605]? = some (.cells #[.int .i64 t595, .int .i64 t596, .int .i64 t597, .int .i64 t598, .int .i64 t599, .int .i64 t600, .string t601, .string t602] 95 (0, 0))) := ⟨h4_⟩
    have n5_ : Aside0 (w68.heap[gb616]? = some (.cells #[.int .i64 t606, .int .i64 t607, .int .i64 t608, .int .i64 t609, .int .i64 t610, .int .i64 t611, .string t612, .string t613] 95 (0, 0))) := ⟨h5_⟩
    have n6_ : Aside0 (Below w.heap.size w w68) := ⟨h6_⟩
    clear HO590; clear HO594
    clear BK587; clear BK605
    clear BK616; clear HB
    clear h0_ h1_ h2_ h3_ h4_ h5_ h6_
    have HO590 := n0_
    have HO594 := n1_
    have HO619 := n2_
    have BK587 := n3_
    have BK605 := n4_
    have BK616 := n5_
    have HB := n6_
    clear n0_ n1_ n2_ n3_ n4_ n5_ n6_
    have hHeld : w68.cell? ⟨gb587, 0, none⟩ = some (.int .i64 t579) ∧ w68.cell? ⟨gb587, 1, none⟩ = some (.int .i64 t580) ∧ w68.cell? ⟨gb587, 2, none⟩ = some (.int .i64 t581) ∧ w68.cell? ⟨gb587, 3, none⟩ = some (.int .i64 t582) ∧ w68.cell? ⟨gb587, 4, none⟩ = some (.int .i64 t583) ∧ w68.cell? ⟨gb587, 5, none⟩ = some (.int .i64 t584) ∧ w68.cell? ⟨gb587, 6, none⟩ = some (.string t585) ∧ w68.cell? ⟨gb587, 7, none⟩ = some (.string t586) := hS_
    refine norm_ (a' := ?_) ?_ ?_
    rotate_left; (focus simp only [putAll, Act.put, List.setIfInBounds_toArray, List.set_cons_zero, List.set_cons_succ]; rfl)
    refine pI_ 5 46 HT_ laws_FnCmdBytes.m8 rfl rfl ?_
    refine pI_ 6 47 HT_ laws_FnCmdBytes.m9 rfl rfl ?_
    refine pU_ 7 48 HT_ laws_FnCmdBytes.m10 rfl rfl ?_
    refine pU_ 8 49 HT_ laws_FnCmdBytes.m11 rfl rfl ?_
    refine pU_ 9 50 HT_ laws_FnCmdBytes.m12 rfl rfl ?_
    refine pU_ 10 51 HT_ laws_FnCmdBytes.m13 rfl rfl ?_
    refine pU_ 11 52 HT_ laws_FnCmdBytes.m14 rfl rfl ?_
    refine pU_ 12 53 HT_ laws_FnCmdBytes.m15 rfl rfl ?_
    refine pI_ 13 54 HT_ laws_FnCmdBytes.m16 rfl rfl ?_
    refine pI_ 14 55 HT_ laws_FnCmdBytes.m17 rfl rfl ?_
    refine pU_ 15 56 HT_ laws_FnCmdBytes.m18 rfl rfl ?_
    refine pU_ 16 57 HT_ laws_FnCmdBytes.m19 rfl rfl ?_
    refine pU_ 17 58 HT_ laws_FnCmdBytes.m20 rfl rfl ?_
    refine pI_ 18 59 HT_ laws_FnCmdBytes.m21 rfl rfl ?_
    refine pI_ 19 60 HT_ laws_FnCmdBytes.m22 rfl rfl ?_
    refine pU_ 20 61 HT_ laws_FnCmdBytes.m23 rfl rfl ?_
    refine pU_ 21 62 HT_ laws_FnCmdBytes.m24 rfl rfl ?_
    refine pU_ 22 63 HT_ laws_FnCmdBytes.m25 rfl rfl ?_
    refine pI_ 23 64 HT_ laws_FnCmdBytes.m26 rfl rfl ?_
    refine pI_ 24 65 HT_ laws_FnCmdBytes.m27 rfl rfl ?_
    refine pU_ 25 66 HT_ laws_FnCmdBytes.m28 rfl rfl ?_
    refine pU_ 26 67 HT_ laws_FnCmdBytes.m29 rfl rfl ?_
    refine pU_ 27 68 HT_ laws_FnCmdBytes.m30 rfl rfl ?_
    refine pI_ 28 69 HT_ laws_FnCmdBytes.m31 rfl rfl ?_
    refine done_ (done_of HT_.out (by kernel_rfl)) ?_
    try go_wp2
    go_meet
    case rel => exact ⟨_, (true), (qf5_), H', ⟨qf7_⟩, ⟨rm_ HO590.out⟩, ⟨rm_ HO594.out⟩, ⟨bq_ BK587.out⟩, ⟨bq_ BK605.out⟩, ⟨bq_ BK616.out⟩, ⟨hb_ HB.out⟩⟩
  case rest =>
   clear HC9
   (try clear c2); (try clear p2); (try clear c6); (try clear hcv6); (try clear c26); (try clear c26b0); (try clear c26b1); (try clear hcv65); (try clear hcv66); (try clear c67); (try clear hcv67); (try clear c68)
   obtain ⟨kq, x69_8, rfl, HA, HJ8, HO_4, HO_5, BK587, BK605, BK616, HB⟩ := hcut
   cases kq with
   | zero => exact absurd HA.out (by simp [laws_FnCmdBytes.j0])
   | succ kj8 =>
    have H := HA.out
    clear HA
    simp only [laws_FnCmdBytes.j0] at H
    by_cases c69 : x69_8 = true
    ·
     subst c69
     have H1 : (some false) = some r := by rw [if_pos rfl] at H; exact H
     clear H
     have H := H1
     clear H1
     obtain rfl := Option.some.inj H
     go_wp2
     go_ret
     exact ⟨er_, hb_ HB.out⟩
    ·
     replace c69 := Bool.eq_false_iff.mpr c69
     subst c69
     have H1 : (if t604 = true then ((impl_CmdBytes.f kj8 t595 t596 t597 t598 t599 t600 t601 t602).bind fun t621 => (if 0 ≤ t592 then (if t592 ≤ t603 then (if t603 ≤ (t591.length : Int) then (laws_FnCmdBytes.j1 kj8 l0 t588 ((strOfNums t621).toList != (strOfNums ((t591.take (t603 : Int).toNat).drop (t592 : Int).toNat)).toList) t579 t580 t581 t582 t583 t584 t585 t586) else (none)) else (none)) else (none))) else (laws_FnCmdBytes.j1 kj8 l0 t588 false t579 t580 t581 t582 t583 t584 t585 t586)) = some r := by rw [if_neg (show ¬ (false = true) by decide)] at H; exact H
     clear H
     have H := H1
     clear H1
     have HC70 := Aside0.mk H
     clear H
     go_upto_region 10 with (fail)
     go_cut [81] (fun v81 wc => ∃ (kq : Nat) (x81_69 : Bool), v81 = .bool x81_69 ∧ Aside0 (laws_FnCmdBytes.j1 kq l0 t588 x81_69 t579 t580 t581 t582 t583 t584 t585 t586 = some r) ∧ Aside0 (kq ≤ kj8) ∧ Aside0 (Kd.R (Kd.int .u8) 5 wc w.heap.size (fun _ => True) v589 t588) ∧ Aside0 (wc.heap[gb587]? = some (.cells #[.int .i64 t579, .int .i64 t580, .int .i64 t581, .int .i64 t582, .int .i64 t583, .int .i64 t584, .string t585, .string t586] 95 (0, 0))) ∧ Aside0 (wc.heap[gb605]? = some (.cells #[.int .i64 t595, .int .i64 t596, .int .i64 t597, .int .i64 t598, .int .i64 t599, .int .i64 t600, .string t601, .string t602] 95 (0, 0))) ∧ Aside0 (wc.heap[gb616]? = some (.cells #[.int .i64 t606, .int .i64 t607, .int .i64 t608, .int .i64 t609, .int .i64 t610, .int .i64 t611, .string t612, .string t613] 95 (0, 0))) ∧ Aside0 (Below w.heap.size w wc))
     case first =>
      have H := HC70.out
      clear HC70
      by_cases c71 : t604 = true
      ·
       subst c71
       have H1 : ((impl_CmdBytes.f kj8 t595 t596 t597 t598 t599 t600 t601 t602).bind fun t621 => (if 0 ≤ t592 then (if t592 ≤ t603 then (if t603 ≤ (t591.length : Int) then (laws_FnCmdBytes.j1 kj8 l0 t588 ((strOfNums t621).toList != (strOfNums ((t591.take (t603 : Int).toNat).drop (t592 : Int).toNat)).toList) t579 t580 t581 t582 t583 t584 t585 t586) else (none)) else (none)) else (none))) = some r := by rw [if_pos rfl] at H; exact H
       clear H
       have H := H1
       clear H1
       replace H := Option.bind_eq_some_iff.mp H
       obtain ⟨t621, A720, H⟩ := H
       replace H : (if 0 ≤ t592 then (if t592 ≤ t603 then (if t603 ≤ (t591.length : Int) then (laws_FnCmdBytes.j1 kj8 l0 t588 ((strOfNums t621).toList != (strOfNums ((t591.take (t603 : Int).toNat).drop (t592 : Int).toNat)).toList) t579 t580 t581 t582 t583 t584 t585 t586) else (none)) else (none)) else (none)) = some r := H
       have A72 := Aside0.mk A720
       clear A720
       by_cases c73 : 0 ≤ t592
       ·
        rw [if_pos c73] at H
        have c73b0 := eq_true c73
        have c73b1 : decide (0 ≤ t592) = true := decide_eq_true c73
        clear c73
        by_cases c74 : t592 ≤ t603
        ·
         rw [if_pos c74] at H
         have c74b0 := eq_true c74
         have c74b1 : decide (t592 ≤ t603) = true := decide_eq_true c74
         clear c74
         by_cases c75 : t603 ≤ (t591.length : Int)
         ·
          rw [if_pos c75] at H
          have c75b0 := eq_true c75
          have c75b1 : decide (t603 ≤ (t591.length : Int)) = true := decide_eq_true c75
          clear c75
          obtain ⟨y624, hy624⟩ : ∃ y_ : List Int, y_ = ((t591.take (t603 : Int).toNat).drop (t592 : Int).toNat) := ⟨_, rfl⟩
          replace H : (laws_FnCmdBytes.j1 kj8 l0 t588 ((strOfNums t621).toList != (strOfNums y624).toList) t579 t580 t581 t582 t583 t584 t585 t586) = some r := by first | (rw [hy624]; with_reducible exact H) | (have H2_ := (Option.bind_some _ _).symm.trans H; rw [hy624]; with_reducible exact H2_) | (have H2_ := (Option.bind_some _ _).symm.trans H; with_reducible exact H2_) | with_reducible exact H | (rw [hy624]; exact H) | exact H
          have Ny624 := Aside0.mk hy624
          clear hy624
          have H' := Aside0.mk H
          clear H
          try go_wp2
          have n0_ := Aside0.mk (Kd.R_drew HO_4.out)
          have n1_ := Aside0.mk (Kd.R_drew HO_5.out)
          have n2_ := Aside0.mk (blk_drew BK587.out)
          have n3_ := Aside0.mk (blk_drew BK605.out)
          have n4_ := Aside0.mk (blk_drew BK616.out)
          have n5_ := Aside0.mk (below_drew1 HB.out)
          clear HO_4; clear HO_5
          clear BK587; clear BK605
          clear BK616; clear HB
          have HO_4 := n0_
          have HO_5 := n1_
          have BK587 := n2_
          have BK605 := n3_
          have BK616 := n4_
          have HB := n5_
          clear n0_ n1_ n2_ n3_ n4_ n5_
          have q77 : (t603 : Int) ≤ ((t591.length : Int) : Int) := of_decide_eq_true dt_
          obtain ⟨i077, hi077, _, hsz77, _⟩ := info_parts info5
          have hroom77 : t591.length ≤ co15 := (Kd.R_reads' HO_5.out).2.1
          have hC77 : Kd.C (Kd.int .u8) _ Ao15 t591.length t591 := (Kd.R_reads' HO_5.out).2.2
          have ql77 : (t592 : Int) ≤ (t603 : Int) := of_decide_eq_true dt_
          have q077 : (0 : Int) ≤ (t592 : Int) := of_decide_eq_true dt_
          have hcut77 := cut_mid (P := Try.prog) 22 5 .i64 .i64 Try.underlying22 hi077 1 hsz77 Ao15 t591.length co15 t592 t603 q077 ql77 q77 hroom77
          have hr77 := Kd.C_mid (lo := (t592 : Int).toNat) (hi := (t603 : Int).toNat) (c := co15) hC77 (by omega) (by omega) hroom77
          obtain ⟨A77, hA77⟩ : ∃ A1, A1 = (if co15 = (t592 : Int).toNat then Ao15 else (Ao15 : Option Addr).map (·.add ((t592 : Int).toNat * 1))) := ⟨_, rfl⟩
          obtain ⟨c77, hc77⟩ : ∃ c1, c1 = co15 - (t592 : Int).toNat := ⟨_, rfl⟩
          have hy77 : y624.length = (t603 : Int).toNat - (t592 : Int).toNat := (by rw [Ny624.out, List.length_drop, List.length_take] <;> omega)
          rw [show ((t591).take (t603 : Int).toNat).drop (t592 : Int).toNat = y624 from Ny624.out.symm] at hr77
          replace hr77 : Kd.C (Kd.int .u8) _ A77 y624.length y624 := (by rw [hA77]; exact hr77)
          rw [← hy77, ← hA77, ← hc77] at hcut77
          have HR627 := Aside0.mk hr77
          have HC627 := Aside0.mk (show y624.length ≤ c77 from by rw [hy77, hc77]; exact Nat.sub_le_sub_right (Nat.le_trans (by omega) hroom77) _)
          clear hr77 hC77 hroom77 hi077 hsz77 hc77
          have KY77 := Aside0.mk hy77
          have KA77 := Aside0.mk hA77
          clear hy77 hA77
          have KL77 := Aside0.mk (show (t603 : Int).toNat ≤ t591.length from by omega)
          have KM77 := Aside0.mk (show (t592 : Int).toNat ≤ (t603 : Int).toNat from by omega)
          replace q77 := eq_true q77
          refine start_ (n := 12) (S := fun w' => w'.cell? ⟨gb605, 0, none⟩ = some (.int .i64 t595) ∧ w'.cell? ⟨gb605, 1, none⟩ = some (.int .i64 t596) ∧ w'.cell? ⟨gb605, 2, none⟩ = some (.int .i64 t597) ∧ w'.cell? ⟨gb605, 3, none⟩ = some (.int .i64 t598) ∧ w'.cell? ⟨gb605, 4, none⟩ = some (.int .i64 t599) ∧ w'.cell? ⟨gb605, 5, none⟩ = some (.int .i64 t600) ∧ w'.cell? ⟨gb605, 6, none⟩ = some (.string t601) ∧ w'.cell? ⟨gb605, 7, none⟩ = some (.string t602)) (ds := []) laws_FnCmdBytes.m32 (by kernel_rfl) rfl rfl ⟨bc_ BK605 0, bc_ BK605 1, bc_ BK605 2, bc_ BK605 3, bc_ BK605 4, bc_ BK605 5, bc_ BK605 6, bc_ BK605 7⟩ (fun hHeld => ?_); refine with_tabW laws_FnCmdBytes.tab10 laws_FnCmdBytes.bits10 (fun HT_ HW_ => ?_)
          generalize wc.drew = w76 at HO_4 HO_5 BK587 BK605 BK616 HB HR627 hHeld ⊢
          refine pI_ 0 70 HT_ laws_FnCmdBytes.m33 rfl rfl ?_
          refine pI_ 1 71 HT_ laws_FnCmdBytes.m34 rfl rfl ?_
          refine pI_ 5 75 HT_ #[true, true, false, false, false, true, false, false, false, false, false, false] rfl rfl ?_
          refine pI_ 6 76 HT_ #[true, true, false, false, false, true, true, false, false, false, false, false] rfl rfl ?_
          refine pI_ 7 77 HT_ #[true, true, false, false, false, true, true, true, false, false, false, false] rfl rfl ?_
          refine pI_ 8 78 HT_ #[true, true, false, false, false, true, true, true, true, false, false, false] rfl rfl ?_
          refine tk_ 2 72 HT_ HW_ #[true, true, true, false, false, true, true, true, true, false, false, false] rfl rfl hHeld ?_
          refine join_ (σ := Value) 2 laws_FnCmdBytes.m35 (fun s_ => [(73, s_), (74, .string (strOfNums t621)), (79, .string (strOfNums y624))]) (fun s_ w' => (w'.cell? ⟨gb605, 0, none⟩ = some (.int .i64 t595) ∧ w'.cell? ⟨gb605, 1, none⟩ = some (.int .i64 t596) ∧ w'.cell? ⟨gb605, 2, none⟩ = some (.int .i64 t597) ∧ w'.cell? ⟨gb605, 3, none⟩ = some (.int .i64 t598) ∧ w'.cell? ⟨gb605, 4, none⟩ = some (.int .i64 t599) ∧ w'.cell? ⟨gb605, 5, none⟩ = some (.int .i64 t600) ∧ w'.cell? ⟨gb605, 6, none⟩ = some (.string t601) ∧ w'.cell? ⟨gb605, 7, none⟩ = some (.string t602)) ∧ (Kd.R (Kd.int .u8) 5 w' w.heap.size (fun k_ => some k_ ≠ (v589 : Value).ownBlock ∧ some k_ ≠ (.slice Ao15 t591.length co15 : Value).ownBlock) s_ t621) ∧ (Kd.R (Kd.int .u8) 5 w' w.heap.size (fun k_ => some k_ ≠ (s_ : Value).ownBlock ∧ some k_ ≠ (.slice Ao15 t591.length co15 : Value).ownBlock) v589 t588) ∧ (Kd.R (Kd.int .u8) 5 w' w.heap.size (fun k_ => some k_ ≠ (s_ : Value).ownBlock ∧ some k_ ≠ (v589 : Value).ownBlock) (.slice Ao15 t591.length co15) t591) ∧ (w'.heap[gb587]? = some (.cells #[.int .i64 t579, .int .i64 t580, .int .i64 t581, .int .i64 t582, .int .i64 t583, .int .i64 t584, .string t585, .string t586] 95 (0, 0))) ∧ (w'.heap[gb605]? = some (.cells #[.int .i64 t595, .int .i64 t596, .int .i64 t597, .int .i64 t598, .int .i64 t599, .int .i64 t600, .string t601, .string t602] 95 (0, 0))) ∧ (w'.heap[gb616]? = some (.cells #[.int .i64 t606, .int .i64 t607, .int .i64 t608, .int .i64 t609, .int .i64 t610, .int .i64 t611, .string t612, .string t613] 95 (0, 0))) ∧ (Kd.C (Kd.int .u8) w' A77 y624.length y624) ∧ (Below w.heap.size w w')) ?_ ?_
          rotate_left
          ·
           intro hCont
           refine two_ (i := 3) (j := 9) (Ni := some 73) (Nj := some 79) #[true, true, true, true, false, true, true, true, true, false, false, false] #[true, true, true, false, false, true, true, true, true, true, false, false] rfl rfl rfl rfl (two_of HT_.out (by kernel_rfl)) (by decide) (by decide) (fun K hK => ?_) (fun K hK => ?_)
           ·
            skip
            refine goes_ Try.func63 (by kernel_rfl) rfl #[.agg #[.int .i64 t595, .int .i64 t596, .int .i64 t597, .int .i64 t598, .int .i64 t599, .int .i64 t600, .string t601, .string t602]] (by rfl) rfl rfl sm_ ?_
            with_reducible refine (impl_CmdBytes.calls kj8 t595 t596 t597 t598 t599 t600 t601 t602 t621 _ A72.out).mono ?_
            rintro e w78 ⟨v622, rfl, ho0, hb⟩
            refine ⟨_, rfl, ?_⟩
            have n0_ := Aside0.mk (Kd.R_elder' (rq_ HO_4.out) (Kd.R_base ho0) hb)
            have n1_ := Aside0.mk (Kd.R_elder' (rq_ HO_5.out) (Kd.R_base ho0) hb)
            have n2_ := Aside0.mk (Kd.R_lower (Kd.R_new' (Kd.R_new' ho0 (Kd.R_lt (rq_ HO_4.out))) (Kd.R_lt (rq_ HO_5.out))) (below_size (hb_ HB.out)))
            have n3_ := Aside0.mk (bb_ BK587.out hb)
            have n4_ := Aside0.mk (bb_ BK605.out hb)
            have n5_ := Aside0.mk (bb_ BK616.out hb)
            have n6_ := Aside0.mk (Kd.C_below (qf3_) hb)
            have n7_ := Aside0.mk (below_step (hb_ HB.out) hb)
            clear HO_4; clear HO_5
            clear BK587; clear BK605
            clear BK616; clear HR627
            clear HB
            have HO_4 := n0_
            have HO_5 := n1_
            have HO623 := n2_
            have BK587 := n3_
            have BK605 := n4_
            have BK616 := n5_
            have HR627 := n6_
            have HB := n7_
            clear n0_ n1_ n2_ n3_ n4_ n5_ n6_ n7_
            (try clear hb)
            (try clear hb2)
            (try clear hk)
            (try clear hi)
            (try clear ho0)
            refine hK.out _ _ ⟨bc_ BK605 0, bc_ BK605 1, bc_ BK605 2, bc_ BK605 3, bc_ BK605 4, bc_ BK605 5, bc_ BK605 6, bc_ BK605 7⟩ (fun hHeld => ?_)
            clear hK K
            refine nm_ ?_
            refine two_ (i := 4) (j := 9) (Ni := some 74) (Nj := some 79) laws_FnCmdBytes.m36 laws_FnCmdBytes.m37 rfl rfl rfl rfl (two_of HT_.out (by kernel_rfl)) (by decide) (by decide) (fun K hK => ?_) (fun K hK => ?_)
            ·
             skip
             have hcv79 := own_string (P := Try.prog) Try.underlying22 Try.underlying5 Try.underlying9 (Kd.own_of_R HO623.out)
             refine value_ (w1 := ?_) (v := ?_) (by rfl) rfl ?_ ?_
             rotate_left 2
             ·
              go_simp
              constructor
              ·
               rfl
              ·
               rfl
             clear hcv79
             refine hK.out _ _ ⟨bc_ BK605 0, bc_ BK605 1, bc_ BK605 2, bc_ BK605 3, bc_ BK605 4, bc_ BK605 5, bc_ BK605 6, bc_ BK605 7⟩ (fun hHeld => ?_)
             clear hK K
             refine nm_ ?_
             refine on_ 9 79 HT_ laws_FnCmdBytes.m35 rfl rfl (fun K hK => ?_)
             have hcv80 := Kd.C_string (P := Try.prog) (A := A77) (c := c77) Try.underlying22 Try.underlying5 Try.underlying9 (qf3_)
             refine value_ (w1 := ?_) (v := ?_) (by rfl) rfl ?_ ?_
             rotate_left 2
             ·
              go_simp
              constructor
              ·
               rfl
              ·
               rfl
             clear hcv80
             refine hK.out _ _ ⟨bc_ BK605 0, bc_ BK605 1, bc_ BK605 2, bc_ BK605 3, bc_ BK605 4, bc_ BK605 5, bc_ BK605 6, bc_ BK605 7⟩ (fun hHeld => ?_)
             clear hK K
             refine nm_ ?_
             exact norm_ (qf2_) (hCont (v622) _ ⟨hHeld, (rm_ HO623.out), (rm_ HO_4.out), (rm_ HO_5.out), (bq_ BK587.out), (bq_ BK605.out), (bq_ BK616.out), (qf3_), (hb_ HB.out)⟩)
            ·
             skip
             have hcv79 := Kd.C_string (P := Try.prog) (A := A77) (c := c77) Try.underlying22 Try.underlying5 Try.underlying9 (qf3_)
             refine value_ (w1 := ?_) (v := ?_) (by rfl) rfl ?_ ?_
             rotate_left 2
             ·
              go_simp
              constructor
              ·
               rfl
              ·
               rfl
             clear hcv79
             refine hK.out _ _ ⟨bc_ BK605 0, bc_ BK605 1, bc_ BK605 2, bc_ BK605 3, bc_ BK605 4, bc_ BK605 5, bc_ BK605 6, bc_ BK605 7⟩ (fun hHeld => ?_)
             clear hK K
             refine nm_ ?_
             refine on_ 4 74 HT_ laws_FnCmdBytes.m35 rfl rfl (fun K hK => ?_)
             have hcv80 := own_string (P := Try.prog) Try.underlying22 Try.underlying5 Try.underlying9 (Kd.own_of_R HO623.out)
             refine value_ (w1 := ?_) (v := ?_) (by rfl) rfl ?_ ?_
             rotate_left 2
             ·
              go_simp
              constructor
              ·
               rfl
              ·
               rfl
             clear hcv80
             refine hK.out _ _ ⟨bc_ BK605 0, bc_ BK605 1, bc_ BK605 2, bc_ BK605 3, bc_ BK605 4, bc_ BK605 5, bc_ BK605 6, bc_ BK605 7⟩ (fun hHeld => ?_)
             clear hK K
             refine nm_ ?_
             exact norm_ (qf2_) (hCont (v622) _ ⟨hHeld, (rm_ HO623.out), (rm_ HO_4.out), (rm_ HO_5.out), (bq_ BK587.out), (bq_ BK605.out), (bq_ BK616.out), (qf3_), (hb_ HB.out)⟩)
           ·
            skip
            have hcv78 := Kd.C_string (P := Try.prog) (A := A77) (c := c77) Try.underlying22 Try.underlying5 Try.underlying9 (qf3_)
            refine value_ (w1 := ?_) (v := ?_) (by rfl) rfl ?_ ?_
            rotate_left 2
            ·
             go_simp
             constructor
             ·
              rfl
             ·
              rfl
            clear hcv78
            refine hK.out _ _ ⟨bc_ BK605 0, bc_ BK605 1, bc_ BK605 2, bc_ BK605 3, bc_ BK605 4, bc_ BK605 5, bc_ BK605 6, bc_ BK605 7⟩ (fun hHeld => ?_)
            clear hK K
            refine nm_ ?_
            refine on_ 3 73 HT_ laws_FnCmdBytes.m37 rfl rfl (fun K hK => ?_)
            refine goes_ Try.func63 (by kernel_rfl) rfl #[.agg #[.int .i64 t595, .int .i64 t596, .int .i64 t597, .int .i64 t598, .int .i64 t599, .int .i64 t600, .string t601, .string t602]] (by rfl) rfl rfl sm_ ?_
            with_reducible refine (impl_CmdBytes.calls kj8 t595 t596 t597 t598 t599 t600 t601 t602 t621 _ A72.out).mono ?_
            rintro e w79 ⟨v622, rfl, ho0, hb⟩
            refine ⟨_, rfl, ?_⟩
            have n0_ := Aside0.mk (Kd.R_elder' (rq_ HO_4.out) (Kd.R_base ho0) hb)
            have n1_ := Aside0.mk (Kd.R_elder' (rq_ HO_5.out) (Kd.R_base ho0) hb)
            have n2_ := Aside0.mk (Kd.R_lower (Kd.R_new' (Kd.R_new' ho0 (Kd.R_lt (rq_ HO_4.out))) (Kd.R_lt (rq_ HO_5.out))) (below_size (hb_ HB.out)))
            have n3_ := Aside0.mk (bb_ BK587.out hb)
            have n4_ := Aside0.mk (bb_ BK605.out hb)
            have n5_ := Aside0.mk (bb_ BK616.out hb)
            have n6_ := Aside0.mk (Kd.C_below (qf3_) hb)
            have n7_ := Aside0.mk (below_step (hb_ HB.out) hb)
            clear HO_4; clear HO_5
            clear BK587; clear BK605
            clear BK616; clear HR627
            clear HB
            have HO_4 := n0_
            have HO_5 := n1_
            have HO623 := n2_
            have BK587 := n3_
            have BK605 := n4_
            have BK616 := n5_
            have HR627 := n6_
            have HB := n7_
            clear n0_ n1_ n2_ n3_ n4_ n5_ n6_ n7_
            (try clear hb)
            (try clear hb2)
            (try clear hk)
            (try clear hi)
            (try clear ho0)
            refine hK.out _ _ ⟨bc_ BK605 0, bc_ BK605 1, bc_ BK605 2, bc_ BK605 3, bc_ BK605 4, bc_ BK605 5, bc_ BK605 6, bc_ BK605 7⟩ (fun hHeld => ?_)
            clear hK K
            refine nm_ ?_
            refine on_ 4 74 HT_ laws_FnCmdBytes.m35 rfl rfl (fun K hK => ?_)
            have hcv80 := own_string (P := Try.prog) Try.underlying22 Try.underlying5 Try.underlying9 (Kd.own_of_R HO623.out)
            refine value_ (w1 := ?_) (v := ?_) (by rfl) rfl ?_ ?_
            rotate_left 2
            ·
             go_simp
             constructor
             ·
              rfl
             ·
              rfl
            clear hcv80
            refine hK.out _ _ ⟨bc_ BK605 0, bc_ BK605 1, bc_ BK605 2, bc_ BK605 3, bc_ BK605 4, bc_ BK605 5, bc_ BK605 6, bc_ BK605 7⟩ (fun hHeld => ?_)
            clear hK K
            refine nm_ ?_
            exact norm_ (qf2_) (hCont (v622) _ ⟨hHeld, (rm_ HO623.out), (rm_ HO_4.out), (rm_ HO_5.out), (bq_ BK587.out), (bq_ BK605.out), (bq_ BK616.out), (qf3_), (hb_ HB.out)⟩)
          rintro v622 w81 ⟨hS_, h0_, h1_, h2_, h3_, h4_, h5_, h6_, h7_⟩
          have n0_ : Aside0 (Kd.R (Kd.int .u8) 5 w81 w.heap.size (fun k_ => some k_ ≠ (v589 : Value).ownBlock ∧ some k_ ≠ (.slice Ao15 t591.length co15 : Value).ownBlock) v622 t621) := ⟨h0_⟩
          have n1_ : Aside0 (Kd.R (Kd.int .u8) 5 w81 w.heap.size (fun k_ => some k_ ≠ (v622 : Value).ownBlock ∧ some k_ ≠ (.slice Ao15 t591.length co15 : Value).ownBlock) v589 t588) := ⟨h1_⟩
          have n2_ : Aside0 (Kd.R (Kd.int .u8) 5 w81 w.heap.size (fun k_ => some k_ ≠ (v622 : Value).ownBlock ∧ some k_ ≠ (v589 : Value).ownBlock) (.slice Ao15 t591.length co15) t591) := ⟨h2_⟩
          have n3_ : Aside0 (w81.heap[gb587]? = some (.cells #[.int .i64 t579, .int .i64 t580, .int .i64 t581, .int .i64 t582, .int .i64 t583, .int .i64 t584, .string t585, .string t586] 95 (0, 0))) := ⟨h3_⟩
          have n4_ : Aside0 (w81.heap[gb605]? = some (.cells #[.int .i64 t595, .int .i64 t596, .int .i64 t597, .int .i64 t598, .int .i64 t599, .int .i64 t600, .string t601, .string t602] 95 (0, 0))) := ⟨h4_⟩
          have n5_ : Aside0 (w81.heap[gb616]? = some (.cells #[.int .i64 t606, .int .i64 t607, .int .i64 t608, .int .i64 t609, .int .i64 t610, .int .i64 t611, .string t612, .string t613] 95 (0, 0))) := ⟨h5_⟩
          have n6_ : Aside0 (Kd.C (Kd.int .u8) w81 A77 y624.length y624) := ⟨h6_⟩
          have n7_ : Aside0 (Below w.heap.size w w81) := ⟨h7_⟩
          clear HO_4; clear HO_5
          clear BK587; clear BK605
          clear BK616; clear HB
          clear h0_ h1_ h2_ h3_ h4_ h5_ h6_ h7_
          have HO623 := n0_
          have HO_4 := n1_
          have HO_5 := n2_
          have BK587 := n3_
          have BK605 := n4_
          have BK616 := n5_
          have HR627 := n6_
          have HB := n7_
          clear n0_ n1_ n2_ n3_ n4_ n5_ n6_ n7_
          have hHeld : w81.cell? ⟨gb605, 0, none⟩ = some (.int .i64 t595) ∧ w81.cell? ⟨gb605, 1, none⟩ = some (.int .i64 t596) ∧ w81.cell? ⟨gb605, 2, none⟩ = some (.int .i64 t597) ∧ w81.cell? ⟨gb605, 3, none⟩ = some (.int .i64 t598) ∧ w81.cell? ⟨gb605, 4, none⟩ = some (.int .i64 t599) ∧ w81.cell? ⟨gb605, 5, none⟩ = some (.int .i64 t600) ∧ w81.cell? ⟨gb605, 6, none⟩ = some (.string t601) ∧ w81.cell? ⟨gb605, 7, none⟩ = some (.string t602) := hS_
          refine norm_ (a' := ?_) ?_ ?_
          rotate_left; (focus simp only [putAll, Act.put, List.setIfInBounds_toArray, List.set_cons_zero, List.set_cons_succ]; rfl)
          refine pI_ 10 80 HT_ laws_FnCmdBytes.m38 rfl rfl ?_
          refine pI_ 11 81 HT_ laws_FnCmdBytes.m39 rfl rfl ?_
          refine done_ (done_of HT_.out (by kernel_rfl)) ?_
          try go_wp2
          go_meet
          case rel => exact ⟨_, (((strOfNums t621).toList != (strOfNums y624).toList)), (qf5_), H', ⟨by have := HJ8.out; first | omega | exact Nat.le_refl _⟩, ⟨qf6_⟩, ⟨bq_ BK587.out⟩, ⟨bq_ BK605.out⟩, ⟨bq_ BK616.out⟩, ⟨hb_ HB.out⟩⟩
         ·
          rw [if_neg c75] at H
          exact absurd H (by simp)
        ·
         rw [if_neg c74] at H
         exact absurd H (by simp)
       ·
        rw [if_neg c73] at H
        exact absurd H (by simp)
      ·
       replace c71 := Bool.eq_false_iff.mpr c71
       subst c71
       have H1 : (laws_FnCmdBytes.j1 kj8 l0 t588 false t579 t580 t581 t582 t583 t584 t585 t586) = some r := by rw [if_neg (show ¬ (false = true) by decide)] at H; exact H
       clear H
       have H := H1
       clear H1
       have H' := Aside0.mk H
       clear H
       try go_wp2
       have n0_ := Aside0.mk (Kd.R_drew HO_4.out)
       have n1_ := Aside0.mk (Kd.R_drew HO_5.out)
       have n2_ := Aside0.mk (blk_drew BK587.out)
       have n3_ := Aside0.mk (blk_drew BK605.out)
       have n4_ := Aside0.mk (blk_drew BK616.out)
       have n5_ := Aside0.mk (below_drew1 HB.out)
       clear HO_4; clear HO_5
       clear BK587; clear BK605
       clear BK616; clear HB
       have HO_4 := n0_
       have HO_5 := n1_
       have BK587 := n2_
       have BK605 := n3_
       have BK616 := n4_
       have HB := n5_
       clear n0_ n1_ n2_ n3_ n4_ n5_
       refine start_ (n := 12) (S := fun w' => True) (ds := []) laws_FnCmdBytes.m32 (by kernel_rfl) rfl rfl trivial (fun hHeld => ?_); refine with_tabW laws_FnCmdBytes.tab10 laws_FnCmdBytes.bits10 (fun HT_ HW_ => ?_)
       generalize wc.drew = w82 at HO_4 HO_5 BK587 BK605 BK616 HB hHeld ⊢
       refine pI_ 0 70 HT_ laws_FnCmdBytes.m33 rfl rfl ?_
       refine pI_ 1 71 HT_ laws_FnCmdBytes.m34 rfl rfl ?_
       refine pU_ 2 72 HT_ #[true, true, true, false, false, false, false, false, false, false, false, false] rfl rfl ?_
       refine pU_ 3 73 HT_ #[true, true, true, true, false, false, false, false, false, false, false, false] rfl rfl ?_
       refine pU_ 4 74 HT_ #[true, true, true, true, true, false, false, false, false, false, false, false] rfl rfl ?_
       refine pU_ 5 75 HT_ #[true, true, true, true, true, true, false, false, false, false, false, false] rfl rfl ?_
       refine pU_ 6 76 HT_ #[true, true, true, true, true, true, true, false, false, false, false, false] rfl rfl ?_
       refine pU_ 7 77 HT_ #[true, true, true, true, true, true, true, true, false, false, false, false] rfl rfl ?_
       refine pU_ 8 78 HT_ laws_FnCmdBytes.m36 rfl rfl ?_
       refine pU_ 9 79 HT_ laws_FnCmdBytes.m35 rfl rfl ?_
       refine pU_ 10 80 HT_ laws_FnCmdBytes.m38 rfl rfl ?_
       refine pI_ 11 81 HT_ laws_FnCmdBytes.m39 rfl rfl ?_
       refine done_ (done_of HT_.out (by kernel_rfl)) ?_
       try go_wp2
       go_meet
       case rel => exact ⟨_, (false), (qf5_), H', ⟨by have := HJ8.out; first | omega | exact Nat.le_refl _⟩, ⟨qf6_⟩, ⟨bq_ BK587.out⟩, ⟨bq_ BK605.out⟩, ⟨bq_ BK616.out⟩, ⟨hb_ HB.out⟩⟩
     case rest =>
      clear HC70
      (try clear c1); (try clear c2); (try clear p2); (try clear c6); (try clear hcv6); (try clear c7); (try clear q7); (try clear hcv7); (try clear hcv8); (try clear c26); (try clear c26b0); (try clear c26b1); (try clear c63); (try clear hcv65); (try clear hcv66); (try clear c67); (try clear hcv67); (try clear c68); (try clear c69); (try clear c71); (try clear c73); (try clear c73b0); (try clear c73b1); (try clear c74); (try clear c74b0); (try clear c74b1); (try clear c75); (try clear c75b0); (try clear c75b1); (try clear c77); (try clear q77); (try clear hcv78); (try clear hcv79); (try clear hcv80); (try clear p2); (try clear q077); (try clear q77)
      obtain ⟨kq, x81_69, rfl, HA, HJ69, HO_4, BK587, BK605, BK616, HB⟩ := hcut
      cases kq with
      | zero => exact absurd HA.out (by simp [laws_FnCmdBytes.j1])
      | succ kj69 =>
       have H := HA.out
       clear HA
       simp only [laws_FnCmdBytes.j1] at H
       by_cases c83 : x81_69 = true
       ·
        subst c83
        have H1 : (some false) = some r := by rw [if_pos rfl] at H; exact H
        clear H
        have H := H1
        clear H1
        obtain rfl := Option.some.inj H
        go_wp2
        go_ret
        exact ⟨er_, hb_ HB.out⟩
       ·
        replace c83 := Bool.eq_false_iff.mpr c83
        subst c83
        have H1 : (if (t588.length : Int) = 0 then (some true) else ((some (([] : List Int) : List Int)).bind fun y628 => (if y628.length + t588.length < 140737488355328 then ((some (y628 ++ t588 : List Int)).bind fun y631 => ((laws_at.f l0 1).bind fun t634 => (if y631.length < 140737488355328 then ((impl_CmdOf.f kj69 (y631 ++ [(t634) % 256]) 0).bind fun bt638 => (if bt638.2.2.2.2.2.2.2.2.2 = true then (if (bt638.1 == t579 && (bt638.2.1 == t580 && (bt638.2.2.1 == t581 && (bt638.2.2.2.1 == t582 && (bt638.2.2.2.2.1 == t583 && (bt638.2.2.2.2.2.1 == t584 && (bt638.2.2.2.2.2.2.1.toList == t585.toList && (bt638.2.2.2.2.2.2.2.1.toList == t586.toList)))))))) = true then (some (bt638.2.2.2.2.2.2.2.2.1 == (t588.length : Int))) else (some false)) else (some false))) else (none)))) else (none)))) = some r := by rw [if_neg (show ¬ (false = true) by decide)] at H; exact H
        clear H
        have H := H1
        clear H1
        by_cases c84 : (t588.length : Int) = 0
        ·
         rw [if_pos c84] at H
         have c84b0 : ((t588.length : Int) == 0) = true := beq_iff_eq.mpr c84
         have c84b1 : ((t588.length : Int) != 0) = false := bne_eq_false_iff_eq.mpr c84
         clear c84
         obtain rfl := Option.some.inj H
         obtain ⟨Ao85, co85, eo85⟩ := Kd.R_slice HO_4.out
         subst eo85
         go_wp2
         go_ret
         exact ⟨er_, hb_ HB.out⟩
        ·
         rw [if_neg c84] at H
         have c84b0 : ((t588.length : Int) == 0) = false := beq_eq_false_iff_ne.mpr c84
         have c84b1 : ((t588.length : Int) != 0) = true := bne_iff_ne.mpr c84
         have c84b2 : ¬ (t588 = []) := fun h_ => c84 (by rw [h_]; rfl)
         obtain ⟨y628, hy628⟩ : ∃ y_ : List Int, y_ = (([] : List Int)) := ⟨_, rfl⟩
         replace H : (if y628.length + t588.length < 140737488355328 then ((some (y628 ++ t588 : List Int)).bind fun y631 => ((laws_at.f l0 1).bind fun t634 => (if y631.length < 140737488355328 then ((impl_CmdOf.f kj69 (y631 ++ [(t634) % 256]) 0).bind fun bt638 => (if bt638.2.2.2.2.2.2.2.2.2 = true then (if (bt638.1 == t579 && (bt638.2.1 == t580 && (bt638.2.2.1 == t581 && (bt638.2.2.2.1 == t582 && (bt638.2.2.2.2.1 == t583 && (bt638.2.2.2.2.2.1 == t584 && (bt638.2.2.2.2.2.2.1.toList == t585.toList && (bt638.2.2.2.2.2.2.2.1.toList == t586.toList)))))))) = true then (some (bt638.2.2.2.2.2.2.2.2.1 == (t588.length : Int))) else (some false)) else (some false))) else (none)))) else (none)) = some r := by first | (rw [hy628]; with_reducible exact H) | (have H2_ := (Option.bind_some _ _).symm.trans H; rw [hy628]; with_reducible exact H2_) | (have H2_ := (Option.bind_some _ _).symm.trans H; with_reducible exact H2_) | with_reducible exact H | (rw [hy628]; exact H) | exact H
         have Ny628 := Aside0.mk hy628
         clear hy628
         by_cases c86 : y628.length + t588.length < 140737488355328
         ·
          rw [if_pos c86] at H
          have LMc86 := Aside0.mk c86
          clear c86
          obtain ⟨y631, hy631⟩ : ∃ y_ : List Int, y_ = (y628 ++ t588) := ⟨_, rfl⟩
          replace H : ((laws_at.f l0 1).bind fun t634 => (if y631.length < 140737488355328 then ((impl_CmdOf.f kj69 (y631 ++ [(t634) % 256]) 0).bind fun bt638 => (if bt638.2.2.2.2.2.2.2.2.2 = true then (if (bt638.1 == t579 && (bt638.2.1 == t580 && (bt638.2.2.1 == t581 && (bt638.2.2.2.1 == t582 && (bt638.2.2.2.2.1 == t583 && (bt638.2.2.2.2.2.1 == t584 && (bt638.2.2.2.2.2.2.1.toList == t585.toList && (bt638.2.2.2.2.2.2.2.1.toList == t586.toList)))))))) = true then (some (bt638.2.2.2.2.2.2.2.2.1 == (t588.length : Int))) else (some false)) else (some false))) else (none))) = some r := by first | (rw [hy631]; with_reducible exact H) | (have H2_ := (Option.bind_some _ _).symm.trans H; rw [hy631]; with_reducible exact H2_) | (have H2_ := (Option.bind_some _ _).symm.trans H; with_reducible exact H2_) | with_reducible exact H | (rw [hy631]; exact H) | exact H
          have Ny631 := Aside0.mk hy631
          clear hy631
          replace H := Option.bind_eq_some_iff.mp H
          obtain ⟨t634, A870, H⟩ := H
          replace H : (if y631.length < 140737488355328 then ((impl_CmdOf.f kj69 (y631 ++ [(t634) % 256]) 0).bind fun bt638 => (if bt638.2.2.2.2.2.2.2.2.2 = true then (if (bt638.1 == t579 && (bt638.2.1 == t580 && (bt638.2.2.1 == t581 && (bt638.2.2.2.1 == t582 && (bt638.2.2.2.2.1 == t583 && (bt638.2.2.2.2.2.1 == t584 && (bt638.2.2.2.2.2.2.1.toList == t585.toList && (bt638.2.2.2.2.2.2.2.1.toList == t586.toList)))))))) = true then (some (bt638.2.2.2.2.2.2.2.2.1 == (t588.length : Int))) else (some false)) else (some false))) else (none)) = some r := H
          have A87 := Aside0.mk A870
          clear A870
          by_cases c88 : y631.length < 140737488355328
          ·
           rw [if_pos c88] at H
           have LMc88 := Aside0.mk c88
           clear c88
           obtain ⟨y635, hy635⟩ : ∃ y_ : List Int, y_ = (y631 ++ [(t634) % 256]) := ⟨_, rfl⟩
           replace H : ((impl_CmdOf.f kj69 y635 0).bind fun bt638 => (if bt638.2.2.2.2.2.2.2.2.2 = true then (if (bt638.1 == t579 && (bt638.2.1 == t580 && (bt638.2.2.1 == t581 && (bt638.2.2.2.1 == t582 && (bt638.2.2.2.2.1 == t583 && (bt638.2.2.2.2.2.1 == t584 && (bt638.2.2.2.2.2.2.1.toList == t585.toList && (bt638.2.2.2.2.2.2.2.1.toList == t586.toList)))))))) = true then (some (bt638.2.2.2.2.2.2.2.2.1 == (t588.length : Int))) else (some false)) else (some false))) = some r := by first | (rw [hy635]; with_reducible exact H) | (have H2_ := (Option.bind_some _ _).symm.trans H; rw [hy635]; with_reducible exact H2_) | (have H2_ := (Option.bind_some _ _).symm.trans H; with_reducible exact H2_) | with_reducible exact H | (rw [hy635]; exact H) | exact H
           have Ny635 := Aside0.mk hy635
           clear hy635
           replace H := Option.bind_eq_some_iff.mp H
           obtain ⟨⟨t638, t639, t640, t641, t642, t643, t644, t645, t646, t647⟩, A890, H⟩ := H
           replace H : (if t647 = true then (if (t638 == t579 && (t639 == t580 && (t640 == t581 && (t641 == t582 && (t642 == t583 && (t643 == t584 && (t644.toList == t585.toList && (t645.toList == t586.toList)))))))) = true then (some (t646 == (t588.length : Int))) else (some false)) else (some false)) = some r := H
           have A89 := Aside0.mk A890
           clear A890
           by_cases c90 : t647 = true
           ·
            subst c90
            have H1 : (if (t638 == t579 && (t639 == t580 && (t640 == t581 && (t641 == t582 && (t642 == t583 && (t643 == t584 && (t644.toList == t585.toList && (t645.toList == t586.toList)))))))) = true then (some (t646 == (t588.length : Int))) else (some false)) = some r := by rw [if_pos rfl] at H; exact H
            clear H
            have H := H1
            clear H1
            by_cases c91 : (t638 == t579 && (t639 == t580 && (t640 == t581 && (t641 == t582 && (t642 == t583 && (t643 == t584 && (t644.toList == t585.toList && (t645.toList == t586.toList)))))))) = true
            ·
             rw [if_pos c91] at H
             have c91b0 : (t638 == t579 && (t639 == t580 && (t640 == t581 && (t641 == t582 && (t642 == t583 && (t643 == t584 && (t644.toList == t585.toList && (t645.toList == t586.toList)))))))) = true := c91
             (try (have c91b1 : decide (t638 = t579 && (t639 == t580 && (t640 == t581 && (t641 == t582 && (t642 == t583 && (t643 == t584 && (t644.toList == t585.toList && (t645.toList == t586.toList)))))))) = true := by simpa using c91))
             (try (have c91b2 : (t638 == t579 && (t639 == t580 && (t640 == t581 && (t641 == t582 && (t642 == t583 && (t643 == t584 && (t644.toList == t585.toList && (t645.toList == t586.toList)))))))) = true := by simpa using c91))
             (try (have c91b3 : (!(t638 == t579 && (t639 == t580 && (t640 == t581 && (t641 == t582 && (t642 == t583 && (t643 == t584 && (t644.toList == t585.toList && (t645.toList == t586.toList))))))))) = false := (show ∀ a b : Bool, (a == b) = true → (!(a == b)) = false by decide) _ _ c91))
             clear c91
             obtain rfl := Option.some.inj H
             obtain ⟨Ao92, co92, eo92⟩ := Kd.R_slice HO_4.out
             subst eo92
             go_wp2_with (first | ((with_reducible refine gate_dst (N := 86) rfl ?_); (try (refine gate_guard (by rfl) ?_; dsimp only)); refine Kd.R_lit (Kd.int .u8) _ 5 ?hg (N := 86) ?hd (xs := ([] : List Int)) (inner := []) (ok := fun _ => True) (okp := fun _ => True) ?hr ?hp (fun _ hk => hk) trivial (Below.refl _ _) (Nat.le_refl _) (by simp) ?_; (case hd => rfl); (case hg => rfl); (case hr => first | (go_simp; done) | (go_simp; rfl)); (case hp => exact (Reps.none _ _)); intro v629 w93 ho94 hb hg_ hnew_; clear hg_ hnew_; (first | rw [← Ny628.out] at ho94 | (simp only [Int.reduceToNat] at ho94; rw [← Ny628.out] at ho94)); have n0_ := Aside0.mk (Kd.R_elder' (rq_ HO_4.out) (Kd.R_base ho94) hb); have n1_ := Aside0.mk (Kd.R_lower (Kd.R_new' ho94 (Kd.R_lt (rq_ HO_4.out))) (below_size (hb_ HB.out))); have n2_ := Aside0.mk (bb_ BK587.out hb); have n3_ := Aside0.mk (bb_ BK605.out hb); have n4_ := Aside0.mk (bb_ BK616.out hb); have n5_ := Aside0.mk (below_step (hb_ HB.out) hb); clear HO_4; clear BK587; clear BK605; clear BK616; clear HB; have HO_4 := n0_; have HO630 := n1_; have BK587 := n2_; have BK605 := n3_; have BK616 := n4_; have HB := n5_; clear n0_ n1_ n2_ n3_ n4_ n5_; clear hb ho94) | ((with_reducible refine gate_builtin (b := .append) (xs := #[.tmp 86, .tmp 87]) rfl ?_); (try (refine gate_guard (by rfl) ?_; dsimp only)); at_builtin; refine Kd.R_append_rows (Kd.int .u8) (w0 := w) w.heap.size rfl (.tmp 86) (.tmp 87) 22 5 (.int .u8 0) 1 rfl Try.underlying22 info5 rfl (by decide) (by omega) v629 y628 t588 _ _ _ (fun k_ => some k_ ≠ (.slice Ao92 t588.length co92 : Value).ownBlock) (fun _ => False) rfl rfl ?aO ?aR (fun _ _ h => h) (fun _ h => h.elim) ?aF ?aB ?aS ?aL ?_; (case aR => repeat (first | exact (Kd.R_reads' HO_4.out).2.2 | (with_reducible refine Kd.C_alloc ?_ _) | (with_reducible refine Kd.C_drewN ?_ _) | (with_reducible refine Kd.C_drew ?_))); (case aB => exact (hb_ HB.out)); (case aF => exact (fun k_ hk => Kd.fresh' (Kd.R_lt (rq_ HO_4.out)) k_ hk)); (case aO => exact (rm_ HO630.out)); (case aS => exact (below_size (hb_ HB.out))); (case aL => have := LMc86.out; omega); intro v632 w95 ho hb hg hat; rw [← Ny631.out] at ho; have n0_ := Aside0.mk (Kd.R_after (ok := (fun _ => True)) (rq_ HO_4.out) hg hat); have n1_ := Aside0.mk (blk_grown (g := gb587) (o := .cells #[.int .i64 t579, .int .i64 t580, .int .i64 t581, .int .i64 t582, .int .i64 t583, .int .i64 t584, .string t585, .string t586] 95 (0, 0)) (bq_ BK587.out) hg (Kd.R_ne HO630.out BK587.out (by decide))); have n2_ := Aside0.mk (blk_grown (g := gb605) (o := .cells #[.int .i64 t595, .int .i64 t596, .int .i64 t597, .int .i64 t598, .int .i64 t599, .int .i64 t600, .string t601, .string t602] 95 (0, 0)) (bq_ BK605.out) hg (Kd.R_ne HO630.out BK605.out (by decide))); have n3_ := Aside0.mk (blk_grown (g := gb616) (o := .cells #[.int .i64 t606, .int .i64 t607, .int .i64 t608, .int .i64 t609, .int .i64 t610, .int .i64 t611, .string t612, .string t613] 95 (0, 0)) (bq_ BK616.out) hg (Kd.R_ne HO630.out BK616.out (by decide))); have n4_ := Aside0.mk (hb); have n5_ := Aside0.mk (ho); clear HO_4; clear BK587; clear BK605; clear BK616; clear HB; clear HO630; have HO_4 := n0_; have BK587 := n1_; have BK605 := n2_; have BK616 := n3_; have HB := n4_; have HO633 := n5_; clear n0_ n1_ n2_ n3_ n4_ n5_; clear ho hb hg hat) | ((with_reducible refine gate_callee (f := 69) rfl ?_); refine goesL_ (some 90) rfl rfl Try.func69 (by kernel_rfl) rfl #[.slice A0 l0.length c0, .int .i64 1] rfl sm_ ?_; (with_reducible refine (laws_at.calls _ _ l0 1 t634 _ ?side1 ?side2 A87.out).mono ?_); (case side1 => repeat (first | exact (Kd.C_below HR0.out HB.out) | (with_reducible refine Kd.C_alloc ?_ _) | (with_reducible refine Kd.C_drewN ?_ _) | (with_reducible refine Kd.C_drew ?_))); (case side2 => exact HC0.out); rintro e w' ⟨rfl, ⟨nd, rfl⟩⟩; refine ⟨_, rfl, ?_⟩; (try (rw [drewN_self w95]; generalize hq_ : World.drewN w95 _ = w95; have n0_ : Aside0 (Kd.R (Kd.int .u8) 5 w95 w.heap.size (fun k_ => some k_ ≠ (.slice Ao92 t588.length co92 : Value).ownBlock) v632 y631) := ⟨by rw [← hq_]; exact (rq_ HO633.out)⟩; have n1_ : Aside0 (Kd.R (Kd.int .u8) 5 w95 w.heap.size (fun k_ => some k_ ≠ (v632 : Value).ownBlock) (.slice Ao92 t588.length co92) t588) := ⟨by rw [← hq_]; exact (rm_ HO_4.out)⟩; have n2_ : Aside0 (w95.heap[gb587]? = some (.cells #[.int .i64 t579, .int .i64 t580, .int .i64 t581, .int .i64 t582, .int .i64 t583, .int .i64 t584, .string t585, .string t586] 95 (0, 0))) := ⟨by rw [← hq_]; exact (bq_ BK587.out)⟩; have n3_ : Aside0 (w95.heap[gb605]? = some (.cells #[.int .i64 t595, .int .i64 t596, .int .i64 t597, .int .i64 t598, .int .i64 t599, .int .i64 t600, .string t601, .string t602] 95 (0, 0))) := ⟨by rw [← hq_]; exact (bq_ BK605.out)⟩; have n4_ : Aside0 (w95.heap[gb616]? = some (.cells #[.int .i64 t606, .int .i64 t607, .int .i64 t608, .int .i64 t609, .int .i64 t610, .int .i64 t611, .string t612, .string t613] 95 (0, 0))) := ⟨by rw [← hq_]; exact (bq_ BK616.out)⟩; have n5_ : Aside0 (Below w.heap.size w w95) := ⟨by rw [← hq_]; exact (hb_ HB.out)⟩; clear HO633 HO_4 BK587 BK605 BK616 HB hq_; have HO633 := n0_; have HO_4 := n1_; have BK587 := n2_; have BK605 := n3_; have BK616 := n4_; have HB := n5_; clear n0_ n1_ n2_ n3_ n4_ n5_))) | ((with_reducible refine gate_builtin (b := .append) (xs := #[.tmp 88, .tmp 92]) rfl ?_); (try (refine gate_guard (by rfl) ?_; dsimp only)); at_builtin; refine Kd.R_append (Kd.int .u8) (w0 := w) w.heap.size rfl (.tmp 88) (.tmp 92) 22 5 (.int .u8 0) 1 rfl Try.underlying22 info5 rfl (by decide) (by omega) v632 y631 ((t634) % 256) [.int .u8 ((t634) % 256)] (fun k_ => some k_ ≠ (.slice Ao92 t588.length co92 : Value).ownBlock) (fun _ => False) rfl rfl ?aP (fun _ hk => hk.elim) ?aF ?aO ?aB ?aS ?aL ?_; (case aP => exact rfl); (case aB => exact (hb_ HB.out)); (case aF => exact (fun k_ hk => Kd.fresh' (Kd.R_lt (rq_ HO_4.out)) k_ hk)); (case aO => exact (rq_ HO633.out)); (case aS => exact (below_size (hb_ HB.out))); (case aL => have := LMc88.out; omega); intro v636 w96 ho hb hg hat; rw [← Ny635.out] at ho; have n0_ := Aside0.mk (Kd.R_after (ok := (fun _ => True)) (qf4_) hg hat); have n1_ := Aside0.mk (blk_grown (g := gb587) (o := .cells #[.int .i64 t579, .int .i64 t580, .int .i64 t581, .int .i64 t582, .int .i64 t583, .int .i64 t584, .string t585, .string t586] 95 (0, 0)) (bq_ BK587.out) hg (Kd.R_ne HO633.out BK587.out (by decide))); have n2_ := Aside0.mk (blk_grown (g := gb605) (o := .cells #[.int .i64 t595, .int .i64 t596, .int .i64 t597, .int .i64 t598, .int .i64 t599, .int .i64 t600, .string t601, .string t602] 95 (0, 0)) (bq_ BK605.out) hg (Kd.R_ne HO633.out BK605.out (by decide))); have n3_ := Aside0.mk (blk_grown (g := gb616) (o := .cells #[.int .i64 t606, .int .i64 t607, .int .i64 t608, .int .i64 t609, .int .i64 t610, .int .i64 t611, .string t612, .string t613] 95 (0, 0)) (bq_ BK616.out) hg (Kd.R_ne HO633.out BK616.out (by decide))); have n4_ := Aside0.mk (hb); have n5_ := Aside0.mk (ho); clear HO_4; clear BK587; clear BK605; clear BK616; clear HB; clear HO633; have HO_4 := n0_; have BK587 := n1_; have BK605 := n2_; have BK616 := n3_; have HB := n4_; have HO637 := n5_; clear n0_ n1_ n2_ n3_ n4_ n5_; clear ho hb hg hat; obtain ⟨Ao97, co97, eo97⟩ := Kd.R_slice HO637.out; subst eo97) | ((with_reducible refine gate_callee (f := 65) rfl ?_); refine goesL_ (some 94) rfl rfl Try.func65 (by kernel_rfl) rfl #[.slice Ao97 y635.length co97, .int .i64 0] rfl sm_ ?_; (with_reducible refine (impl_CmdOf.calls kj69 _ _ y635 0 t638 t639 t640 t641 t642 t643 t644 t645 t646 true _ ?side1 ?side2 A89.out).mono ?_); (case side1 => repeat (first | exact (Kd.R_reads' HO637.out).2.2 | (with_reducible refine Kd.C_alloc ?_ _) | (with_reducible refine Kd.C_drewN ?_ _) | (with_reducible refine Kd.C_drew ?_))); (case side2 => exact (Kd.R_reads' HO637.out).2.1); rintro e w98 ⟨rfl, hb⟩; refine ⟨_, rfl, ?_⟩; have n0_ := Aside0.mk (Kd.R_below (rq_ HO_4.out) hb); have n1_ := Aside0.mk (Kd.R_below (rq_ HO637.out) hb); have n2_ := Aside0.mk (bb_ BK587.out hb); have n3_ := Aside0.mk (bb_ BK605.out hb); have n4_ := Aside0.mk (bb_ BK616.out hb); have n5_ := Aside0.mk (below_step (hb_ HB.out) hb); clear HO_4; clear HO637; clear BK587; clear BK605; clear BK616; clear HB; have HO_4 := n0_; have HO637 := n1_; have BK587 := n2_; have BK605 := n3_; have BK616 := n4_; have HB := n5_; clear n0_ n1_ n2_ n3_ n4_ n5_; (try clear hb); (try clear hb2); (try clear hk); (try clear hi)) | ((with_reducible refine gate_dst (N := 13) rfl ?_); (try (refine gate_guard (by rfl) ?_; dsimp only)); refine box_event ?hg (N := 13) ?hd (cs := #[.int .i64 0, .int .i64 0, .int .i64 0, .int .i64 0, .int .i64 0, .int .i64 0, .string (⟨#[]⟩ : ByteArray), .string (⟨#[]⟩ : ByteArray)]) (t := 95) ?hr ?_; (case hd => rfl); (case hg => rfl); (case hr => first | (go_simp; done) | (go_simp; rfl)); intro gb648 hg w99 hbox hb; have n0_ := Aside0.mk (Kd.R_below (rq_ HO_4.out) hb); have n1_ := Aside0.mk (Kd.R_below (rq_ HO637.out) hb); have n2_ := Aside0.mk (bb_ BK587.out hb); have n3_ := Aside0.mk (bb_ BK605.out hb); have n4_ := Aside0.mk (bb_ BK616.out hb); have n5_ := Aside0.mk (below_step (hb_ HB.out) hb); have n6_ := Aside0.mk (hbox); have n7_ := Aside0.mk ((by rw [hg]; exact (below_size (hb_ HB.out)) : w.heap.size ≤ gb648)); have n8_ := Aside0.mk ((by rw [hg]; exact (below_size (hb_ HB.out)) : w.heap.size ≤ gb648)); have n9_ := Aside0.mk ((nl_ BK587.out hg : gb587 ≠ gb648)); have n10_ := Aside0.mk ((ng_ BK587.out hg : gb648 ≠ gb587)); have n11_ := Aside0.mk ((nl_ BK605.out hg : gb605 ≠ gb648)); have n12_ := Aside0.mk ((ng_ BK605.out hg : gb648 ≠ gb605)); have n13_ := Aside0.mk ((nl_ BK616.out hg : gb616 ≠ gb648)); have n14_ := Aside0.mk ((ng_ BK616.out hg : gb648 ≠ gb616)); clear HO_4; clear HO637; clear BK587; clear BK605; clear BK616; clear HB; have HO_4 := n0_; have HO637 := n1_; have BK587 := n2_; have BK605 := n3_; have BK616 := n4_; have HB := n5_; have BK648 := n6_; have GW648 := n7_; have GE648 := n8_; have NB587_648 := n9_; have NB648_587 := n10_; have NB605_648 := n11_; have NB648_605 := n12_; have NB616_648 := n13_; have NB648_616 := n14_; clear n0_ n1_ n2_ n3_ n4_ n5_ n6_ n7_ n8_ n9_ n10_ n11_ n12_ n13_ n14_; clear hb hbox hg; have hnb100 := NB648_587.out; have hnc100 := NB587_648.out; have hnb101 := NB648_605.out; have hnc101 := NB605_648.out; have hnb102 := NB648_616.out; have hnc102 := NB616_648.out; have hcz103_0 : w99.cell? ⟨gb648, 0, none⟩ = some (.int .i64 0) := bc_ BK648 0; have hcz103_1 : w99.cell? ⟨gb648, 1, none⟩ = some (.int .i64 0) := bc_ BK648 1; have hcz103_2 : w99.cell? ⟨gb648, 2, none⟩ = some (.int .i64 0) := bc_ BK648 2; have hcz103_3 : w99.cell? ⟨gb648, 3, none⟩ = some (.int .i64 0) := bc_ BK648 3; have hcz103_4 : w99.cell? ⟨gb648, 4, none⟩ = some (.int .i64 0) := bc_ BK648 4; have hcz103_5 : w99.cell? ⟨gb648, 5, none⟩ = some (.int .i64 0) := bc_ BK648 5; have hcz103_6 : w99.cell? ⟨gb648, 6, none⟩ = some (.string (⟨#[]⟩ : ByteArray)) := bc_ BK648 6; have hcz103_7 : w99.cell? ⟨gb648, 7, none⟩ = some (.string (⟨#[]⟩ : ByteArray)) := bc_ BK648 7; have hfz103_0 := blk_frozen BK648.out 0; have hfz103_1 := blk_frozen BK648.out 1; have hfz103_2 := blk_frozen BK648.out 2; have hfz103_3 := blk_frozen BK648.out 3; have hfz103_4 := blk_frozen BK648.out 4; have hfz103_5 := blk_frozen BK648.out 5; have hfz103_6 := blk_frozen BK648.out 6; have hfz103_7 := blk_frozen BK648.out 7; have hnb104 := NB587_605.out; have hnc104 := NB605_587.out; have hnb105 := NB587_616.out; have hnc105 := NB616_587.out; have hcz106_0 : w99.cell? ⟨gb587, 0, none⟩ = some (.int .i64 t579) := bc_ BK587 0; have hcz106_1 : w99.cell? ⟨gb587, 1, none⟩ = some (.int .i64 t580) := bc_ BK587 1; have hcz106_2 : w99.cell? ⟨gb587, 2, none⟩ = some (.int .i64 t581) := bc_ BK587 2; have hcz106_3 : w99.cell? ⟨gb587, 3, none⟩ = some (.int .i64 t582) := bc_ BK587 3; have hcz106_4 : w99.cell? ⟨gb587, 4, none⟩ = some (.int .i64 t583) := bc_ BK587 4; have hcz106_5 : w99.cell? ⟨gb587, 5, none⟩ = some (.int .i64 t584) := bc_ BK587 5; have hcz106_6 : w99.cell? ⟨gb587, 6, none⟩ = some (.string t585) := bc_ BK587 6; have hcz106_7 : w99.cell? ⟨gb587, 7, none⟩ = some (.string t586) := bc_ BK587 7; have hfz106_0 := blk_frozen BK587.out 0; have hfz106_1 := blk_frozen BK587.out 1; have hfz106_2 := blk_frozen BK587.out 2; have hfz106_3 := blk_frozen BK587.out 3; have hfz106_4 := blk_frozen BK587.out 4; have hfz106_5 := blk_frozen BK587.out 5; have hfz106_6 := blk_frozen BK587.out 6; have hfz106_7 := blk_frozen BK587.out 7))
             go_ret
             exact ⟨er_, hb_ HB.out⟩
            ·
             rw [if_neg c91] at H
             have c91b0 : (t638 == t579 && (t639 == t580 && (t640 == t581 && (t641 == t582 && (t642 == t583 && (t643 == t584 && (t644.toList == t585.toList && (t645.toList == t586.toList)))))))) = false := by simpa using c91
             (try (have c91b1 : decide (t638 = t579 && (t639 == t580 && (t640 == t581 && (t641 == t582 && (t642 == t583 && (t643 == t584 && (t644.toList == t585.toList && (t645.toList == t586.toList)))))))) = false := by simpa using c91))
             (try (have c91b2 : (t638 == t579 && (t639 == t580 && (t640 == t581 && (t641 == t582 && (t642 == t583 && (t643 == t584 && (t644.toList == t585.toList && (t645.toList == t586.toList)))))))) = false := by simpa using c91))
             (try (have c91b3 : ¬ (t638 = t579 && (t639 == t580 && (t640 == t581 && (t641 == t582 && (t642 == t583 && (t643 == t584 && (t644.toList == t585.toList && (t645.toList == t586.toList)))))))) := by simpa using c91))
             (try (have c91b4 : (!(t638 == t579 && (t639 == t580 && (t640 == t581 && (t641 == t582 && (t642 == t583 && (t643 == t584 && (t644.toList == t585.toList && (t645.toList == t586.toList))))))))) = true := (show ∀ a b : Bool, ¬ (a == b) = true → (!(a == b)) = true by decide) _ _ c91))
             clear c91
             obtain rfl := Option.some.inj H
             obtain ⟨Ao107, co107, eo107⟩ := Kd.R_slice HO_4.out
             subst eo107
             go_wp2_with (first | ((with_reducible refine gate_dst (N := 86) rfl ?_); (try (refine gate_guard (by rfl) ?_; dsimp only)); refine Kd.R_lit (Kd.int .u8) _ 5 ?hg (N := 86) ?hd (xs := ([] : List Int)) (inner := []) (ok := fun _ => True) (okp := fun _ => True) ?hr ?hp (fun _ hk => hk) trivial (Below.refl _ _) (Nat.le_refl _) (by simp) ?_; (case hd => rfl); (case hg => rfl); (case hr => first | (go_simp; done) | (go_simp; rfl)); (case hp => exact (Reps.none _ _)); intro v629 w108 ho109 hb hg_ hnew_; clear hg_ hnew_; (first | rw [← Ny628.out] at ho109 | (simp only [Int.reduceToNat] at ho109; rw [← Ny628.out] at ho109)); have n0_ := Aside0.mk (Kd.R_elder' (rq_ HO_4.out) (Kd.R_base ho109) hb); have n1_ := Aside0.mk (Kd.R_lower (Kd.R_new' ho109 (Kd.R_lt (rq_ HO_4.out))) (below_size (hb_ HB.out))); have n2_ := Aside0.mk (bb_ BK587.out hb); have n3_ := Aside0.mk (bb_ BK605.out hb); have n4_ := Aside0.mk (bb_ BK616.out hb); have n5_ := Aside0.mk (below_step (hb_ HB.out) hb); clear HO_4; clear BK587; clear BK605; clear BK616; clear HB; have HO_4 := n0_; have HO630 := n1_; have BK587 := n2_; have BK605 := n3_; have BK616 := n4_; have HB := n5_; clear n0_ n1_ n2_ n3_ n4_ n5_; clear hb ho109) | ((with_reducible refine gate_builtin (b := .append) (xs := #[.tmp 86, .tmp 87]) rfl ?_); (try (refine gate_guard (by rfl) ?_; dsimp only)); at_builtin; refine Kd.R_append_rows (Kd.int .u8) (w0 := w) w.heap.size rfl (.tmp 86) (.tmp 87) 22 5 (.int .u8 0) 1 rfl Try.underlying22 info5 rfl (by decide) (by omega) v629 y628 t588 _ _ _ (fun k_ => some k_ ≠ (.slice Ao107 t588.length co107 : Value).ownBlock) (fun _ => False) rfl rfl ?aO ?aR (fun _ _ h => h) (fun _ h => h.elim) ?aF ?aB ?aS ?aL ?_; (case aR => repeat (first | exact (Kd.R_reads' HO_4.out).2.2 | (with_reducible refine Kd.C_alloc ?_ _) | (with_reducible refine Kd.C_drewN ?_ _) | (with_reducible refine Kd.C_drew ?_))); (case aB => exact (hb_ HB.out)); (case aF => exact (fun k_ hk => Kd.fresh' (Kd.R_lt (rq_ HO_4.out)) k_ hk)); (case aO => exact (rm_ HO630.out)); (case aS => exact (below_size (hb_ HB.out))); (case aL => have := LMc86.out; omega); intro v632 w110 ho hb hg hat; rw [← Ny631.out] at ho; have n0_ := Aside0.mk (Kd.R_after (ok := (fun _ => True)) (rq_ HO_4.out) hg hat); have n1_ := Aside0.mk (blk_grown (g := gb587) (o := .cells #[.int .i64 t579, .int .i64 t580, .int .i64 t581, .int .i64 t582, .int .i64 t583, .int .i64 t584, .string t585, .string t586] 95 (0, 0)) (bq_ BK587.out) hg (Kd.R_ne HO630.out BK587.out (by decide))); have n2_ := Aside0.mk (blk_grown (g := gb605) (o := .cells #[.int .i64 t595, .int .i64 t596, .int .i64 t597, .int .i64 t598, .int .i64 t599, .int .i64 t600, .string t601, .string t602] 95 (0, 0)) (bq_ BK605.out) hg (Kd.R_ne HO630.out BK605.out (by decide))); have n3_ := Aside0.mk (blk_grown (g := gb616) (o := .cells #[.int .i64 t606, .int .i64 t607, .int .i64 t608, .int .i64 t609, .int .i64 t610, .int .i64 t611, .string t612, .string t613] 95 (0, 0)) (bq_ BK616.out) hg (Kd.R_ne HO630.out BK616.out (by decide))); have n4_ := Aside0.mk (hb); have n5_ := Aside0.mk (ho); clear HO_4; clear BK587; clear BK605; clear BK616; clear HB; clear HO630; have HO_4 := n0_; have BK587 := n1_; have BK605 := n2_; have BK616 := n3_; have HB := n4_; have HO633 := n5_; clear n0_ n1_ n2_ n3_ n4_ n5_; clear ho hb hg hat) | ((with_reducible refine gate_callee (f := 69) rfl ?_); refine goesL_ (some 90) rfl rfl Try.func69 (by kernel_rfl) rfl #[.slice A0 l0.length c0, .int .i64 1] rfl sm_ ?_; (with_reducible refine (laws_at.calls _ _ l0 1 t634 _ ?side1 ?side2 A87.out).mono ?_); (case side1 => repeat (first | exact (Kd.C_below HR0.out HB.out) | (with_reducible refine Kd.C_alloc ?_ _) | (with_reducible refine Kd.C_drewN ?_ _) | (with_reducible refine Kd.C_drew ?_))); (case side2 => exact HC0.out); rintro e w' ⟨rfl, ⟨nd, rfl⟩⟩; refine ⟨_, rfl, ?_⟩; (try (rw [drewN_self w110]; generalize hq_ : World.drewN w110 _ = w110; have n0_ : Aside0 (Kd.R (Kd.int .u8) 5 w110 w.heap.size (fun k_ => some k_ ≠ (.slice Ao107 t588.length co107 : Value).ownBlock) v632 y631) := ⟨by rw [← hq_]; exact (rq_ HO633.out)⟩; have n1_ : Aside0 (Kd.R (Kd.int .u8) 5 w110 w.heap.size (fun k_ => some k_ ≠ (v632 : Value).ownBlock) (.slice Ao107 t588.length co107) t588) := ⟨by rw [← hq_]; exact (rm_ HO_4.out)⟩; have n2_ : Aside0 (w110.heap[gb587]? = some (.cells #[.int .i64 t579, .int .i64 t580, .int .i64 t581, .int .i64 t582, .int .i64 t583, .int .i64 t584, .string t585, .string t586] 95 (0, 0))) := ⟨by rw [← hq_]; exact (bq_ BK587.out)⟩; have n3_ : Aside0 (w110.heap[gb605]? = some (.cells #[.int .i64 t595, .int .i64 t596, .int .i64 t597, .int .i64 t598, .int .i64 t599, .int .i64 t600, .string t601, .string t602] 95 (0, 0))) := ⟨by rw [← hq_]; exact (bq_ BK605.out)⟩; have n4_ : Aside0 (w110.heap[gb616]? = some (.cells #[.int .i64 t606, .int .i64 t607, .int .i64 t608, .int .i64 t609, .int .i64 t610, .int .i64 t611, .string t612, .string t613] 95 (0, 0))) := ⟨by rw [← hq_]; exact (bq_ BK616.out)⟩; have n5_ : Aside0 (Below w.heap.size w w110) := ⟨by rw [← hq_]; exact (hb_ HB.out)⟩; clear HO633 HO_4 BK587 BK605 BK616 HB hq_; have HO633 := n0_; have HO_4 := n1_; have BK587 := n2_; have BK605 := n3_; have BK616 := n4_; have HB := n5_; clear n0_ n1_ n2_ n3_ n4_ n5_))) | ((with_reducible refine gate_builtin (b := .append) (xs := #[.tmp 88, .tmp 92]) rfl ?_); (try (refine gate_guard (by rfl) ?_; dsimp only)); at_builtin; refine Kd.R_append (Kd.int .u8) (w0 := w) w.heap.size rfl (.tmp 88) (.tmp 92) 22 5 (.int .u8 0) 1 rfl Try.underlying22 info5 rfl (by decide) (by omega) v632 y631 ((t634) % 256) [.int .u8 ((t634) % 256)] (fun k_ => some k_ ≠ (.slice Ao107 t588.length co107 : Value).ownBlock) (fun _ => False) rfl rfl ?aP (fun _ hk => hk.elim) ?aF ?aO ?aB ?aS ?aL ?_; (case aP => exact rfl); (case aB => exact (hb_ HB.out)); (case aF => exact (fun k_ hk => Kd.fresh' (Kd.R_lt (rq_ HO_4.out)) k_ hk)); (case aO => exact (rq_ HO633.out)); (case aS => exact (below_size (hb_ HB.out))); (case aL => have := LMc88.out; omega); intro v636 w111 ho hb hg hat; rw [← Ny635.out] at ho; have n0_ := Aside0.mk (Kd.R_after (ok := (fun _ => True)) (qf4_) hg hat); have n1_ := Aside0.mk (blk_grown (g := gb587) (o := .cells #[.int .i64 t579, .int .i64 t580, .int .i64 t581, .int .i64 t582, .int .i64 t583, .int .i64 t584, .string t585, .string t586] 95 (0, 0)) (bq_ BK587.out) hg (Kd.R_ne HO633.out BK587.out (by decide))); have n2_ := Aside0.mk (blk_grown (g := gb605) (o := .cells #[.int .i64 t595, .int .i64 t596, .int .i64 t597, .int .i64 t598, .int .i64 t599, .int .i64 t600, .string t601, .string t602] 95 (0, 0)) (bq_ BK605.out) hg (Kd.R_ne HO633.out BK605.out (by decide))); have n3_ := Aside0.mk (blk_grown (g := gb616) (o := .cells #[.int .i64 t606, .int .i64 t607, .int .i64 t608, .int .i64 t609, .int .i64 t610, .int .i64 t611, .string t612, .string t613] 95 (0, 0)) (bq_ BK616.out) hg (Kd.R_ne HO633.out BK616.out (by decide))); have n4_ := Aside0.mk (hb); have n5_ := Aside0.mk (ho); clear HO_4; clear BK587; clear BK605; clear BK616; clear HB; clear HO633; have HO_4 := n0_; have BK587 := n1_; have BK605 := n2_; have BK616 := n3_; have HB := n4_; have HO637 := n5_; clear n0_ n1_ n2_ n3_ n4_ n5_; clear ho hb hg hat; obtain ⟨Ao112, co112, eo112⟩ := Kd.R_slice HO637.out; subst eo112) | ((with_reducible refine gate_callee (f := 65) rfl ?_); refine goesL_ (some 94) rfl rfl Try.func65 (by kernel_rfl) rfl #[.slice Ao112 y635.length co112, .int .i64 0] rfl sm_ ?_; (with_reducible refine (impl_CmdOf.calls kj69 _ _ y635 0 t638 t639 t640 t641 t642 t643 t644 t645 t646 true _ ?side1 ?side2 A89.out).mono ?_); (case side1 => repeat (first | exact (Kd.R_reads' HO637.out).2.2 | (with_reducible refine Kd.C_alloc ?_ _) | (with_reducible refine Kd.C_drewN ?_ _) | (with_reducible refine Kd.C_drew ?_))); (case side2 => exact (Kd.R_reads' HO637.out).2.1); rintro e w113 ⟨rfl, hb⟩; refine ⟨_, rfl, ?_⟩; have n0_ := Aside0.mk (Kd.R_below (rq_ HO_4.out) hb); have n1_ := Aside0.mk (Kd.R_below (rq_ HO637.out) hb); have n2_ := Aside0.mk (bb_ BK587.out hb); have n3_ := Aside0.mk (bb_ BK605.out hb); have n4_ := Aside0.mk (bb_ BK616.out hb); have n5_ := Aside0.mk (below_step (hb_ HB.out) hb); clear HO_4; clear HO637; clear BK587; clear BK605; clear BK616; clear HB; have HO_4 := n0_; have HO637 := n1_; have BK587 := n2_; have BK605 := n3_; have BK616 := n4_; have HB := n5_; clear n0_ n1_ n2_ n3_ n4_ n5_; (try clear hb); (try clear hb2); (try clear hk); (try clear hi)) | ((with_reducible refine gate_dst (N := 13) rfl ?_); (try (refine gate_guard (by rfl) ?_; dsimp only)); refine box_event ?hg (N := 13) ?hd (cs := #[.int .i64 0, .int .i64 0, .int .i64 0, .int .i64 0, .int .i64 0, .int .i64 0, .string (⟨#[]⟩ : ByteArray), .string (⟨#[]⟩ : ByteArray)]) (t := 95) ?hr ?_; (case hd => rfl); (case hg => rfl); (case hr => first | (go_simp; done) | (go_simp; rfl)); intro gb648 hg w114 hbox hb; have n0_ := Aside0.mk (Kd.R_below (rq_ HO_4.out) hb); have n1_ := Aside0.mk (Kd.R_below (rq_ HO637.out) hb); have n2_ := Aside0.mk (bb_ BK587.out hb); have n3_ := Aside0.mk (bb_ BK605.out hb); have n4_ := Aside0.mk (bb_ BK616.out hb); have n5_ := Aside0.mk (below_step (hb_ HB.out) hb); have n6_ := Aside0.mk (hbox); have n7_ := Aside0.mk ((by rw [hg]; exact (below_size (hb_ HB.out)) : w.heap.size ≤ gb648)); have n8_ := Aside0.mk ((by rw [hg]; exact (below_size (hb_ HB.out)) : w.heap.size ≤ gb648)); have n9_ := Aside0.mk ((nl_ BK587.out hg : gb587 ≠ gb648)); have n10_ := Aside0.mk ((ng_ BK587.out hg : gb648 ≠ gb587)); have n11_ := Aside0.mk ((nl_ BK605.out hg : gb605 ≠ gb648)); have n12_ := Aside0.mk ((ng_ BK605.out hg : gb648 ≠ gb605)); have n13_ := Aside0.mk ((nl_ BK616.out hg : gb616 ≠ gb648)); have n14_ := Aside0.mk ((ng_ BK616.out hg : gb648 ≠ gb616)); clear HO_4; clear HO637; clear BK587; clear BK605; clear BK616; clear HB; have HO_4 := n0_; have HO637 := n1_; have BK587 := n2_; have BK605 := n3_; have BK616 := n4_; have HB := n5_; have BK648 := n6_; have GW648 := n7_; have GE648 := n8_; have NB587_648 := n9_; have NB648_587 := n10_; have NB605_648 := n11_; have NB648_605 := n12_; have NB616_648 := n13_; have NB648_616 := n14_; clear n0_ n1_ n2_ n3_ n4_ n5_ n6_ n7_ n8_ n9_ n10_ n11_ n12_ n13_ n14_; clear hb hbox hg; have hnb115 := NB648_587.out; have hnc115 := NB587_648.out; have hnb116 := NB648_605.out; have hnc116 := NB605_648.out; have hnb117 := NB648_616.out; have hnc117 := NB616_648.out; have hcz118_0 : w114.cell? ⟨gb648, 0, none⟩ = some (.int .i64 0) := bc_ BK648 0; have hcz118_1 : w114.cell? ⟨gb648, 1, none⟩ = some (.int .i64 0) := bc_ BK648 1; have hcz118_2 : w114.cell? ⟨gb648, 2, none⟩ = some (.int .i64 0) := bc_ BK648 2; have hcz118_3 : w114.cell? ⟨gb648, 3, none⟩ = some (.int .i64 0) := bc_ BK648 3; have hcz118_4 : w114.cell? ⟨gb648, 4, none⟩ = some (.int .i64 0) := bc_ BK648 4; have hcz118_5 : w114.cell? ⟨gb648, 5, none⟩ = some (.int .i64 0) := bc_ BK648 5; have hcz118_6 : w114.cell? ⟨gb648, 6, none⟩ = some (.string (⟨#[]⟩ : ByteArray)) := bc_ BK648 6; have hcz118_7 : w114.cell? ⟨gb648, 7, none⟩ = some (.string (⟨#[]⟩ : ByteArray)) := bc_ BK648 7; have hfz118_0 := blk_frozen BK648.out 0; have hfz118_1 := blk_frozen BK648.out 1; have hfz118_2 := blk_frozen BK648.out 2; have hfz118_3 := blk_frozen BK648.out 3; have hfz118_4 := blk_frozen BK648.out 4; have hfz118_5 := blk_frozen BK648.out 5; have hfz118_6 := blk_frozen BK648.out 6; have hfz118_7 := blk_frozen BK648.out 7; have hnb119 := NB587_605.out; have hnc119 := NB605_587.out; have hnb120 := NB587_616.out; have hnc120 := NB616_587.out; have hcz121_0 : w114.cell? ⟨gb587, 0, none⟩ = some (.int .i64 t579) := bc_ BK587 0; have hcz121_1 : w114.cell? ⟨gb587, 1, none⟩ = some (.int .i64 t580) := bc_ BK587 1; have hcz121_2 : w114.cell? ⟨gb587, 2, none⟩ = some (.int .i64 t581) := bc_ BK587 2; have hcz121_3 : w114.cell? ⟨gb587, 3, none⟩ = some (.int .i64 t582) := bc_ BK587 3; have hcz121_4 : w114.cell? ⟨gb587, 4, none⟩ = some (.int .i64 t583) := bc_ BK587 4; have hcz121_5 : w114.cell? ⟨gb587, 5, none⟩ = some (.int .i64 t584) := bc_ BK587 5; have hcz121_6 : w114.cell? ⟨gb587, 6, none⟩ = some (.string t585) := bc_ BK587 6; have hcz121_7 : w114.cell? ⟨gb587, 7, none⟩ = some (.string t586) := bc_ BK587 7; have hfz121_0 := blk_frozen BK587.out 0; have hfz121_1 := blk_frozen BK587.out 1; have hfz121_2 := blk_frozen BK587.out 2; have hfz121_3 := blk_frozen BK587.out 3; have hfz121_4 := blk_frozen BK587.out 4; have hfz121_5 := blk_frozen BK587.out 5; have hfz121_6 := blk_frozen BK587.out 6; have hfz121_7 := blk_frozen BK587.out 7))
             go_ret
             exact ⟨er_, hb_ HB.out⟩
           ·
            replace c90 := Bool.eq_false_iff.mpr c90
            subst c90
            have H1 : (some false) = some r := by rw [if_neg (show ¬ (false = true) by decide)] at H; exact H
            clear H
            have H := H1
            clear H1
            obtain rfl := Option.some.inj H
            obtain ⟨Ao122, co122, eo122⟩ := Kd.R_slice HO_4.out
            subst eo122
            go_wp2_with (first | ((with_reducible refine gate_dst (N := 86) rfl ?_); (try (refine gate_guard (by rfl) ?_; dsimp only)); refine Kd.R_lit (Kd.int .u8) _ 5 ?hg (N := 86) ?hd (xs := ([] : List Int)) (inner := []) (ok := fun _ => True) (okp := fun _ => True) ?hr ?hp (fun _ hk => hk) trivial (Below.refl _ _) (Nat.le_refl _) (by simp) ?_; (case hd => rfl); (case hg => rfl); (case hr => first | (go_simp; done) | (go_simp; rfl)); (case hp => exact (Reps.none _ _)); intro v629 w123 ho124 hb hg_ hnew_; clear hg_ hnew_; (first | rw [← Ny628.out] at ho124 | (simp only [Int.reduceToNat] at ho124; rw [← Ny628.out] at ho124)); have n0_ := Aside0.mk (Kd.R_elder' (rq_ HO_4.out) (Kd.R_base ho124) hb); have n1_ := Aside0.mk (Kd.R_lower (Kd.R_new' ho124 (Kd.R_lt (rq_ HO_4.out))) (below_size (hb_ HB.out))); have n2_ := Aside0.mk (bb_ BK587.out hb); have n3_ := Aside0.mk (bb_ BK605.out hb); have n4_ := Aside0.mk (bb_ BK616.out hb); have n5_ := Aside0.mk (below_step (hb_ HB.out) hb); clear HO_4; clear BK587; clear BK605; clear BK616; clear HB; have HO_4 := n0_; have HO630 := n1_; have BK587 := n2_; have BK605 := n3_; have BK616 := n4_; have HB := n5_; clear n0_ n1_ n2_ n3_ n4_ n5_; clear hb ho124) | ((with_reducible refine gate_builtin (b := .append) (xs := #[.tmp 86, .tmp 87]) rfl ?_); (try (refine gate_guard (by rfl) ?_; dsimp only)); at_builtin; refine Kd.R_append_rows (Kd.int .u8) (w0 := w) w.heap.size rfl (.tmp 86) (.tmp 87) 22 5 (.int .u8 0) 1 rfl Try.underlying22 info5 rfl (by decide) (by omega) v629 y628 t588 _ _ _ (fun k_ => some k_ ≠ (.slice Ao122 t588.length co122 : Value).ownBlock) (fun _ => False) rfl rfl ?aO ?aR (fun _ _ h => h) (fun _ h => h.elim) ?aF ?aB ?aS ?aL ?_; (case aR => repeat (first | exact (Kd.R_reads' HO_4.out).2.2 | (with_reducible refine Kd.C_alloc ?_ _) | (with_reducible refine Kd.C_drewN ?_ _) | (with_reducible refine Kd.C_drew ?_))); (case aB => exact (hb_ HB.out)); (case aF => exact (fun k_ hk => Kd.fresh' (Kd.R_lt (rq_ HO_4.out)) k_ hk)); (case aO => exact (rm_ HO630.out)); (case aS => exact (below_size (hb_ HB.out))); (case aL => have := LMc86.out; omega); intro v632 w125 ho hb hg hat; rw [← Ny631.out] at ho; have n0_ := Aside0.mk (Kd.R_after (ok := (fun _ => True)) (rq_ HO_4.out) hg hat); have n1_ := Aside0.mk (blk_grown (g := gb587) (o := .cells #[.int .i64 t579, .int .i64 t580, .int .i64 t581, .int .i64 t582, .int .i64 t583, .int .i64 t584, .string t585, .string t586] 95 (0, 0)) (bq_ BK587.out) hg (Kd.R_ne HO630.out BK587.out (by decide))); have n2_ := Aside0.mk (blk_grown (g := gb605) (o := .cells #[.int .i64 t595, .int .i64 t596, .int .i64 t597, .int .i64 t598, .int .i64 t599, .int .i64 t600, .string t601, .string t602] 95 (0, 0)) (bq_ BK605.out) hg (Kd.R_ne HO630.out BK605.out (by decide))); have n3_ := Aside0.mk (blk_grown (g := gb616) (o := .cells #[.int .i64 t606, .int .i64 t607, .int .i64 t608, .int .i64 t609, .int .i64 t610, .int .i64 t611, .string t612, .string t613] 95 (0, 0)) (bq_ BK616.out) hg (Kd.R_ne HO630.out BK616.out (by decide))); have n4_ := Aside0.mk (hb); have n5_ := Aside0.mk (ho); clear HO_4; clear BK587; clear BK605; clear BK616; clear HB; clear HO630; have HO_4 := n0_; have BK587 := n1_; have BK605 := n2_; have BK616 := n3_; have HB := n4_; have HO633 := n5_; clear n0_ n1_ n2_ n3_ n4_ n5_; clear ho hb hg hat) | ((with_reducible refine gate_callee (f := 69) rfl ?_); refine goesL_ (some 90) rfl rfl Try.func69 (by kernel_rfl) rfl #[.slice A0 l0.length c0, .int .i64 1] rfl sm_ ?_; (with_reducible refine (laws_at.calls _ _ l0 1 t634 _ ?side1 ?side2 A87.out).mono ?_); (case side1 => repeat (first | exact (Kd.C_below HR0.out HB.out) | (with_reducible refine Kd.C_alloc ?_ _) | (with_reducible refine Kd.C_drewN ?_ _) | (with_reducible refine Kd.C_drew ?_))); (case side2 => exact HC0.out); rintro e w' ⟨rfl, ⟨nd, rfl⟩⟩; refine ⟨_, rfl, ?_⟩; (try (rw [drewN_self w125]; generalize hq_ : World.drewN w125 _ = w125; have n0_ : Aside0 (Kd.R (Kd.int .u8) 5 w125 w.heap.size (fun k_ => some k_ ≠ (.slice Ao122 t588.length co122 : Value).ownBlock) v632 y631) := ⟨by rw [← hq_]; exact (rq_ HO633.out)⟩; have n1_ : Aside0 (Kd.R (Kd.int .u8) 5 w125 w.heap.size (fun k_ => some k_ ≠ (v632 : Value).ownBlock) (.slice Ao122 t588.length co122) t588) := ⟨by rw [← hq_]; exact (rm_ HO_4.out)⟩; have n2_ : Aside0 (w125.heap[gb587]? = some (.cells #[.int .i64 t579, .int .i64 t580, .int .i64 t581, .int .i64 t582, .int .i64 t583, .int .i64 t584, .string t585, .string t586] 95 (0, 0))) := ⟨by rw [← hq_]; exact (bq_ BK587.out)⟩; have n3_ : Aside0 (w125.heap[gb605]? = some (.cells #[.int .i64 t595, .int .i64 t596, .int .i64 t597, .int .i64 t598, .int .i64 t599, .int .i64 t600, .string t601, .string t602] 95 (0, 0))) := ⟨by rw [← hq_]; exact (bq_ BK605.out)⟩; have n4_ : Aside0 (w125.heap[gb616]? = some (.cells #[.int .i64 t606, .int .i64 t607, .int .i64 t608, .int .i64 t609, .int .i64 t610, .int .i64 t611, .string t612, .string t613] 95 (0, 0))) := ⟨by rw [← hq_]; exact (bq_ BK616.out)⟩; have n5_ : Aside0 (Below w.heap.size w w125) := ⟨by rw [← hq_]; exact (hb_ HB.out)⟩; clear HO633 HO_4 BK587 BK605 BK616 HB hq_; have HO633 := n0_; have HO_4 := n1_; have BK587 := n2_; have BK605 := n3_; have BK616 := n4_; have HB := n5_; clear n0_ n1_ n2_ n3_ n4_ n5_))) | ((with_reducible refine gate_builtin (b := .append) (xs := #[.tmp 88, .tmp 92]) rfl ?_); (try (refine gate_guard (by rfl) ?_; dsimp only)); at_builtin; refine Kd.R_append (Kd.int .u8) (w0 := w) w.heap.size rfl (.tmp 88) (.tmp 92) 22 5 (.int .u8 0) 1 rfl Try.underlying22 info5 rfl (by decide) (by omega) v632 y631 ((t634) % 256) [.int .u8 ((t634) % 256)] (fun k_ => some k_ ≠ (.slice Ao122 t588.length co122 : Value).ownBlock) (fun _ => False) rfl rfl ?aP (fun _ hk => hk.elim) ?aF ?aO ?aB ?aS ?aL ?_; (case aP => exact rfl); (case aB => exact (hb_ HB.out)); (case aF => exact (fun k_ hk => Kd.fresh' (Kd.R_lt (rq_ HO_4.out)) k_ hk)); (case aO => exact (rq_ HO633.out)); (case aS => exact (below_size (hb_ HB.out))); (case aL => have := LMc88.out; omega); intro v636 w126 ho hb hg hat; rw [← Ny635.out] at ho; have n0_ := Aside0.mk (Kd.R_after (ok := (fun _ => True)) (qf4_) hg hat); have n1_ := Aside0.mk (blk_grown (g := gb587) (o := .cells #[.int .i64 t579, .int .i64 t580, .int .i64 t581, .int .i64 t582, .int .i64 t583, .int .i64 t584, .string t585, .string t586] 95 (0, 0)) (bq_ BK587.out) hg (Kd.R_ne HO633.out BK587.out (by decide))); have n2_ := Aside0.mk (blk_grown (g := gb605) (o := .cells #[.int .i64 t595, .int .i64 t596, .int .i64 t597, .int .i64 t598, .int .i64 t599, .int .i64 t600, .string t601, .string t602] 95 (0, 0)) (bq_ BK605.out) hg (Kd.R_ne HO633.out BK605.out (by decide))); have n3_ := Aside0.mk (blk_grown (g := gb616) (o := .cells #[.int .i64 t606, .int .i64 t607, .int .i64 t608, .int .i64 t609, .int .i64 t610, .int .i64 t611, .string t612, .string t613] 95 (0, 0)) (bq_ BK616.out) hg (Kd.R_ne HO633.out BK616.out (by decide))); have n4_ := Aside0.mk (hb); have n5_ := Aside0.mk (ho); clear HO_4; clear BK587; clear BK605; clear BK616; clear HB; clear HO633; have HO_4 := n0_; have BK587 := n1_; have BK605 := n2_; have BK616 := n3_; have HB := n4_; have HO637 := n5_; clear n0_ n1_ n2_ n3_ n4_ n5_; clear ho hb hg hat; obtain ⟨Ao127, co127, eo127⟩ := Kd.R_slice HO637.out; subst eo127) | ((with_reducible refine gate_callee (f := 65) rfl ?_); refine goesL_ (some 94) rfl rfl Try.func65 (by kernel_rfl) rfl #[.slice Ao127 y635.length co127, .int .i64 0] rfl sm_ ?_; (with_reducible refine (impl_CmdOf.calls kj69 _ _ y635 0 t638 t639 t640 t641 t642 t643 t644 t645 t646 false _ ?side1 ?side2 A89.out).mono ?_); (case side1 => repeat (first | exact (Kd.R_reads' HO637.out).2.2 | (with_reducible refine Kd.C_alloc ?_ _) | (with_reducible refine Kd.C_drewN ?_ _) | (with_reducible refine Kd.C_drew ?_))); (case side2 => exact (Kd.R_reads' HO637.out).2.1); rintro e w128 ⟨rfl, hb⟩; refine ⟨_, rfl, ?_⟩; have n0_ := Aside0.mk (Kd.R_below (rq_ HO_4.out) hb); have n1_ := Aside0.mk (Kd.R_below (rq_ HO637.out) hb); have n2_ := Aside0.mk (bb_ BK587.out hb); have n3_ := Aside0.mk (bb_ BK605.out hb); have n4_ := Aside0.mk (bb_ BK616.out hb); have n5_ := Aside0.mk (below_step (hb_ HB.out) hb); clear HO_4; clear HO637; clear BK587; clear BK605; clear BK616; clear HB; have HO_4 := n0_; have HO637 := n1_; have BK587 := n2_; have BK605 := n3_; have BK616 := n4_; have HB := n5_; clear n0_ n1_ n2_ n3_ n4_ n5_; (try clear hb); (try clear hb2); (try clear hk); (try clear hi)) | ((with_reducible refine gate_dst (N := 13) rfl ?_); (try (refine gate_guard (by rfl) ?_; dsimp only)); refine box_event ?hg (N := 13) ?hd (cs := #[.int .i64 0, .int .i64 0, .int .i64 0, .int .i64 0, .int .i64 0, .int .i64 0, .string (⟨#[]⟩ : ByteArray), .string (⟨#[]⟩ : ByteArray)]) (t := 95) ?hr ?_; (case hd => rfl); (case hg => rfl); (case hr => first | (go_simp; done) | (go_simp; rfl)); intro gb648 hg w129 hbox hb; have n0_ := Aside0.mk (Kd.R_below (rq_ HO_4.out) hb); have n1_ := Aside0.mk (Kd.R_below (rq_ HO637.out) hb); have n2_ := Aside0.mk (bb_ BK587.out hb); have n3_ := Aside0.mk (bb_ BK605.out hb); have n4_ := Aside0.mk (bb_ BK616.out hb); have n5_ := Aside0.mk (below_step (hb_ HB.out) hb); have n6_ := Aside0.mk (hbox); have n7_ := Aside0.mk ((by rw [hg]; exact (below_size (hb_ HB.out)) : w.heap.size ≤ gb648)); have n8_ := Aside0.mk ((by rw [hg]; exact (below_size (hb_ HB.out)) : w.heap.size ≤ gb648)); have n9_ := Aside0.mk ((nl_ BK587.out hg : gb587 ≠ gb648)); have n10_ := Aside0.mk ((ng_ BK587.out hg : gb648 ≠ gb587)); have n11_ := Aside0.mk ((nl_ BK605.out hg : gb605 ≠ gb648)); have n12_ := Aside0.mk ((ng_ BK605.out hg : gb648 ≠ gb605)); have n13_ := Aside0.mk ((nl_ BK616.out hg : gb616 ≠ gb648)); have n14_ := Aside0.mk ((ng_ BK616.out hg : gb648 ≠ gb616)); clear HO_4; clear HO637; clear BK587; clear BK605; clear BK616; clear HB; have HO_4 := n0_; have HO637 := n1_; have BK587 := n2_; have BK605 := n3_; have BK616 := n4_; have HB := n5_; have BK648 := n6_; have GW648 := n7_; have GE648 := n8_; have NB587_648 := n9_; have NB648_587 := n10_; have NB605_648 := n11_; have NB648_605 := n12_; have NB616_648 := n13_; have NB648_616 := n14_; clear n0_ n1_ n2_ n3_ n4_ n5_ n6_ n7_ n8_ n9_ n10_ n11_ n12_ n13_ n14_; clear hb hbox hg; have hnb130 := NB648_587.out; have hnc130 := NB587_648.out; have hnb131 := NB648_605.out; have hnc131 := NB605_648.out; have hnb132 := NB648_616.out; have hnc132 := NB616_648.out; have hcz133_0 : w129.cell? ⟨gb648, 0, none⟩ = some (.int .i64 0) := bc_ BK648 0; have hcz133_1 : w129.cell? ⟨gb648, 1, none⟩ = some (.int .i64 0) := bc_ BK648 1; have hcz133_2 : w129.cell? ⟨gb648, 2, none⟩ = some (.int .i64 0) := bc_ BK648 2; have hcz133_3 : w129.cell? ⟨gb648, 3, none⟩ = some (.int .i64 0) := bc_ BK648 3; have hcz133_4 : w129.cell? ⟨gb648, 4, none⟩ = some (.int .i64 0) := bc_ BK648 4; have hcz133_5 : w129.cell? ⟨gb648, 5, none⟩ = some (.int .i64 0) := bc_ BK648 5; have hcz133_6 : w129.cell? ⟨gb648, 6, none⟩ = some (.string (⟨#[]⟩ : ByteArray)) := bc_ BK648 6; have hcz133_7 : w129.cell? ⟨gb648, 7, none⟩ = some (.string (⟨#[]⟩ : ByteArray)) := bc_ BK648 7; have hfz133_0 := blk_frozen BK648.out 0; have hfz133_1 := blk_frozen BK648.out 1; have hfz133_2 := blk_frozen BK648.out 2; have hfz133_3 := blk_frozen BK648.out 3; have hfz133_4 := blk_frozen BK648.out 4; have hfz133_5 := blk_frozen BK648.out 5; have hfz133_6 := blk_frozen BK648.out 6; have hfz133_7 := blk_frozen BK648.out 7))
            go_ret
            exact ⟨er_, hb_ HB.out⟩
          ·
           rw [if_neg c88] at H
           exact absurd H (by simp)
         ·
          rw [if_neg c86] at H
          exact absurd H (by simp)

/-- THE ONE PURE STATEMENT of laws_FnCmdBytes: yours. -/
def laws_FnCmdBytes.Pure : Prop := ∀ (l0 : List Int), l0.length ≤ maxLen → l0.length * 1 ≤ 140737488351232 → (∀ x ∈ l0, (Lit.int .u8 x).wf = true) → ∃ k, laws_FnCmdBytes.f k l0 = some true
theorem laws_FnCmdBytes.walk (P : laws_FnCmdBytes.Pure) (a0 : Option Addr) (len0 cap0 : Nat) (z0 : List Int) (w : World) (w0 : (a0 = none ∧ len0 = 0 ∧ cap0 = 0 ∧ z0 = []) ∨ ∃ x, a0 = some x ∧ len0 ≤ cap0 ∧ cap0 ≤ maxLen ∧ z0.length = cap0 ∧ (∀ i, i < z0.length → w.cell? (x.add i) = some (.int .u8 (z0.getD i 0))) ∧ ∀ n ∈ z0, (Lit.int .u8 n).wf = true) (y0 : len0 * 1 ≤ 140737488351232) :
 Calls Try.prog 10 #[.slice a0 len0 cap0] w fun e w' => e = .returned (.bool true) ∧ Below w.heap.size w w' := by
 obtain ⟨l0, rfl, hr0, hm0, hw0, hc0⟩ := ReadsInt.ofRowC w0
 obtain ⟨k, h⟩ := P l0 hm0 y0 hw0
 refine (laws_FnCmdBytes.calls k _ _ l0 true w (Kd.C_of_reads (d := (0 : Int)) (h1 := fun _ => rfl) hr0) hc0 h).mono ?_
 rintro e w' ⟨rfl, hd⟩
 exact ⟨rfl, hd⟩
end
end Go.Proofs.Ytiknkolclcdajaa.Q
