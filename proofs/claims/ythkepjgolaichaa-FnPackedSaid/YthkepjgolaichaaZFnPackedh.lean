/- Made by a program of ours out of the print of the loaded functions: for each of some functions a plain function, and the walk that shows that a call comes to what it says. No condition but those of each theorem. -/
import Derived.Test.YthkepjgolaichaaZFnPacked0
import Derived.Test.YthkepjgolaichaaZFnPackeda
import Derived.Test.YthkepjgolaichaaZFnPackedb
import Derived.Test.YthkepjgolaichaaZFnPackedd
import Derived.Test.YthkepjgolaichaaZFnPackede
import Derived.Test.YthkepjgolaichaaZFnPackedf
import Derived.Test.YthkepjgolaichaaZFnPackedg
namespace Go.Proofs.Ythkepjgolaichaa.Q
open Go.RowKit Go.Proofs.YthkepjgolaichaaW.PrintWords Go.Proofs.YthkepjgolaichaaW.PrintLast Go.Proofs.YthkepjgolaichaaW.PrintMore
attribute [local go_sem] max2_int min2_int max_two min_two max_three min_three max_four min_four   -- for this text's walks alone
set_option linter.unusedVariables false
set_option linter.unusedSimpArgs false
theorem qh0_ {P : Prop} (h : P := by (with_reducible repeat (first | apply Kd.R_alloc | apply Kd.R_drewN | apply Kd.R_drew)); exact Kd.R_mono (Kd.R_far (p := ⟨gb750, 4, none⟩) (Kd.R_far (p := ⟨gb750, 3, none⟩) (Kd.R_far (p := ⟨gb750, 2, none⟩) (Kd.R_far (p := ⟨gb750, 1, none⟩) (Kd.R_far (p := ⟨gb750, 0, none⟩) (Kd.R_mono HO_727002.out (fun k_ hk => (⟨hk, hk.2.2⟩ : _ ∧ k_ ≠ gb750))) (fun _ hk => hk.2) (.int .i64 t744)) (fun _ hk => hk.2) (.string t745)) (fun _ hk => hk.2) (.string t746)) (fun _ hk => hk.2) (.int .i64 t747)) (fun _ hk => hk.2) (.int .i64 t748)) (fun _ hk => ⟨hk.1.1, ⟨hk.1.2.1, hk.1.2.2⟩⟩)) : P := h
theorem qh1_ {P : Prop} (h : P := by (with_reducible repeat (first | apply Kd.R_alloc | apply Kd.R_drewN | apply Kd.R_drew)); exact Kd.R_mono (Kd.R_far (p := ⟨gb750, 4, none⟩) (Kd.R_far (p := ⟨gb750, 3, none⟩) (Kd.R_far (p := ⟨gb750, 2, none⟩) (Kd.R_far (p := ⟨gb750, 1, none⟩) (Kd.R_far (p := ⟨gb750, 0, none⟩) (Kd.R_mono HO_721002.out (fun k_ hk => (⟨hk, hk.2.2⟩ : _ ∧ k_ ≠ gb750))) (fun _ hk => hk.2) (.int .i64 t744)) (fun _ hk => hk.2) (.string t745)) (fun _ hk => hk.2) (.string t746)) (fun _ hk => hk.2) (.int .i64 t747)) (fun _ hk => hk.2) (.int .i64 t748)) (fun _ hk => ⟨hk.1.1, ⟨hk.1.2.1, hk.1.2.2⟩⟩)) : P := h
theorem qh2_ {P : Prop} (h : P := by (with_reducible repeat (first | apply Kd.R_alloc | apply Kd.R_drewN | apply Kd.R_drew)); exact Kd.R_mono (Kd.R_far (p := ⟨gb758, 4, none⟩) (Kd.R_far (p := ⟨gb758, 3, none⟩) (Kd.R_far (p := ⟨gb758, 2, none⟩) (Kd.R_far (p := ⟨gb758, 1, none⟩) (Kd.R_far (p := ⟨gb758, 0, none⟩) (Kd.R_mono HO_727002.out (fun k_ hk => (⟨hk, hk.2⟩ : _ ∧ k_ ≠ gb758))) (fun _ hk => hk.2) (.int .i64 t752)) (fun _ hk => hk.2) (.string t753)) (fun _ hk => hk.2) (.string t754)) (fun _ hk => hk.2) (.int .i64 t755)) (fun _ hk => hk.2) (.int .i64 t756)) (fun _ hk => ⟨hk.1.1, hk.1.2⟩)) : P := h
theorem qh3_ {P : Prop} (h : P := by (with_reducible repeat (first | apply Kd.R_alloc | apply Kd.R_drewN | apply Kd.R_drew)); exact Kd.R_mono (Kd.R_far (p := ⟨gb758, 4, none⟩) (Kd.R_far (p := ⟨gb758, 3, none⟩) (Kd.R_far (p := ⟨gb758, 2, none⟩) (Kd.R_far (p := ⟨gb758, 1, none⟩) (Kd.R_far (p := ⟨gb758, 0, none⟩) (Kd.R_mono HO_721002.out (fun k_ hk => (⟨hk, hk.2⟩ : _ ∧ k_ ≠ gb758))) (fun _ hk => hk.2) (.int .i64 t752)) (fun _ hk => hk.2) (.string t753)) (fun _ hk => hk.2) (.string t754)) (fun _ hk => hk.2) (.int .i64 t755)) (fun _ hk => hk.2) (.int .i64 t756)) (fun _ hk => ⟨hk.1.1, hk.1.2⟩)) : P := h
theorem qh4_ {P : Prop} (h : P := by simp only [putAll, Act.put, List.setIfInBounds_toArray, List.set_cons_zero, List.set_cons_succ]) : P := h
theorem qh5_ {P : Prop} (h : P := by first | rfl | (simp; done) | (simp [*]; done)) : P := h
theorem qh6_ {P : Prop} (h : P := by have := HJ2.out; have := HJ8.out; have := HJ24.out; have := HJ30.out; have := HJ37.out; have := HK6.out; have := HJ76.out; first | omega | exact Nat.le_refl _) : P := h
theorem qh7_ {P : Prop} (h : P := by have := HJ2.out; have := HJ8.out; have := HJ24.out; have := HJ30.out; have := HK5.out; have := HJ38.out; first | omega | exact Nat.le_refl _) : P := h
theorem qh8_ {P : Prop} (h : P := by have := HJ2.out; have := HJ8.out; have := HJ24.out; have := HJ30.out; have := HJ37.out; have := HK6.out; first | omega | exact Nat.le_refl _) : P := h
theorem qh9_ {P : Prop} (h : P := by have := HJ2.out; have := HJ8.out; have := HJ24.out; have := HJ30.out; have := HK5.out; first | omega | exact Nat.le_refl _) : P := h
theorem qfrqh0_ {p q : Prop} (x : p) (h : p → q := by intro h_; (repeat (refine (cell_far (p := ⟨gb742, _, none⟩) (by first | exact Kd.own_blk (Kd.R_away HO_721002.out (fun _ hk => hk.2)) | (rw [add_block]; exact Kd.own_blk (Kd.R_away HO_721002.out (fun _ hk => hk.2))) | (show (Addr.add _ _).block ≠ _; rw [add_block]; exact Kd.own_blk (Kd.R_away HO_721002.out (fun _ hk => hk.2))) | (dsimp only; exact Kd.own_blk (Kd.R_away HO_721002.out (fun _ hk => hk.2)))) _).trans ?_)); exact h_) : q := h x
theorem qfrqh1_ {p q : Prop} (x : p) (h : p → q := by intro h_; (repeat (refine (cell_far (p := ⟨gb750, _, none⟩) (by first | exact Kd.own_blk (Kd.R_away HO_721002.out (fun _ hk => hk.2.2)) | (rw [add_block]; exact Kd.own_blk (Kd.R_away HO_721002.out (fun _ hk => hk.2.2))) | (show (Addr.add _ _).block ≠ _; rw [add_block]; exact Kd.own_blk (Kd.R_away HO_721002.out (fun _ hk => hk.2.2))) | (dsimp only; exact Kd.own_blk (Kd.R_away HO_721002.out (fun _ hk => hk.2.2)))) _).trans ?_)); exact h_) : q := h x
theorem qfrqh2_ {p q : Prop} (x : p) (h : p → q := by intro h_; (repeat (refine (cell_far (p := ⟨gb758, _, none⟩) (by first | exact Kd.own_blk (Kd.R_away HO_727002.out (fun _ hk => hk.2)) | (rw [add_block]; exact Kd.own_blk (Kd.R_away HO_727002.out (fun _ hk => hk.2))) | (show (Addr.add _ _).block ≠ _; rw [add_block]; exact Kd.own_blk (Kd.R_away HO_727002.out (fun _ hk => hk.2))) | (dsimp only; exact Kd.own_blk (Kd.R_away HO_727002.out (fun _ hk => hk.2)))) _).trans ?_)); exact h_) : q := h x

section
attribute [local go_sem high] eqA_Item
set_option maxHeartbeats 8000000 in
set_option maxRecDepth 100000 in
theorem laws_FnPacked.calls (k : Nat) (A0 : Option Addr) (c0 : Nat) (l0 : List Int) (r : Bool) (w : World) (hr0 : Kd.C (Kd.int .u8) w A0 l0.length l0) (hc0 : l0.length ≤ c0) (h : laws_FnPacked.f k l0 = some r) :
 Calls Try.prog 13 #[.slice A0 l0.length c0] w fun e w' => e = .returned (.bool r) ∧ Below w.heap.size w w' := by
 have hu48 := Try.underlying48
 have hu55 := Try.underlying55
 have HR0 := Aside0.mk hr0
 have HC0 := Aside0.mk hc0
 clear hr0 hc0
 have HB := Aside0.mk (Below.refl w.heap.size w)
 have H : ((laws_big.f l0).bind fun t713 => (if t713 = true then (some true) else (laws_FnPacked.j0 k l0))) = some r := h
 clear h
 replace H := Option.bind_eq_some_iff.mp H
 obtain ⟨t713, A20, H⟩ := H
 replace H : (if t713 = true then (some true) else (laws_FnPacked.j0 k l0)) = some r := H
 have A2 := Aside0.mk A20
 clear A20
 have HC3 := Aside0.mk H
 clear H
 go_enter Try.func13, Try.ntmps13
 go_upto_if 15 with (first | ((with_reducible refine gate_callee (f := 30) rfl ?_); refine goesL_ (some 15) rfl rfl Try.func30 (by kernel_rfl) rfl #[.slice A0 l0.length c0] rfl sm_ ?_; (with_reducible refine (laws_big.calls _ _ l0 t713 _ ?side1 ?side2 A2.out).mono ?_); (case side1 => repeat (first | exact HR0.out | (with_reducible refine Kd.C_alloc ?_ _) | (with_reducible refine Kd.C_drewN ?_ _) | (with_reducible refine Kd.C_drew ?_))); (case side2 => exact HC0.out); rintro e w' ⟨rfl, ⟨nd, rfl⟩⟩; refine ⟨_, rfl, ?_⟩))
 (try simp only [Act.put, List.setIfInBounds_toArray, List.set_cons_zero, List.set_cons_succ])
 go_cut [] (fun wc => ∃ (kq : Nat), Aside0 (laws_FnPacked.j0 kq l0 = some r) ∧ Aside0 (kq ≤ k) ∧ Aside0 (Below w.heap.size w wc))
 case first =>
  have H := HC3.out
  clear HC3
  by_cases c4 : t713 = true
  ·
   subst c4
   have H1 : (some true) = some r := by rw [if_pos rfl] at H; exact H
   clear H
   have H := H1
   clear H1
   obtain rfl := Option.some.inj H
   go_wp2
   go_ret
   exact ⟨er_, hb_ HB.out⟩
  ·
   replace c4 := Bool.eq_false_iff.mpr c4
   subst c4
   have H1 : (laws_FnPacked.j0 k l0) = some r := by rw [if_neg (show ¬ (false = true) by decide)] at H; exact H
   clear H
   have H := H1
   clear H1
   have H' := Aside0.mk H
   clear H
   go_wp2
   go_meet
   case rel => exact ⟨_, H', ⟨by first | omega | exact Nat.le_refl _⟩, ⟨hb_ HB.out⟩⟩
 case rest =>
  clear HC3
  (try clear c1); (try clear p2); (try clear c3); (try clear c4)
  obtain ⟨kq, HA, HJ2, HB⟩ := hcut
  cases kq with
  | zero => exact absurd HA.out (by simp [laws_FnPacked.j0])
  | succ kj2 =>
   have H := HA.out
   clear HA
   simp only [laws_FnPacked.j0] at H
   replace H := Option.bind_eq_some_iff.mp H
   obtain ⟨⟨t714, t715, t716, t719⟩, A50, H⟩ := H
   replace H : ((impl_RowPack.f kj2 t714 t715 t716 t719).bind fun bt721 => ((spec_RowPack.f kj2 t714 t715 t716 t719).bind fun bt727 => ((laws_sameRow.f kj2 bt721.1 bt721.2.1 bt721.2.2 bt727.1 bt727.2.1 bt727.2.2).bind fun t732 => (if t732 = true then (laws_FnPacked.j1 kj2 t719 t714 t715 t716 bt721.1 bt721.2.1 bt721.2.2) else (some false))))) = some r := H
   have A5 := Aside0.mk A50
   clear A50
   replace H := Option.bind_eq_some_iff.mp H
   obtain ⟨⟨t721, t722, t723⟩, A60, H⟩ := H
   replace H : ((spec_RowPack.f kj2 t714 t715 t716 t719).bind fun bt727 => ((laws_sameRow.f kj2 t721 t722 t723 bt727.1 bt727.2.1 bt727.2.2).bind fun t732 => (if t732 = true then (laws_FnPacked.j1 kj2 t719 t714 t715 t716 t721 t722 t723) else (some false)))) = some r := H
   have A6 := Aside0.mk A60
   clear A60
   replace H := Option.bind_eq_some_iff.mp H
   obtain ⟨⟨t727, t728, t729⟩, A70, H⟩ := H
   replace H : ((laws_sameRow.f kj2 t721 t722 t723 t727 t728 t729).bind fun t732 => (if t732 = true then (laws_FnPacked.j1 kj2 t719 t714 t715 t716 t721 t722 t723) else (some false))) = some r := H
   have A7 := Aside0.mk A70
   clear A70
   replace H := Option.bind_eq_some_iff.mp H
   obtain ⟨t732, A80, H⟩ := H
   replace H : (if t732 = true then (laws_FnPacked.j1 kj2 t719 t714 t715 t716 t721 t722 t723) else (some false)) = some r := H
   have A8 := Aside0.mk A80
   clear A80
   have HC9 := Aside0.mk H
   clear H
   try go_wp2_with (first | ((with_reducible refine gate_callee (f := 49) rfl ?_); refine goesL_ (some 18) rfl rfl Try.func49 (by kernel_rfl) rfl #[.slice A0 l0.length c0] rfl sm_ ?_; (with_reducible refine (spec_DrawRowPack.calls kj2 _ _ l0 t714 t715 t716 t719 _ ?side1 ?side2 A5.out).mono ?_); (case side1 => repeat (first | exact (Kd.C_below HR0.out HB.out) | (with_reducible refine Kd.C_alloc ?_ _) | (with_reducible refine Kd.C_drewN ?_ _) | (with_reducible refine Kd.C_drew ?_))); (case side2 => exact HC0.out); rintro e w10 ⟨v717, rfl, ho0, hb⟩; refine ⟨_, rfl, ?_⟩; have n0_ := Aside0.mk (Kd.R_lower ho0 (below_size (hb_ HB.out))); have n1_ := Aside0.mk (below_step (hb_ HB.out) hb); clear HB; have HO718 := n0_; have HB := n1_; clear n0_ n1_; (try clear hb); (try clear hb2); (try clear hk); (try clear hi); (try clear ho0)) | ((with_reducible refine gate_dst (N := 3) rfl ?_); refine box_event ?hg (N := 3) ?hd (cs := #[.int .i64 0, .int .i64 0, .slice none 0 0]) (t := 48) ?hr ?_; (case hd => rfl); (case hg => rfl); (case hr => first | (go_simp; done) | (go_simp; rfl)); intro gb720 hg w11 hbox hb; have n0_ := Aside0.mk (Kd.R_below (rq_ HO718.out) hb); have n1_ := Aside0.mk (below_step (hb_ HB.out) hb); have n2_ := Aside0.mk (hbox); have n3_ := Aside0.mk ((by rw [hg]; exact (below_size (hb_ HB.out)) : w.heap.size ≤ gb720)); have n4_ := Aside0.mk ((by rw [hg]; exact (below_size (hb_ HB.out)) : w.heap.size ≤ gb720)); clear HO718; clear HB; have HO718 := n0_; have HB := n1_; have BK720 := n2_; have GW720 := n3_; have GE720 := n4_; clear n0_ n1_ n2_ n3_ n4_; clear hb hbox hg; have hcz12_0 : w11.cell? ⟨gb720, 0, none⟩ = some (.int .i64 0) := bc_ BK720 0; have hcz12_1 : w11.cell? ⟨gb720, 1, none⟩ = some (.int .i64 0) := bc_ BK720 1; have hcz12_2 : w11.cell? ⟨gb720, 2, none⟩ = some (.slice none 0 0) := bc_ BK720 2; have hfz12_0 := blk_frozen BK720.out 0; have hfz12_1 := blk_frozen BK720.out 1; have hfz12_2 := blk_frozen BK720.out 2; obtain ⟨Ao13, co13, eo13⟩ := Kd.R_slice HO718.out; subst eo13) | ((with_reducible refine gate_callee (f := 50) rfl ?_); refine goesL_ (some 23) rfl rfl Try.func50 (by kernel_rfl) rfl #[.agg #[.int .i64 t714, .int .i64 t715, .slice Ao13 t716.length co13], .int .i64 t719] rfl sm_ ?_; (with_reducible refine (impl_RowPack.calls kj2 t714 t715 _ _ t716 t719 t721 t722 t723 _ ?side1 ?side2 A6.out).mono ?_); (case side1 => refine (Kd.R_reads' (e := 55) (base := w.heap.size) (ok := fun k_ => True) (n := t716.length) (c := co13) ?_).2.2; exact (rk_ HO718.out BK720.out)); (case side2 => exact (Kd.R_reads' HO718.out).2.1); rintro e w14 ⟨v724, rfl, ho0, hb⟩; refine ⟨_, rfl, ?_⟩; have n0_ := Aside0.mk (Kd.R_elder' (rk_ HO718.out BK720.out) (Kd.R_base ho0) hb); have n1_ := Aside0.mk (Kd.R_lower (Kd.R_new' ho0 (Kd.R_lt (rk_ HO718.out BK720.out))) (below_size (hb_ HB.out))); have n2_ := Aside0.mk (blk_below (g := gb720) (o := .cells #[.int .i64 t714, .int .i64 t715, .slice Ao13 t716.length co13] 48 (0, 0)) (bp_ BK720.out) hb); have n3_ := Aside0.mk (below_step (hb_ HB.out) hb); clear HO718; clear BK720; clear HB; have HO718 := n0_; have HO725 := n1_; have BK720 := n2_; have HB := n3_; clear n0_ n1_ n2_ n3_; (try clear hb); (try clear hb2); (try clear hk); (try clear hi); (try clear ho0)) | ((with_reducible refine gate_dst (N := 5) rfl ?_); refine box_event ?hg (N := 5) ?hd (cs := #[.int .i64 0, .int .i64 0, .slice none 0 0]) (t := 48) ?hr ?_; (case hd => rfl); (case hg => rfl); (case hr => first | (go_simp; done) | (go_simp; rfl)); intro gb726 hg w15 hbox hb; have n0_ := Aside0.mk (Kd.R_below (rq_ HO718.out) hb); have n1_ := Aside0.mk (Kd.R_below (rq_ HO725.out) hb); have n2_ := Aside0.mk (bb_ BK720.out hb); have n3_ := Aside0.mk (below_step (hb_ HB.out) hb); have n4_ := Aside0.mk (hbox); have n5_ := Aside0.mk ((by rw [hg]; exact (below_size (hb_ HB.out)) : w.heap.size ≤ gb726)); have n6_ := Aside0.mk ((by rw [hg]; exact (below_size (hb_ HB.out)) : w.heap.size ≤ gb726)); have n7_ := Aside0.mk ((nl_ BK720.out hg : gb720 ≠ gb726)); have n8_ := Aside0.mk ((ng_ BK720.out hg : gb726 ≠ gb720)); clear HO718; clear HO725; clear BK720; clear HB; have HO718 := n0_; have HO725 := n1_; have BK720 := n2_; have HB := n3_; have BK726 := n4_; have GW726 := n5_; have GE726 := n6_; have NB720_726 := n7_; have NB726_720 := n8_; clear n0_ n1_ n2_ n3_ n4_ n5_ n6_ n7_ n8_; clear hb hbox hg; have hnb16 := NB726_720.out; have hnc16 := NB720_726.out; have hcz17_0 : w15.cell? ⟨gb726, 0, none⟩ = some (.int .i64 0) := bc_ BK726 0; have hcz17_1 : w15.cell? ⟨gb726, 1, none⟩ = some (.int .i64 0) := bc_ BK726 1; have hcz17_2 : w15.cell? ⟨gb726, 2, none⟩ = some (.slice none 0 0) := bc_ BK726 2; have hfz17_0 := blk_frozen BK726.out 0; have hfz17_1 := blk_frozen BK726.out 1; have hfz17_2 := blk_frozen BK726.out 2; obtain ⟨Ao18, co18, eo18⟩ := Kd.R_slice HO725.out; subst eo18))
   have n0_ : Aside0 (Kd.R k_Item 55 (((w15.setCell ⟨gb726, 0, none⟩ (.int .i64 t721)).setCell ⟨gb726, 1, none⟩ (.int .i64 t722)).setCell ⟨gb726, 2, none⟩ (.slice Ao18 t723.length co18)) w.heap.size (fun k_ => some k_ ≠ (.slice Ao18 t723.length co18 : Value).ownBlock) (.slice Ao13 t716.length co13) t716) := ⟨by (with_reducible repeat (first | apply Kd.R_alloc | apply Kd.R_drewN | apply Kd.R_drew)); exact Kd.R_mono (Kd.R_far (p := ⟨gb726, 2, none⟩) (Kd.R_far (p := ⟨gb726, 1, none⟩) (Kd.R_far (p := ⟨gb726, 0, none⟩) (Kd.R_types HO718.out BK726.out (by decide)) (fun _ hk => hk.2) (.int .i64 t721)) (fun _ hk => hk.2) (.int .i64 t722)) (fun _ hk => hk.2) (.slice Ao18 t723.length co18)) (fun _ hk => hk.1.2)⟩
   have n1_ : Aside0 (Kd.R k_Item 55 (((w15.setCell ⟨gb726, 0, none⟩ (.int .i64 t721)).setCell ⟨gb726, 1, none⟩ (.int .i64 t722)).setCell ⟨gb726, 2, none⟩ (.slice Ao18 t723.length co18)) w.heap.size (fun k_ => some k_ ≠ (.slice Ao13 t716.length co13 : Value).ownBlock) (.slice Ao18 t723.length co18) t723) := ⟨by (with_reducible repeat (first | apply Kd.R_alloc | apply Kd.R_drewN | apply Kd.R_drew)); exact Kd.R_mono (Kd.R_far (p := ⟨gb726, 2, none⟩) (Kd.R_far (p := ⟨gb726, 1, none⟩) (Kd.R_far (p := ⟨gb726, 0, none⟩) (Kd.R_types HO725.out BK726.out (by decide)) (fun _ hk => hk.2) (.int .i64 t721)) (fun _ hk => hk.2) (.int .i64 t722)) (fun _ hk => hk.2) (.slice Ao18 t723.length co18)) (fun _ hk => hk.1.2)⟩
   have n2_ : Aside0 ((((w15.setCell ⟨gb726, 0, none⟩ (.int .i64 t721)).setCell ⟨gb726, 1, none⟩ (.int .i64 t722)).setCell ⟨gb726, 2, none⟩ (.slice Ao18 t723.length co18)).heap[gb720]? = some (.cells #[.int .i64 t714, .int .i64 t715, .slice Ao13 t716.length co13] 48 (0, 0))) := ⟨bf_ NB720_726.out BK720.out⟩
   have n3_ : Aside0 ((((w15.setCell ⟨gb726, 0, none⟩ (.int .i64 t721)).setCell ⟨gb726, 1, none⟩ (.int .i64 t722)).setCell ⟨gb726, 2, none⟩ (.slice Ao18 t723.length co18)).heap[gb726]? = some (.cells #[.int .i64 t721, .int .i64 t722, .slice Ao18 t723.length co18] 48 (0, 0))) := ⟨bp_ BK726.out⟩
   have n4_ : Aside0 (Below w.heap.size w (((w15.setCell ⟨gb726, 0, none⟩ (.int .i64 t721)).setCell ⟨gb726, 1, none⟩ (.int .i64 t722)).setCell ⟨gb726, 2, none⟩ (.slice Ao18 t723.length co18))) := ⟨hb_ HB.out⟩
   (try clear HO718)
   (try clear HO725)
   (try clear BK720)
   (try clear BK726)
   (try clear HB)
   generalize (((w15.setCell ⟨gb726, 0, none⟩ (.int .i64 t721)).setCell ⟨gb726, 1, none⟩ (.int .i64 t722)).setCell ⟨gb726, 2, none⟩ (.slice Ao18 t723.length co18)) = w19 at n0_ n1_ n2_ n3_ n4_ ⊢
   have HO718 := n0_
   have HO725 := n1_
   have BK720 := n2_
   have BK726 := n3_
   have HB := n4_
   clear n0_ n1_ n2_ n3_ n4_
   have n0_ := Aside0.mk (Kd.R_drew HO718.out)
   have n1_ := Aside0.mk (Kd.R_drew HO725.out)
   have n2_ := Aside0.mk (blk_drew BK720.out)
   have n3_ := Aside0.mk (blk_drew BK726.out)
   have n4_ := Aside0.mk (below_drew1 HB.out)
   clear HO718; clear HO725
   clear BK720; clear BK726
   clear HB
   have HO718 := n0_
   have HO725 := n1_
   have BK720 := n2_
   have BK726 := n3_
   have HB := n4_
   clear n0_ n1_ n2_ n3_ n4_
   refine start_ (n := 6) (S := fun w' => w'.cell? ⟨gb726, 0, none⟩ = some (.int .i64 t721) ∧ w'.cell? ⟨gb726, 1, none⟩ = some (.int .i64 t722) ∧ w'.cell? ⟨gb726, 2, none⟩ = some (.slice Ao18 t723.length co18) ∧ w'.cell? ⟨gb720, 0, none⟩ = some (.int .i64 t714) ∧ w'.cell? ⟨gb720, 1, none⟩ = some (.int .i64 t715) ∧ w'.cell? ⟨gb720, 2, none⟩ = some (.slice Ao13 t716.length co13)) (ds := []) #[false, false, false, false, false, false] (by kernel_rfl) rfl rfl ⟨bc_ BK726 0, bc_ BK726 1, bc_ BK726 2, bc_ BK720 0, bc_ BK720 1, bc_ BK720 2⟩ (fun hHeld => ?_)
   generalize w19.drew = w20 at HO718 HO725 BK720 BK726 HB hHeld ⊢
   refine pure_ (i := 2) (N := some 26) (v := ?_) (a' := ?_) #[false, false, true, false, false, false] rfl rfl (by kernel_rfl) (fun _ _ _ h => h) (Or.inl ⟨by rfl, ?_⟩) ?_ ?_; rotate_left; (focus intro w'; go_simp; with_reducible rfl); rotate_left; (focus simp only [Act.put, List.setIfInBounds_toArray, List.set_cons_zero, List.set_cons_succ, i64_w, i32_w]; rfl)
   refine take_ (i := 0) (N := some 24) (v := ?_) (a' := ?_) #[true, false, true, false, false, false] rfl rfl (by kernel_rfl) (fun _ _ _ h => h) (Or.inl ⟨by rfl, ?_⟩) hHeld ?_ ?_
   rotate_left
   ·
    rintro w' ⟨s0, s1, s2, s3, s4, s5⟩
    go_simp
    with_reducible rfl
   rotate_left; (focus simp only [Act.put, List.setIfInBounds_toArray, List.set_cons_zero, List.set_cons_succ, i64_w, i32_w]; rfl)
   refine take_ (i := 1) (N := some 25) (v := ?_) (a' := ?_) #[true, true, true, false, false, false] rfl rfl (by kernel_rfl) (fun _ _ _ h => h) (Or.inl ⟨by rfl, ?_⟩) hHeld ?_ ?_
   rotate_left
   ·
    rintro w' ⟨s0, s1, s2, s3, s4, s5⟩
    go_simp
    with_reducible rfl
   rotate_left; (focus simp only [Act.put, List.setIfInBounds_toArray, List.set_cons_zero, List.set_cons_succ, i64_w, i32_w]; rfl)
   refine one_ (i := 3) (N := some 27) #[true, true, true, true, false, false] rfl rfl (by kernel_rfl) (by decide) (fun K hK => ?_)
   refine goes_ Try.func51 (by kernel_rfl) rfl #[.agg #[.int .i64 t714, .int .i64 t715, .slice Ao13 t716.length co13], .int .i64 t719] (by rfl) rfl rfl sm_ ?_
   with_reducible refine (spec_RowPack.calls kj2 t714 t715 _ _ t716 t719 t727 t728 t729 _ ?side1 ?side2 A7.out).mono ?_
   (case side1 => repeat (first | exact (Kd.R_reads' HO718.out).2.2 | (with_reducible refine Kd.C_alloc ?_ _) | (with_reducible refine Kd.C_drewN ?_ _) | (with_reducible refine Kd.C_drew ?_)))
   (case side2 => exact (Kd.R_reads' HO718.out).2.1)
   rintro e w21 ⟨v730, rfl, ho0, hb⟩
   refine ⟨_, rfl, ?_⟩
   have n0_ := Aside0.mk (Kd.R_elder' (rq_ HO718.out) (Kd.R_base ho0) hb)
   have n1_ := Aside0.mk (Kd.R_elder' (rq_ HO725.out) (Kd.R_base ho0) hb)
   have n2_ := Aside0.mk (Kd.R_lower (Kd.R_new' (Kd.R_new' ho0 (Kd.R_lt (rq_ HO718.out))) (Kd.R_lt (rq_ HO725.out))) (below_size (hb_ HB.out)))
   have n3_ := Aside0.mk (bb_ BK720.out hb)
   have n4_ := Aside0.mk (bb_ BK726.out hb)
   have n5_ := Aside0.mk (below_step (hb_ HB.out) hb)
   clear HO718; clear HO725
   clear BK720; clear BK726
   clear HB
   have HO718 := n0_
   have HO725 := n1_
   have HO731 := n2_
   have BK720 := n3_
   have BK726 := n4_
   have HB := n5_
   clear n0_ n1_ n2_ n3_ n4_ n5_
   (try clear hb)
   (try clear hb2)
   (try clear hk)
   (try clear hi)
   (try clear ho0)
   obtain ⟨Ao22, co22, eo22⟩ := Kd.R_slice HO731.out
   (first | subst eo22 | (injection eo22 with f1_ f2_ f3_; have f4_ := f1_.symm; have f5_ := f3_.symm; clear f1_ f2_ f3_; subst f4_; subst f5_))
   refine hK.out _ _ ⟨bc_ BK726 0, bc_ BK726 1, bc_ BK726 2, bc_ BK720 0, bc_ BK720 1, bc_ BK720 2⟩ (fun hHeld => ?_)
   clear hK K
   refine nm_ ?_
   refine one_ (i := 4) (N := some 28) #[true, true, true, true, true, false] rfl rfl (by kernel_rfl) (by decide) (fun K hK => ?_)
   refine goes_ Try.func33 (by kernel_rfl) rfl #[.agg #[.int .i64 t721, .int .i64 t722, .slice Ao18 t723.length co18], .agg #[.int .i64 t727, .int .i64 t728, .slice Ao22 t729.length co22]] (by rfl) rfl rfl sm_ ?_
   with_reducible refine (laws_sameRow.calls kj2 t721 t722 _ _ t723 t727 t728 _ _ t729 t732 _ ?side1 ?side2 ?side3 ?side4 A8.out).mono ?_
   (case side1 => repeat (first | exact (Kd.R_reads' HO725.out).2.2 | (with_reducible refine Kd.C_alloc ?_ _) | (with_reducible refine Kd.C_drewN ?_ _) | (with_reducible refine Kd.C_drew ?_)))
   (case side2 => exact (Kd.R_reads' HO725.out).2.1)
   (case side3 => repeat (first | exact (Kd.R_reads' HO731.out).2.2 | (with_reducible refine Kd.C_alloc ?_ _) | (with_reducible refine Kd.C_drewN ?_ _) | (with_reducible refine Kd.C_drew ?_)))
   (case side4 => exact (Kd.R_reads' HO731.out).2.1)
   rintro e w23 ⟨rfl, hb⟩
   refine ⟨_, rfl, ?_⟩
   have n0_ := Aside0.mk (Kd.R_below (rq_ HO718.out) hb)
   have n1_ := Aside0.mk (Kd.R_below (rq_ HO725.out) hb)
   have n2_ := Aside0.mk (Kd.R_below (rq_ HO731.out) hb)
   have n3_ := Aside0.mk (bb_ BK720.out hb)
   have n4_ := Aside0.mk (bb_ BK726.out hb)
   have n5_ := Aside0.mk (below_step (hb_ HB.out) hb)
   clear HO718; clear HO725
   clear HO731; clear BK720
   clear BK726; clear HB
   have HO718 := n0_
   have HO725 := n1_
   have HO731 := n2_
   have BK720 := n3_
   have BK726 := n4_
   have HB := n5_
   clear n0_ n1_ n2_ n3_ n4_ n5_
   (try clear hb)
   (try clear hb2)
   (try clear hk)
   (try clear hi)
   refine hK.out _ _ ⟨bc_ BK726 0, bc_ BK726 1, bc_ BK726 2, bc_ BK720 0, bc_ BK720 1, bc_ BK720 2⟩ (fun hHeld => ?_)
   clear hK K
   refine nm_ ?_
   refine pure_ (i := 5) (N := some 29) (v := ?_) (a' := ?_) #[true, true, true, true, true, true] rfl rfl (by kernel_rfl) (fun _ _ _ h => h) (Or.inl ⟨by rfl, ?_⟩) ?_ ?_; rotate_left; (focus intro w'; go_simp; with_reducible rfl); rotate_left; (focus simp only [Act.put, List.setIfInBounds_toArray, List.set_cons_zero, List.set_cons_succ, i64_w, i32_w]; rfl)
   refine done_ (by kernel_rfl) ?_
   go_upto_if 29 with (fail)
   go_cut [] (fun wc => ∃ (kq : Nat), Aside0 (laws_FnPacked.j1 kq t719 t714 t715 t716 t721 t722 t723 = some r) ∧ Aside0 (kq ≤ kj2) ∧ Aside0 (Kd.R k_Item 55 wc w.heap.size (fun k_ => some k_ ≠ ((.slice Ao18 t723.length co18) : Value).ownBlock) (.slice Ao13 t716.length co13) t716) ∧ Aside0 (Kd.R k_Item 55 wc w.heap.size (fun k_ => some k_ ≠ ((.slice Ao13 t716.length co13) : Value).ownBlock) (.slice Ao18 t723.length co18) t723) ∧ Aside0 (wc.heap[gb720]? = some (.cells #[.int .i64 t714, .int .i64 t715, (.slice Ao13 t716.length co13)] 48 (0, 0))) ∧ Aside0 (wc.heap[gb726]? = some (.cells #[.int .i64 t721, .int .i64 t722, (.slice Ao18 t723.length co18)] 48 (0, 0))) ∧ Aside0 (Below w.heap.size w wc))
   case first =>
    have H := HC9.out
    clear HC9
    by_cases c24 : t732 = true
    ·
     subst c24
     have H1 : (laws_FnPacked.j1 kj2 t719 t714 t715 t716 t721 t722 t723) = some r := by rw [if_pos rfl] at H; exact H
     clear H
     have H := H1
     clear H1
     have H' := Aside0.mk H
     clear H
     go_wp2
     go_meet
     case rel => exact ⟨_, H', ⟨by have := HJ2.out; first | omega | exact Nat.le_refl _⟩, ⟨rm_ HO718.out⟩, ⟨rm_ HO725.out⟩, ⟨bq_ BK720.out⟩, ⟨bq_ BK726.out⟩, ⟨hb_ HB.out⟩⟩
    ·
     replace c24 := Bool.eq_false_iff.mpr c24
     subst c24
     have H1 : (some false) = some r := by rw [if_neg (show ¬ (false = true) by decide)] at H; exact H
     clear H
     have H := H1
     clear H1
     obtain rfl := Option.some.inj H
     go_wp2
     go_ret
     exact ⟨er_, hb_ HB.out⟩
   case rest =>
    clear HC9
    (try clear c1); (try clear c2); (try clear p2); (try clear c3); (try clear c4); (try clear c5); (try clear c13); (try clear c16); (try clear c24); (try clear hcz12_0); (try clear hcz12_1); (try clear hcz12_2); (try clear hcz17_0); (try clear hcz17_1); (try clear hcz17_2); (try clear hfz12_0); (try clear hfz12_1); (try clear hfz12_2); (try clear hfz17_0); (try clear hfz17_1); (try clear hfz17_2); (try clear p2)
    obtain ⟨kq, HA, HJ8, HO_721002, HO_727002, BK720, BK726, HB⟩ := hcut
    cases kq with
    | zero => exact absurd HA.out (by simp [laws_FnPacked.j1])
    | succ kj8 =>
     have H := HA.out
     clear HA
     simp only [laws_FnPacked.j1] at H
     have HC25 := Aside0.mk H
     clear H
     go_upto_region 7 with (fail)
     go_cut [36] (fun v36 wc => ∃ (kq : Nat) (x36_24 : Bool), v36 = .bool x36_24 ∧ Aside0 (laws_FnPacked.j2 kq t719 x36_24 t714 t715 t716 t721 t722 t723 = some r) ∧ Aside0 (kq ≤ kj8) ∧ Aside0 (Kd.R k_Item 55 wc w.heap.size (fun k_ => some k_ ≠ ((.slice Ao18 t723.length co18) : Value).ownBlock) (.slice Ao13 t716.length co13) t716) ∧ Aside0 (Kd.R k_Item 55 wc w.heap.size (fun k_ => some k_ ≠ ((.slice Ao13 t716.length co13) : Value).ownBlock) (.slice Ao18 t723.length co18) t723) ∧ Aside0 (wc.heap[gb720]? = some (.cells #[.int .i64 t714, .int .i64 t715, (.slice Ao13 t716.length co13)] 48 (0, 0))) ∧ Aside0 (wc.heap[gb726]? = some (.cells #[.int .i64 t721, .int .i64 t722, (.slice Ao18 t723.length co18)] 48 (0, 0))) ∧ Aside0 (Below w.heap.size w wc))
     case first =>
      have H := HC25.out
      clear HC25
      by_cases c26 : t719 < 1
      ·
       rw [if_pos c26] at H
       have c26b0 : decide (t719 < 1) = true := decide_eq_true c26
       clear c26
       (first | rw [c26b0] | (simp only [i64_w, i32_w]; rw [c26b0]) | rw [c26b4] | rw [c26b3] | skip)
       have H' := Aside0.mk H
       clear H
       go_wp2
       go_meet
       case rel => exact ⟨_, (true), (qh5_), H', ⟨by have := HJ2.out; have := HJ8.out; first | omega | exact Nat.le_refl _⟩, ⟨rq_ HO_721002.out⟩, ⟨rq_ HO_727002.out⟩, ⟨bq_ BK720.out⟩, ⟨bq_ BK726.out⟩, ⟨hb_ HB.out⟩⟩
      ·
       rw [if_neg c26] at H
       have c26b0 : decide (t719 < 1) = false := decide_eq_false c26
       clear c26
       (first | rw [c26b0] | (simp only [i64_w, i32_w]; rw [c26b0]) | rw [c26b4] | rw [c26b3] | skip)
       replace H := Option.bind_eq_some_iff.mp H
       obtain ⟨t733, A270, H⟩ := H
       replace H : (laws_FnPacked.j2 kj8 t719 (!t733) t714 t715 t716 t721 t722 t723) = some r := H
       have A27 := Aside0.mk A270
       clear A270
       have H' := Aside0.mk H
       clear H
       have hnb28 := NB720_726.out
       have hnc28 := NB726_720.out
       have hcz29_0 : wc.cell? ⟨gb720, 0, none⟩ = some (.int .i64 t714) := bc_ BK720 0
       have hcz29_1 : wc.cell? ⟨gb720, 1, none⟩ = some (.int .i64 t715) := bc_ BK720 1
       have hcz29_2 : wc.cell? ⟨gb720, 2, none⟩ = some (.slice Ao13 t716.length co13) := bc_ BK720 2
       have hfz29_0 := blk_frozen BK720.out 0
       have hfz29_1 := blk_frozen BK720.out 1
       have hfz29_2 := blk_frozen BK720.out 2
       go_wp2_with (first | (go_at_call 35; (with_reducible refine (impl_RowOk.calls kj8 t714 t715 _ _ t716 t733 _ ?side1 ?side2 A27.out).mono ?_); (case side1 => repeat (first | exact (Kd.R_reads' HO_721002.out).2.2 | (with_reducible refine Kd.C_alloc ?_ _) | (with_reducible refine Kd.C_drewN ?_ _) | (with_reducible refine Kd.C_drew ?_))); (case side2 => exact (Kd.R_reads' HO_721002.out).2.1); rintro e w30 ⟨rfl, hb⟩; have n0_ := Aside0.mk (Kd.R_below (rq_ HO_721002.out) hb); have n1_ := Aside0.mk (Kd.R_below (rq_ HO_727002.out) hb); have n2_ := Aside0.mk (bb_ BK720.out hb); have n3_ := Aside0.mk (bb_ BK726.out hb); have n4_ := Aside0.mk (below_step (hb_ HB.out) hb); clear HO_721002; clear HO_727002; clear BK720; clear BK726; clear HB; have HO_721002 := n0_; have HO_727002 := n1_; have BK720 := n2_; have BK726 := n3_; have HB := n4_; clear n0_ n1_ n2_ n3_ n4_; (try clear hb); (try clear hb2); (try clear hk); (try clear hi)))
       go_meet
       case rel => exact ⟨_, (!t733), (qh5_), H', ⟨by have := HJ2.out; have := HJ8.out; first | omega | exact Nat.le_refl _⟩, ⟨rq_ HO_721002.out⟩, ⟨rq_ HO_727002.out⟩, ⟨bq_ BK720.out⟩, ⟨bq_ BK726.out⟩, ⟨hb_ HB.out⟩⟩
     case rest =>
      clear HC25
      (try clear c1); (try clear c2); (try clear p2); (try clear c3); (try clear c4); (try clear c5); (try clear c13); (try clear c16); (try clear c24); (try clear c26); (try clear c26b0); (try clear c28); (try clear c30); (try clear hcz12_0); (try clear hcz12_1); (try clear hcz12_2); (try clear hcz17_0); (try clear hcz17_1); (try clear hcz17_2); (try clear hcz29_0); (try clear hcz29_1); (try clear hcz29_2); (try clear hfz12_0); (try clear hfz12_1); (try clear hfz12_2); (try clear hfz17_0); (try clear hfz17_1); (try clear hfz17_2); (try clear hfz29_0); (try clear hfz29_1); (try clear hfz29_2); (try clear p2)
      obtain ⟨kq, x36_24, rfl, HA, HJ24, HO_721002, HO_727002, BK720, BK726, HB⟩ := hcut
      cases kq with
      | zero => exact absurd HA.out (by simp [laws_FnPacked.j2])
      | succ kj24 =>
       have H := HA.out
       clear HA
       simp only [laws_FnPacked.j2] at H
       have HC31 := Aside0.mk H
       clear H
       go_upto_if 36 with (fail)
       go_cut [] (fun wc => ∃ (kq : Nat), Aside0 (laws_FnPacked.j3 kq t719 t714 t715 t716 t721 t722 t723 = some r) ∧ Aside0 (kq ≤ kj24) ∧ Aside0 (Kd.R k_Item 55 wc w.heap.size (fun k_ => some k_ ≠ ((.slice Ao18 t723.length co18) : Value).ownBlock) (.slice Ao13 t716.length co13) t716) ∧ Aside0 (Kd.R k_Item 55 wc w.heap.size (fun k_ => some k_ ≠ ((.slice Ao13 t716.length co13) : Value).ownBlock) (.slice Ao18 t723.length co18) t723) ∧ Aside0 (wc.heap[gb720]? = some (.cells #[.int .i64 t714, .int .i64 t715, (.slice Ao13 t716.length co13)] 48 (0, 0))) ∧ Aside0 (wc.heap[gb726]? = some (.cells #[.int .i64 t721, .int .i64 t722, (.slice Ao18 t723.length co18)] 48 (0, 0))) ∧ Aside0 (Below w.heap.size w wc))
       case first =>
        have H := HC31.out
        clear HC31
        by_cases c32 : x36_24 = true
        ·
         subst c32
         have H1 : ((laws_sameRow.f kj24 t721 t722 t723 t714 t715 t716).bind fun t734 => (some t734)) = some r := by rw [if_pos rfl] at H; exact H
         clear H
         have H := H1
         clear H1
         replace H := Option.bind_eq_some_iff.mp H
         obtain ⟨t734, A330, H⟩ := H
         replace H : (some t734) = some r := H
         have A33 := Aside0.mk A330
         clear A330
         obtain rfl := Option.some.inj H
         have hnb34 := NB726_720.out
         have hnc34 := NB720_726.out
         have hcz35_0 : wc.cell? ⟨gb726, 0, none⟩ = some (.int .i64 t721) := bc_ BK726 0
         have hcz35_1 : wc.cell? ⟨gb726, 1, none⟩ = some (.int .i64 t722) := bc_ BK726 1
         have hcz35_2 : wc.cell? ⟨gb726, 2, none⟩ = some (.slice Ao18 t723.length co18) := bc_ BK726 2
         have hfz35_0 := blk_frozen BK726.out 0
         have hfz35_1 := blk_frozen BK726.out 1
         have hfz35_2 := blk_frozen BK726.out 2
         have hcz36_0 : wc.cell? ⟨gb720, 0, none⟩ = some (.int .i64 t714) := bc_ BK720 0
         have hcz36_1 : wc.cell? ⟨gb720, 1, none⟩ = some (.int .i64 t715) := bc_ BK720 1
         have hcz36_2 : wc.cell? ⟨gb720, 2, none⟩ = some (.slice Ao13 t716.length co13) := bc_ BK720 2
         have hfz36_0 := blk_frozen BK720.out 0
         have hfz36_1 := blk_frozen BK720.out 1
         have hfz36_2 := blk_frozen BK720.out 2
         go_wp2_with (first | ((with_reducible refine gate_callee (f := 33) rfl ?_); refine goesL_ (some 39) rfl rfl Try.func33 (by kernel_rfl) rfl #[.agg #[.int .i64 t721, .int .i64 t722, .slice Ao18 t723.length co18], .agg #[.int .i64 t714, .int .i64 t715, .slice Ao13 t716.length co13]] rfl sm_ ?_; (with_reducible refine (laws_sameRow.calls kj24 t721 t722 _ _ t723 t714 t715 _ _ t716 t734 _ ?side1 ?side2 ?side3 ?side4 A33.out).mono ?_); (case side1 => repeat (first | exact (Kd.R_reads' HO_727002.out).2.2 | (with_reducible refine Kd.C_alloc ?_ _) | (with_reducible refine Kd.C_drewN ?_ _) | (with_reducible refine Kd.C_drew ?_))); (case side2 => exact (Kd.R_reads' HO_727002.out).2.1); (case side3 => repeat (first | exact (Kd.R_reads' HO_721002.out).2.2 | (with_reducible refine Kd.C_alloc ?_ _) | (with_reducible refine Kd.C_drewN ?_ _) | (with_reducible refine Kd.C_drew ?_))); (case side4 => exact (Kd.R_reads' HO_721002.out).2.1); rintro e w37 ⟨rfl, hb⟩; refine ⟨_, rfl, ?_⟩; have n0_ := Aside0.mk (Kd.R_below (rq_ HO_721002.out) hb); have n1_ := Aside0.mk (Kd.R_below (rq_ HO_727002.out) hb); have n2_ := Aside0.mk (bb_ BK720.out hb); have n3_ := Aside0.mk (bb_ BK726.out hb); have n4_ := Aside0.mk (below_step (hb_ HB.out) hb); clear HO_721002; clear HO_727002; clear BK720; clear BK726; clear HB; have HO_721002 := n0_; have HO_727002 := n1_; have BK720 := n2_; have BK726 := n3_; have HB := n4_; clear n0_ n1_ n2_ n3_ n4_; (try clear hb); (try clear hb2); (try clear hk); (try clear hi)))
         go_ret
         exact ⟨er_, hb_ HB.out⟩
        ·
         replace c32 := Bool.eq_false_iff.mpr c32
         subst c32
         have H1 : (laws_FnPacked.j3 kj24 t719 t714 t715 t716 t721 t722 t723) = some r := by rw [if_neg (show ¬ (false = true) by decide)] at H; exact H
         clear H
         have H := H1
         clear H1
         have H' := Aside0.mk H
         clear H
         go_wp2
         go_meet
         case rel => exact ⟨_, H', ⟨by have := HJ2.out; have := HJ8.out; have := HJ24.out; first | omega | exact Nat.le_refl _⟩, ⟨rq_ HO_721002.out⟩, ⟨rq_ HO_727002.out⟩, ⟨bq_ BK720.out⟩, ⟨bq_ BK726.out⟩, ⟨hb_ HB.out⟩⟩
       case rest =>
        clear HC31
        (try clear c1); (try clear c2); (try clear p2); (try clear c3); (try clear c4); (try clear c5); (try clear c13); (try clear c16); (try clear c24); (try clear c26); (try clear c26b0); (try clear c28); (try clear c30); (try clear c32); (try clear c33); (try clear c34); (try clear hcz12_0); (try clear hcz12_1); (try clear hcz12_2); (try clear hcz17_0); (try clear hcz17_1); (try clear hcz17_2); (try clear hcz29_0); (try clear hcz29_1); (try clear hcz29_2); (try clear hcz35_0); (try clear hcz35_1); (try clear hcz35_2); (try clear hcz36_0); (try clear hcz36_1); (try clear hcz36_2); (try clear hfz12_0); (try clear hfz12_1); (try clear hfz12_2); (try clear hfz17_0); (try clear hfz17_1); (try clear hfz17_2); (try clear hfz29_0); (try clear hfz29_1); (try clear hfz29_2); (try clear hfz35_0); (try clear hfz35_1); (try clear hfz35_2); (try clear hfz36_0); (try clear hfz36_1); (try clear hfz36_2); (try clear p2)
        obtain ⟨kq, HA, HJ30, HO_721002, HO_727002, BK720, BK726, HB⟩ := hcut
        cases kq with
        | zero => exact absurd HA.out (by simp [laws_FnPacked.j3])
        | succ kj30 =>
         have H := HA.out
         clear HA
         simp only [laws_FnPacked.j3] at H
         have HC38 := Aside0.mk H
         clear H
         go_upto_block 0 with (fail)
         go_cut [] (fun wc => ∃ (kq : Nat), Aside0 (laws_FnPacked.j7 kq t719 t714 t715 t716 t721 t722 t723 = some r) ∧ Aside0 (kq ≤ kj30) ∧ Aside0 (Kd.R k_Item 55 wc w.heap.size (fun k_ => some k_ ≠ ((.slice Ao18 t723.length co18) : Value).ownBlock) (.slice Ao13 t716.length co13) t716) ∧ Aside0 (Kd.R k_Item 55 wc w.heap.size (fun k_ => some k_ ≠ ((.slice Ao13 t716.length co13) : Value).ownBlock) (.slice Ao18 t723.length co18) t723) ∧ Aside0 (wc.heap[gb720]? = some (.cells #[.int .i64 t714, .int .i64 t715, (.slice Ao13 t716.length co13)] 48 (0, 0))) ∧ Aside0 (wc.heap[gb726]? = some (.cells #[.int .i64 t721, .int .i64 t722, (.slice Ao18 t723.length co18)] 48 (0, 0))) ∧ Aside0 (Below w.heap.size w wc))
         case first =>
          have H := HC38.out
          clear HC38
          have H' := Aside0.mk H
          clear H
          go_wp2
          go_loopg [6] kj30 (fun kq v6 w' => ∃ (x6_5 : Int), v6 = .int .i64 x6_5 ∧ Aside0 (laws_FnPacked.l0 kq t719 x6_5 t714 t715 t716 t721 t722 t723 = some r) ∧ Aside0 (kq ≤ kj30) ∧ Aside0 (Kd.R k_Item 55 w' w.heap.size (fun k_ => some k_ ≠ ((.slice Ao18 t723.length co18) : Value).ownBlock) (.slice Ao13 t716.length co13) t716) ∧ Aside0 (Kd.R k_Item 55 w' w.heap.size (fun k_ => some k_ ≠ ((.slice Ao13 t716.length co13) : Value).ownBlock) (.slice Ao18 t723.length co18) t723) ∧ Aside0 (w'.heap[gb720]? = some (.cells #[.int .i64 t714, .int .i64 t715, (.slice Ao13 t716.length co13)] 48 (0, 0))) ∧ Aside0 (w'.heap[gb726]? = some (.cells #[.int .i64 t721, .int .i64 t722, (.slice Ao18 t723.length co18)] 48 (0, 0))) ∧ Aside0 (Below w.heap.size w w'))
          case atStart => exact ⟨(0), (qh5_), H', ⟨Nat.le_refl _⟩, ⟨rq_ HO_721002.out⟩, ⟨rq_ HO_727002.out⟩, ⟨bq_ BK720.out⟩, ⟨bq_ BK726.out⟩, ⟨hb_ HB.out⟩⟩
          case round =>
           clear H'
           (try clear c1); (try clear c2); (try clear p2); (try clear c3); (try clear c4); (try clear c5); (try clear c13); (try clear c16); (try clear c24); (try clear c26); (try clear c26b0); (try clear c28); (try clear c30); (try clear c32); (try clear c33); (try clear c34); (try clear hcz12_0); (try clear hcz12_1); (try clear hcz12_2); (try clear hcz17_0); (try clear hcz17_1); (try clear hcz17_2); (try clear hcz29_0); (try clear hcz29_1); (try clear hcz29_2); (try clear hcz35_0); (try clear hcz35_1); (try clear hcz35_2); (try clear hcz36_0); (try clear hcz36_1); (try clear hcz36_2); (try clear hfz12_0); (try clear hfz12_1); (try clear hfz12_2); (try clear hfz17_0); (try clear hfz17_1); (try clear hfz17_2); (try clear hfz29_0); (try clear hfz29_1); (try clear hfz29_2); (try clear hfz35_0); (try clear hfz35_1); (try clear hfz35_2); (try clear hfz36_0); (try clear hfz36_1); (try clear hfz36_2); (try clear p2)
           obtain ⟨x6_5, rfl, HA, HK5, HO_721002, HO_727002, BK720, BK726, HB⟩ := hrel
           cases gk with
           | zero => exact absurd HA.out (by simp [laws_FnPacked.l0])
           | succ k5 =>
            have H := HA.out
            clear HA
            simp only [laws_FnPacked.l0] at H
            have HC39 := Aside0.mk H
            clear H
            have hnb40 := NB720_726.out
            have hnc40 := NB726_720.out
            have hcz41_0 : wr.cell? ⟨gb720, 0, none⟩ = some (.int .i64 t714) := bc_ BK720 0
            have hcz41_1 : wr.cell? ⟨gb720, 1, none⟩ = some (.int .i64 t715) := bc_ BK720 1
            have hcz41_2 : wr.cell? ⟨gb720, 2, none⟩ = some (.slice Ao13 t716.length co13) := bc_ BK720 2
            have hfz41_0 := blk_frozen BK720.out 0
            have hfz41_1 := blk_frozen BK720.out 1
            have hfz41_2 := blk_frozen BK720.out 2
            go_upto_if 44 with (fail)
            go_cut [] (fun wc => ∃ (kq : Nat), Aside0 (laws_FnPacked.j5 kq t719 x6_5 t714 t715 t716 t721 t722 t723 = some r) ∧ Aside0 (kq ≤ k5) ∧ Aside0 (Kd.R k_Item 55 wc w.heap.size (fun k_ => some k_ ≠ ((.slice Ao18 t723.length co18) : Value).ownBlock) (.slice Ao13 t716.length co13) t716) ∧ Aside0 (Kd.R k_Item 55 wc w.heap.size (fun k_ => some k_ ≠ ((.slice Ao13 t716.length co13) : Value).ownBlock) (.slice Ao18 t723.length co18) t723) ∧ Aside0 (wc.heap[gb720]? = some (.cells #[.int .i64 t714, .int .i64 t715, (.slice Ao13 t716.length co13)] 48 (0, 0))) ∧ Aside0 (wc.heap[gb726]? = some (.cells #[.int .i64 t721, .int .i64 t722, (.slice Ao18 t723.length co18)] 48 (0, 0))) ∧ Aside0 (Below w.heap.size w wc))
            case first =>
             have H := HC39.out
             clear HC39
             by_cases c42 : x6_5 < (t716.length : Int)
             ·
              rw [if_pos c42] at H
              have c42b0 : decide (x6_5 < (t716.length : Int)) = true := decide_eq_true c42
              clear c42
              (first | rw [c42b0] | (simp only [i64_w, i32_w]; rw [c42b0]) | rw [c42b4] | rw [c42b3] | skip)
              have H' := Aside0.mk H
              clear H
              go_wp2
              go_meet
              case rel => exact ⟨_, H', ⟨qh9_⟩, ⟨rq_ HO_721002.out⟩, ⟨rq_ HO_727002.out⟩, ⟨bq_ BK720.out⟩, ⟨bq_ BK726.out⟩, ⟨hb_ HB.out⟩⟩
             ·
              rw [if_neg c42] at H
              have c42b0 : decide (x6_5 < (t716.length : Int)) = false := decide_eq_false c42
              clear c42
              (first | rw [c42b0] | (simp only [i64_w, i32_w]; rw [c42b0]) | rw [c42b4] | rw [c42b3] | skip)
              have H' := Aside0.mk H
              clear H
              go_wp2
              go_meet
              case rel => exact ⟨_, H', ⟨qh9_⟩, ⟨rq_ HO_721002.out⟩, ⟨rq_ HO_727002.out⟩, ⟨bq_ BK720.out⟩, ⟨bq_ BK726.out⟩, ⟨hb_ HB.out⟩⟩
            case rest =>
             clear HC39
             (try clear c1); (try clear c2); (try clear p2); (try clear c3); (try clear c4); (try clear c5); (try clear c13); (try clear c16); (try clear c24); (try clear c26); (try clear c26b0); (try clear c28); (try clear c30); (try clear c32); (try clear c33); (try clear c34); (try clear c40); (try clear c42); (try clear c42b0); (try clear hcz12_0); (try clear hcz12_1); (try clear hcz12_2); (try clear hcz17_0); (try clear hcz17_1); (try clear hcz17_2); (try clear hcz29_0); (try clear hcz29_1); (try clear hcz29_2); (try clear hcz35_0); (try clear hcz35_1); (try clear hcz35_2); (try clear hcz36_0); (try clear hcz36_1); (try clear hcz36_2); (try clear hcz41_0); (try clear hcz41_1); (try clear hcz41_2); (try clear hfz12_0); (try clear hfz12_1); (try clear hfz12_2); (try clear hfz17_0); (try clear hfz17_1); (try clear hfz17_2); (try clear hfz29_0); (try clear hfz29_1); (try clear hfz29_2); (try clear hfz35_0); (try clear hfz35_1); (try clear hfz35_2); (try clear hfz36_0); (try clear hfz36_1); (try clear hfz36_2); (try clear hfz41_0); (try clear hfz41_1); (try clear hfz41_2); (try clear p2)
             obtain ⟨kq, HA, HJ38, HO_721002, HO_727002, BK720, BK726, HB⟩ := hcut
             cases kq with
             | zero => exact absurd HA.out (by simp [laws_FnPacked.j5])
             | succ kj38 =>
              have H := HA.out
              clear HA
              simp only [laws_FnPacked.j5] at H
              by_cases c43 : 0 ≤ x6_5
              ·
               rw [if_pos c43] at H
               have c43b0 : decide (0 ≤ x6_5) = true := decide_eq_true c43
               clear c43
               by_cases c44 : x6_5 < (t716.length : Int)
               ·
                rw [if_pos c44] at H
                have c44b0 : decide (x6_5 < (t716.length : Int)) = true := decide_eq_true c44
                clear c44
                replace H := Option.bind_eq_some_iff.mp H
                obtain ⟨⟨t736, t737, t738, t739, t740, t741⟩, A450, H⟩ := H
                replace H : ((impl_Latest.f kj38 t721 t722 t723 ((rd_Item t716 x6_5).f1)).bind fun bt744 => (if (t741 != bt744.2.2.2.2.2) = true then (laws_FnPacked.j6 kj38 t719 x6_5 true t714 t715 t716 t721 t722 t723) else (laws_FnPacked.j6 kj38 t719 x6_5 (!(t736 == bt744.1) || (!(t737.toList == bt744.2.1.toList) || (!(t738.toList == bt744.2.2.1.toList) || (!(t739 == bt744.2.2.2.1) || (!(t740 == bt744.2.2.2.2.1)))))) t714 t715 t716 t721 t722 t723))) = some r := H
                have A45 := Aside0.mk A450
                clear A450
                replace H := Option.bind_eq_some_iff.mp H
                obtain ⟨⟨t744, t745, t746, t747, t748, t749⟩, A460, H⟩ := H
                replace H : (if (t741 != t749) = true then (laws_FnPacked.j6 kj38 t719 x6_5 true t714 t715 t716 t721 t722 t723) else (laws_FnPacked.j6 kj38 t719 x6_5 (!(t736 == t744) || (!(t737.toList == t745.toList) || (!(t738.toList == t746.toList) || (!(t739 == t747) || (!(t740 == t748)))))) t714 t715 t716 t721 t722 t723)) = some r := H
                have A46 := Aside0.mk A460
                clear A460
                have HC47 := Aside0.mk H
                clear H
                try go_wp2
                have n0_ := Aside0.mk (Kd.R_drew HO_721002.out)
                have n1_ := Aside0.mk (Kd.R_drew HO_727002.out)
                have n2_ := Aside0.mk (blk_drew BK720.out)
                have n3_ := Aside0.mk (blk_drew BK726.out)
                have n4_ := Aside0.mk (below_drew1 HB.out)
                clear HO_721002; clear HO_727002
                clear BK720; clear BK726
                clear HB
                have HO_721002 := n0_
                have HO_727002 := n1_
                have BK720 := n2_
                have BK726 := n3_
                have HB := n4_
                clear n0_ n1_ n2_ n3_ n4_
                have p735 : 0 ≤ (x6_5 : Int) := of_decide_eq_true dt_
                have q735 : x6_5 < (t716.length : Int) := of_decide_eq_true dt_
                obtain ⟨ad735, e735, hx735_0, hx735_1, hx735_2, hx735_3, hx735_4⟩ := at_Item (Kd.R_reads' HO_721002.out).2.2 x6_5 p735 q735
                cases e735
                replace p735 := eq_true p735
                replace q735 := eq_true q735
                refine start_ (n := 14) (S := fun w' => w'.cell? ⟨gb720, 0, none⟩ = some (.int .i64 t714) ∧ w'.cell? ⟨gb720, 1, none⟩ = some (.int .i64 t715) ∧ w'.cell? ⟨gb720, 2, none⟩ = some (.slice (some ad735) t716.length co13) ∧ w'.cell? (ad735.add ((x6_5).toNat * 5)) = some (.int .i64 ((rd_Item t716 x6_5).f0)) ∧ w'.cell? ⟨(ad735.add ((x6_5).toNat * 5)).block, (ad735.add ((x6_5).toNat * 5)).off + 1, none⟩ = some (.string ((rd_Item t716 x6_5).f1)) ∧ w'.cell? ⟨(ad735.add ((x6_5).toNat * 5)).block, (ad735.add ((x6_5).toNat * 5)).off + 2, none⟩ = some (.string ((rd_Item t716 x6_5).f2)) ∧ w'.cell? ⟨(ad735.add ((x6_5).toNat * 5)).block, (ad735.add ((x6_5).toNat * 5)).off + 3, none⟩ = some (.int .i64 ((rd_Item t716 x6_5).f3)) ∧ w'.cell? ⟨(ad735.add ((x6_5).toNat * 5)).block, (ad735.add ((x6_5).toNat * 5)).off + 4, none⟩ = some (.int .i64 ((rd_Item t716 x6_5).f4))) (ds := []) laws_FnPacked.m0 (by kernel_rfl) rfl rfl ⟨bc_ BK720 0, bc_ BK720 1, bc_ BK720 2, hx735_0, hx735_1, hx735_2, hx735_3, hx735_4⟩ (fun hHeld => ?_); refine with_tabW laws_FnPacked.tab12 laws_FnPacked.bits12 (fun HT_ HW_ => ?_)
                generalize wc.drew = w48 at HO_721002 HO_727002 BK720 BK726 HB hx735_0 hx735_1 hx735_2 hx735_3 hx735_4 hHeld ⊢
                refine pI_ 1 49 HT_ laws_FnPacked.m1 rfl rfl ?_
                refine pI_ 3 51 HT_ laws_FnPacked.m2 rfl rfl ?_
                refine tk_ 0 48 HT_ HW_ laws_FnPacked.m3 rfl rfl hHeld ?_
                refine tk_ 2 50 HT_ HW_ laws_FnPacked.m4 rfl rfl hHeld ?_
                refine pI_ 4 52 HT_ laws_FnPacked.m5 rfl rfl ?_
                refine pI_ 5 53 HT_ laws_FnPacked.m6 rfl rfl ?_
                refine tk_ 6 54 HT_ HW_ laws_FnPacked.m7 rfl rfl hHeld ?_
                refine join_ (σ := Nat) 2 laws_FnPacked.m8 (fun s_ => [(55, .tuple #[.agg #[.int .i64 t736, .string t737, .string t738, .int .i64 t739, .int .i64 t740], .bool t741]), (7, .pointer (some ⟨s_, 0, none⟩)), (47, .tuple #[.agg #[.int .i64 t736, .string t737, .string t738, .int .i64 t739, .int .i64 t740], .bool t741]), (56, .agg #[.int .i64 t736, .string t737, .string t738, .int .i64 t739, .int .i64 t740]), (57, .bool t741)]) (fun s_ w' => (w'.cell? ⟨gb720, 0, none⟩ = some (.int .i64 t714) ∧ w'.cell? ⟨gb720, 1, none⟩ = some (.int .i64 t715) ∧ w'.cell? ⟨gb720, 2, none⟩ = some (.slice (some ad735) t716.length co13) ∧ w'.cell? (ad735.add ((x6_5).toNat * 5)) = some (.int .i64 ((rd_Item t716 x6_5).f0)) ∧ w'.cell? ⟨(ad735.add ((x6_5).toNat * 5)).block, (ad735.add ((x6_5).toNat * 5)).off + 1, none⟩ = some (.string ((rd_Item t716 x6_5).f1)) ∧ w'.cell? ⟨(ad735.add ((x6_5).toNat * 5)).block, (ad735.add ((x6_5).toNat * 5)).off + 2, none⟩ = some (.string ((rd_Item t716 x6_5).f2)) ∧ w'.cell? ⟨(ad735.add ((x6_5).toNat * 5)).block, (ad735.add ((x6_5).toNat * 5)).off + 3, none⟩ = some (.int .i64 ((rd_Item t716 x6_5).f3)) ∧ w'.cell? ⟨(ad735.add ((x6_5).toNat * 5)).block, (ad735.add ((x6_5).toNat * 5)).off + 4, none⟩ = some (.int .i64 ((rd_Item t716 x6_5).f4))) ∧ (Kd.R k_Item 55 w' w.heap.size (fun k_ => some k_ ≠ (.slice Ao18 t723.length co18 : Value).ownBlock ∧ k_ ≠ s_) (.slice (some ad735) t716.length co13) t716) ∧ (Kd.R k_Item 55 w' w.heap.size (fun k_ => some k_ ≠ (.slice (some ad735) t716.length co13 : Value).ownBlock ∧ k_ ≠ s_) (.slice Ao18 t723.length co18) t723) ∧ (w'.heap[gb720]? = some (.cells #[.int .i64 t714, .int .i64 t715, .slice (some ad735) t716.length co13] 48 (0, 0))) ∧ (w'.heap[gb726]? = some (.cells #[.int .i64 t721, .int .i64 t722, .slice Ao18 t723.length co18] 48 (0, 0))) ∧ (w'.heap[s_]? = some (.cells #[.int .i64 0, .string (⟨#[]⟩ : ByteArray), .string (⟨#[]⟩ : ByteArray), .int .i64 0, .int .i64 0] 55 (0, 0))) ∧ (w.heap.size ≤ s_) ∧ (w.heap.size ≤ s_) ∧ (gb720 ≠ s_) ∧ (s_ ≠ gb720) ∧ (gb726 ≠ s_) ∧ (s_ ≠ gb726) ∧ (Below w.heap.size w w')) ?_ ?_
                rotate_left
                ·
                 intro hCont
                 refine two_ (i := 7) (j := 11) (Ni := some 55) (Nj := some 7) laws_FnPacked.m9 laws_FnPacked.m10 rfl rfl rfl rfl (two_of HT_.out (by kernel_rfl)) (by decide) (by decide) (fun K hK => ?_) (fun K hK => ?_)
                 ·
                  skip
                  refine goes_ Try.func52 (by kernel_rfl) rfl #[.agg #[.int .i64 t714, .int .i64 t715, .slice (some ad735) t716.length co13], .string ((rd_Item t716 x6_5).f1)] (by rfl) rfl rfl sm_ ?_
                  with_reducible refine (impl_Latest.calls kj38 t714 t715 _ _ t716 ((rd_Item t716 x6_5).f1) t736 t737 t738 t739 t740 t741 _ ?side1 ?side2 A45.out).mono ?_
                  (case side1 => repeat (first | exact (Kd.R_reads' HO_721002.out).2.2 | (with_reducible refine Kd.C_alloc ?_ _) | (with_reducible refine Kd.C_drewN ?_ _) | (with_reducible refine Kd.C_drew ?_)))
                  (case side2 => exact (Kd.R_reads' HO_721002.out).2.1)
                  rintro e w49 ⟨rfl, hb⟩
                  have HS3_ := (hb.cell (World.block_lt_of_cell? _ _ (hHeld.2.2.2.1))).trans (hHeld.2.2.2.1)
                  have HS4_ := (hb.cell (World.block_lt_of_cell? _ _ (hHeld.2.2.2.2.1))).trans (hHeld.2.2.2.2.1)
                  have HS5_ := (hb.cell (World.block_lt_of_cell? _ _ (hHeld.2.2.2.2.2.1))).trans (hHeld.2.2.2.2.2.1)
                  have HS6_ := (hb.cell (World.block_lt_of_cell? _ _ (hHeld.2.2.2.2.2.2.1))).trans (hHeld.2.2.2.2.2.2.1)
                  have HS7_ := (hb.cell (World.block_lt_of_cell? _ _ (hHeld.2.2.2.2.2.2.2))).trans (hHeld.2.2.2.2.2.2.2)
                  refine ⟨_, rfl, ?_⟩
                  have n0_ := Aside0.mk (Kd.R_below (rq_ HO_721002.out) hb)
                  have n1_ := Aside0.mk (Kd.R_below (rq_ HO_727002.out) hb)
                  have n2_ := Aside0.mk (bb_ BK720.out hb)
                  have n3_ := Aside0.mk (bb_ BK726.out hb)
                  have n4_ := Aside0.mk (below_step (hb_ HB.out) hb)
                  clear HO_721002; clear HO_727002
                  clear BK720; clear BK726
                  clear HB
                  have HO_721002 := n0_
                  have HO_727002 := n1_
                  have BK720 := n2_
                  have BK726 := n3_
                  have HB := n4_
                  clear n0_ n1_ n2_ n3_ n4_
                  (try clear hb)
                  (try clear hb2)
                  (try clear hk)
                  (try clear hi)
                  refine hK.out _ _ ⟨bc_ BK720 0, bc_ BK720 1, bc_ BK720 2, HS3_, HS4_, HS5_, HS6_, HS7_⟩ (fun hHeld => ?_)
                  clear hK K
                  refine nm_ ?_
                  refine pI_ 8 47 HT_ laws_FnPacked.m11 rfl rfl ?_
                  refine pI_ 9 56 HT_ laws_FnPacked.m12 rfl rfl ?_
                  refine pI_ 10 57 HT_ laws_FnPacked.m13 rfl rfl ?_
                  refine on_ 11 7 HT_ laws_FnPacked.m8 rfl rfl (fun K hK => ?_)
                  refine box_step ?hg (N := 7) ?hd (cs := #[.int .i64 0, .string (⟨#[]⟩ : ByteArray), .string (⟨#[]⟩ : ByteArray), .int .i64 0, .int .i64 0]) (t := 55) ?hr ?_; (case hd => rfl); (case hg => rfl); (case hr => first | (go_simp; done) | (go_simp; rfl))
                  intro gb742 hg w50 hbox hb
                  have HS3_ := (hb.cell (World.block_lt_of_cell? _ _ (hHeld.2.2.2.1))).trans (hHeld.2.2.2.1)
                  have HS4_ := (hb.cell (World.block_lt_of_cell? _ _ (hHeld.2.2.2.2.1))).trans (hHeld.2.2.2.2.1)
                  have HS5_ := (hb.cell (World.block_lt_of_cell? _ _ (hHeld.2.2.2.2.2.1))).trans (hHeld.2.2.2.2.2.1)
                  have HS6_ := (hb.cell (World.block_lt_of_cell? _ _ (hHeld.2.2.2.2.2.2.1))).trans (hHeld.2.2.2.2.2.2.1)
                  have HS7_ := (hb.cell (World.block_lt_of_cell? _ _ (hHeld.2.2.2.2.2.2.2))).trans (hHeld.2.2.2.2.2.2.2)
                  have n0_ := Aside0.mk (Kd.R_below (Kd.R_elderB (rq_ HO_721002.out) gb742 (Nat.le_of_eq hg.symm)) hb)
                  have n1_ := Aside0.mk (Kd.R_below (Kd.R_elderB (rq_ HO_727002.out) gb742 (Nat.le_of_eq hg.symm)) hb)
                  have n2_ := Aside0.mk (bb_ BK720.out hb)
                  have n3_ := Aside0.mk (bb_ BK726.out hb)
                  have n4_ := Aside0.mk (below_step (hb_ HB.out) hb)
                  have n5_ := Aside0.mk (hbox)
                  have n6_ := Aside0.mk ((by rw [hg]; exact (below_size (hb_ HB.out)) : w.heap.size ≤ gb742))
                  have n7_ := Aside0.mk ((by rw [hg]; exact (below_size (hb_ HB.out)) : w.heap.size ≤ gb742))
                  have n8_ := Aside0.mk ((nl_ BK720.out hg : gb720 ≠ gb742))
                  have n9_ := Aside0.mk ((ng_ BK720.out hg : gb742 ≠ gb720))
                  have n10_ := Aside0.mk ((nl_ BK726.out hg : gb726 ≠ gb742))
                  have n11_ := Aside0.mk ((ng_ BK726.out hg : gb742 ≠ gb726))
                  clear HO_721002; clear HO_727002
                  clear BK720; clear BK726
                  clear HB
                  have HO_721002 := n0_
                  have HO_727002 := n1_
                  have BK720 := n2_
                  have BK726 := n3_
                  have HB := n4_
                  have BK742 := n5_
                  have GW742 := n6_
                  have GE742 := n7_
                  have NB720_742 := n8_
                  have NB742_720 := n9_
                  have NB726_742 := n10_
                  have NB742_726 := n11_
                  clear n0_ n1_ n2_ n3_ n4_ n5_ n6_ n7_ n8_ n9_ n10_ n11_; clear hb hbox hg
                  refine hK.out _ _ ⟨bc_ BK720 0, bc_ BK720 1, bc_ BK720 2, HS3_, HS4_, HS5_, HS6_, HS7_⟩ (fun hHeld => ?_)
                  clear hK K
                  refine nm_ ?_
                  exact norm_ (qh4_) (hCont (gb742) _ ⟨hHeld, (rq_ HO_721002.out), (rq_ HO_727002.out), (bq_ BK720.out), (bq_ BK726.out), (bq_ BK742.out), GW742.out, GE742.out, NB720_742.out, NB742_720.out, NB726_742.out, NB742_726.out, (hb_ HB.out)⟩)
                 ·
                  skip
                  refine box_step ?hg (N := 7) ?hd (cs := #[.int .i64 0, .string (⟨#[]⟩ : ByteArray), .string (⟨#[]⟩ : ByteArray), .int .i64 0, .int .i64 0]) (t := 55) ?hr ?_; (case hd => rfl); (case hg => rfl); (case hr => first | (go_simp; done) | (go_simp; rfl))
                  intro gb742 hg w49 hbox hb
                  have HS3_ := (hb.cell (World.block_lt_of_cell? _ _ (hHeld.2.2.2.1))).trans (hHeld.2.2.2.1)
                  have HS4_ := (hb.cell (World.block_lt_of_cell? _ _ (hHeld.2.2.2.2.1))).trans (hHeld.2.2.2.2.1)
                  have HS5_ := (hb.cell (World.block_lt_of_cell? _ _ (hHeld.2.2.2.2.2.1))).trans (hHeld.2.2.2.2.2.1)
                  have HS6_ := (hb.cell (World.block_lt_of_cell? _ _ (hHeld.2.2.2.2.2.2.1))).trans (hHeld.2.2.2.2.2.2.1)
                  have HS7_ := (hb.cell (World.block_lt_of_cell? _ _ (hHeld.2.2.2.2.2.2.2))).trans (hHeld.2.2.2.2.2.2.2)
                  have n0_ := Aside0.mk (Kd.R_below (Kd.R_elderB (rq_ HO_721002.out) gb742 (Nat.le_of_eq hg.symm)) hb)
                  have n1_ := Aside0.mk (Kd.R_below (Kd.R_elderB (rq_ HO_727002.out) gb742 (Nat.le_of_eq hg.symm)) hb)
                  have n2_ := Aside0.mk (bb_ BK720.out hb)
                  have n3_ := Aside0.mk (bb_ BK726.out hb)
                  have n4_ := Aside0.mk (below_step (hb_ HB.out) hb)
                  have n5_ := Aside0.mk (hbox)
                  have n6_ := Aside0.mk ((by rw [hg]; exact (below_size (hb_ HB.out)) : w.heap.size ≤ gb742))
                  have n7_ := Aside0.mk ((by rw [hg]; exact (below_size (hb_ HB.out)) : w.heap.size ≤ gb742))
                  have n8_ := Aside0.mk ((nl_ BK720.out hg : gb720 ≠ gb742))
                  have n9_ := Aside0.mk ((ng_ BK720.out hg : gb742 ≠ gb720))
                  have n10_ := Aside0.mk ((nl_ BK726.out hg : gb726 ≠ gb742))
                  have n11_ := Aside0.mk ((ng_ BK726.out hg : gb742 ≠ gb726))
                  clear HO_721002; clear HO_727002
                  clear BK720; clear BK726
                  clear HB
                  have HO_721002 := n0_
                  have HO_727002 := n1_
                  have BK720 := n2_
                  have BK726 := n3_
                  have HB := n4_
                  have BK742 := n5_
                  have GW742 := n6_
                  have GE742 := n7_
                  have NB720_742 := n8_
                  have NB742_720 := n9_
                  have NB726_742 := n10_
                  have NB742_726 := n11_
                  clear n0_ n1_ n2_ n3_ n4_ n5_ n6_ n7_ n8_ n9_ n10_ n11_; clear hb hbox hg
                  refine hK.out _ _ ⟨bc_ BK720 0, bc_ BK720 1, bc_ BK720 2, HS3_, HS4_, HS5_, HS6_, HS7_⟩ (fun hHeld => ?_)
                  clear hK K
                  refine nm_ ?_
                  refine on_ 7 55 HT_ laws_FnPacked.m14 rfl rfl (fun K hK => ?_)
                  refine goes_ Try.func52 (by kernel_rfl) rfl #[.agg #[.int .i64 t714, .int .i64 t715, .slice (some ad735) t716.length co13], .string ((rd_Item t716 x6_5).f1)] (by rfl) rfl rfl sm_ ?_
                  with_reducible refine (impl_Latest.calls kj38 t714 t715 _ _ t716 ((rd_Item t716 x6_5).f1) t736 t737 t738 t739 t740 t741 _ ?side1 ?side2 A45.out).mono ?_
                  (case side1 => repeat (first | exact (Kd.R_reads' HO_721002.out).2.2 | (with_reducible refine Kd.C_alloc ?_ _) | (with_reducible refine Kd.C_drewN ?_ _) | (with_reducible refine Kd.C_drew ?_)))
                  (case side2 => exact (Kd.R_reads' HO_721002.out).2.1)
                  rintro e w50 ⟨rfl, hb⟩
                  have HS3_ := (hb.cell (World.block_lt_of_cell? _ _ (hHeld.2.2.2.1))).trans (hHeld.2.2.2.1)
                  have HS4_ := (hb.cell (World.block_lt_of_cell? _ _ (hHeld.2.2.2.2.1))).trans (hHeld.2.2.2.2.1)
                  have HS5_ := (hb.cell (World.block_lt_of_cell? _ _ (hHeld.2.2.2.2.2.1))).trans (hHeld.2.2.2.2.2.1)
                  have HS6_ := (hb.cell (World.block_lt_of_cell? _ _ (hHeld.2.2.2.2.2.2.1))).trans (hHeld.2.2.2.2.2.2.1)
                  have HS7_ := (hb.cell (World.block_lt_of_cell? _ _ (hHeld.2.2.2.2.2.2.2))).trans (hHeld.2.2.2.2.2.2.2)
                  refine ⟨_, rfl, ?_⟩
                  have n0_ := Aside0.mk (Kd.R_below (rq_ HO_721002.out) hb)
                  have n1_ := Aside0.mk (Kd.R_below (rq_ HO_727002.out) hb)
                  have n2_ := Aside0.mk (bb_ BK720.out hb)
                  have n3_ := Aside0.mk (bb_ BK726.out hb)
                  have n4_ := Aside0.mk (bb_ BK742.out hb)
                  have n5_ := Aside0.mk (below_step (hb_ HB.out) hb)
                  clear HO_721002; clear HO_727002
                  clear BK720; clear BK726
                  clear BK742; clear HB
                  have HO_721002 := n0_
                  have HO_727002 := n1_
                  have BK720 := n2_
                  have BK726 := n3_
                  have BK742 := n4_
                  have HB := n5_
                  clear n0_ n1_ n2_ n3_ n4_ n5_
                  (try clear hb)
                  (try clear hb2)
                  (try clear hk)
                  (try clear hi)
                  refine hK.out _ _ ⟨bc_ BK720 0, bc_ BK720 1, bc_ BK720 2, HS3_, HS4_, HS5_, HS6_, HS7_⟩ (fun hHeld => ?_)
                  clear hK K
                  refine nm_ ?_
                  refine pI_ 8 47 HT_ laws_FnPacked.m15 rfl rfl ?_
                  refine pI_ 9 56 HT_ laws_FnPacked.m16 rfl rfl ?_
                  refine pI_ 10 57 HT_ laws_FnPacked.m8 rfl rfl ?_
                  exact norm_ (qh4_) (hCont (gb742) _ ⟨hHeld, (rq_ HO_721002.out), (rq_ HO_727002.out), (bq_ BK720.out), (bq_ BK726.out), (bq_ BK742.out), GW742.out, GE742.out, NB720_742.out, NB742_720.out, NB726_742.out, NB742_726.out, (hb_ HB.out)⟩)
                rintro gb742 w51 ⟨hS_, h0_, h1_, h2_, h3_, h4_, h5_, h6_, h7_, h8_, h9_, h10_, h11_⟩
                have n0_ : Aside0 (Kd.R k_Item 55 w51 w.heap.size (fun k_ => some k_ ≠ (.slice Ao18 t723.length co18 : Value).ownBlock ∧ k_ ≠ gb742) (.slice (some ad735) t716.length co13) t716) := ⟨h0_⟩
                have n1_ : Aside0 (Kd.R k_Item 55 w51 w.heap.size (fun k_ => some k_ ≠ (.slice (some ad735) t716.length co13 : Value).ownBlock ∧ k_ ≠ gb742) (.slice Ao18 t723.length co18) t723) := ⟨h1_⟩
                have n2_ : Aside0 (w51.heap[gb720]? = some (.cells #[.int .i64 t714, .int .i64 t715, .slice (some ad735) t716.length co13] 48 (0, 0))) := ⟨h2_⟩
                have n3_ : Aside0 (w51.heap[gb726]? = some (.cells #[.int .i64 t721, .int .i64 t722, .slice Ao18 t723.length co18] 48 (0, 0))) := ⟨h3_⟩
                have n4_ : Aside0 (w51.heap[gb742]? = some (.cells #[.int .i64 0, .string (⟨#[]⟩ : ByteArray), .string (⟨#[]⟩ : ByteArray), .int .i64 0, .int .i64 0] 55 (0, 0))) := ⟨h4_⟩
                have n5_ : Aside0 (w.heap.size ≤ gb742) := ⟨h5_⟩
                have n6_ : Aside0 (w.heap.size ≤ gb742) := ⟨h6_⟩
                have n7_ : Aside0 (gb720 ≠ gb742) := ⟨h7_⟩
                have n8_ : Aside0 (gb742 ≠ gb720) := ⟨h8_⟩
                have n9_ : Aside0 (gb726 ≠ gb742) := ⟨h9_⟩
                have n10_ : Aside0 (gb742 ≠ gb726) := ⟨h10_⟩
                have n11_ : Aside0 (Below w.heap.size w w51) := ⟨h11_⟩
                clear HO_721002; clear HO_727002
                clear BK720; clear BK726
                clear HB; clear h0_ h1_ h2_ h3_ h4_ h5_ h6_ h7_ h8_ h9_ h10_ h11_
                have HO_721002 := n0_
                have HO_727002 := n1_
                have BK720 := n2_
                have BK726 := n3_
                have BK742 := n4_
                have GW742 := n5_
                have GE742 := n6_
                have NB720_742 := n7_
                have NB742_720 := n8_
                have NB726_742 := n9_
                have NB742_726 := n10_
                have HB := n11_
                clear n0_ n1_ n2_ n3_ n4_ n5_ n6_ n7_ n8_ n9_ n10_ n11_
                have hHeld : w51.cell? ⟨gb720, 0, none⟩ = some (.int .i64 t714) ∧ w51.cell? ⟨gb720, 1, none⟩ = some (.int .i64 t715) ∧ w51.cell? ⟨gb720, 2, none⟩ = some (.slice (some ad735) t716.length co13) ∧ w51.cell? (ad735.add ((x6_5).toNat * 5)) = some (.int .i64 ((rd_Item t716 x6_5).f0)) ∧ w51.cell? ⟨(ad735.add ((x6_5).toNat * 5)).block, (ad735.add ((x6_5).toNat * 5)).off + 1, none⟩ = some (.string ((rd_Item t716 x6_5).f1)) ∧ w51.cell? ⟨(ad735.add ((x6_5).toNat * 5)).block, (ad735.add ((x6_5).toNat * 5)).off + 2, none⟩ = some (.string ((rd_Item t716 x6_5).f2)) ∧ w51.cell? ⟨(ad735.add ((x6_5).toNat * 5)).block, (ad735.add ((x6_5).toNat * 5)).off + 3, none⟩ = some (.int .i64 ((rd_Item t716 x6_5).f3)) ∧ w51.cell? ⟨(ad735.add ((x6_5).toNat * 5)).block, (ad735.add ((x6_5).toNat * 5)).off + 4, none⟩ = some (.int .i64 ((rd_Item t716 x6_5).f4)) := hS_
                refine norm_ (a' := ?_) ?_ ?_
                rotate_left; (focus simp only [putAll, Act.put, List.setIfInBounds_toArray, List.set_cons_zero, List.set_cons_succ]; rfl)
                refine one_ (i := 12) (N := none) laws_FnPacked.m17 rfl rfl (one_of HT_.out (by kernel_rfl)) (by decide) (fun K hK => ?_)
                have hs52 : w51.cell? ⟨gb742, 0, none⟩ = some (.int .i64 0) := bc_ BK742 0
                have hfs52 := blk_frozen BK742.out 0
                have hns52_0 := NB720_742.out
                have hns52_1 := NB726_742.out
                have hms52_0 := NB742_720.out
                have hms52_1 := NB742_726.out
                have hs53 : w51.cell? ⟨gb742, 1, none⟩ = some (.string (⟨#[]⟩ : ByteArray)) := bc_ BK742 1
                have hfs53 := blk_frozen BK742.out 1
                have hns53_0 := NB720_742.out
                have hns53_1 := NB726_742.out
                have hms53_0 := NB742_720.out
                have hms53_1 := NB742_726.out
                have hs54 : w51.cell? ⟨gb742, 2, none⟩ = some (.string (⟨#[]⟩ : ByteArray)) := bc_ BK742 2
                have hfs54 := blk_frozen BK742.out 2
                have hns54_0 := NB720_742.out
                have hns54_1 := NB726_742.out
                have hms54_0 := NB742_720.out
                have hms54_1 := NB742_726.out
                have hs55 : w51.cell? ⟨gb742, 3, none⟩ = some (.int .i64 0) := bc_ BK742 3
                have hfs55 := blk_frozen BK742.out 3
                have hns55_0 := NB720_742.out
                have hns55_1 := NB726_742.out
                have hms55_0 := NB742_720.out
                have hms55_1 := NB742_726.out
                have hs56 : w51.cell? ⟨gb742, 4, none⟩ = some (.int .i64 0) := bc_ BK742 4
                have hfs56 := blk_frozen BK742.out 4
                have hns56_0 := NB720_742.out
                have hns56_1 := NB726_742.out
                have hms56_0 := NB742_720.out
                have hms56_1 := NB742_726.out
                refine skip_ (w1 := ?_) (by rfl) rfl ?_ ?_
                rotate_left; (focus go_simp; rfl)
                refine hK.out _ _ ⟨(cfs_ NB720_742.out (hHeld.1)), (cfs_ NB720_742.out (hHeld.2.1)), (cfs_ NB720_742.out (hHeld.2.2.1)), (qfrqh0_ (hHeld.2.2.2.1)), (qfrqh0_ (hHeld.2.2.2.2.1)), (qfrqh0_ (hHeld.2.2.2.2.2.1)), (qfrqh0_ (hHeld.2.2.2.2.2.2.1)), (qfrqh0_ (hHeld.2.2.2.2.2.2.2))⟩ (fun hHeld => ?_)
                clear hK K
                refine pI_ 13 8 HT_ laws_FnPacked.m18 rfl rfl ?_
                refine done_ (done_of HT_.out (by kernel_rfl)) ?_
                try go_wp2
                have n0_ : Aside0 (Kd.R k_Item 55 (((((w51.setCell ⟨gb742, 0, none⟩ (.int .i64 t736)).setCell ⟨gb742, 1, none⟩ (.string t737)).setCell ⟨gb742, 2, none⟩ (.string t738)).setCell ⟨gb742, 3, none⟩ (.int .i64 t739)).setCell ⟨gb742, 4, none⟩ (.int .i64 t740)) w.heap.size (fun k_ => some k_ ≠ (.slice Ao18 t723.length co18 : Value).ownBlock ∧ k_ ≠ gb742) (.slice (some ad735) t716.length co13) t716) := ⟨by (with_reducible repeat (first | apply Kd.R_alloc | apply Kd.R_drewN | apply Kd.R_drew)); exact Kd.R_mono (Kd.R_far (p := ⟨gb742, 4, none⟩) (Kd.R_far (p := ⟨gb742, 3, none⟩) (Kd.R_far (p := ⟨gb742, 2, none⟩) (Kd.R_far (p := ⟨gb742, 1, none⟩) (Kd.R_far (p := ⟨gb742, 0, none⟩) (Kd.R_mono HO_721002.out (fun k_ hk => (⟨hk, hk.2⟩ : _ ∧ k_ ≠ gb742))) (fun _ hk => hk.2) (.int .i64 t736)) (fun _ hk => hk.2) (.string t737)) (fun _ hk => hk.2) (.string t738)) (fun _ hk => hk.2) (.int .i64 t739)) (fun _ hk => hk.2) (.int .i64 t740)) (fun _ hk => ⟨hk.1.1, hk.1.2⟩)⟩
                have n1_ : Aside0 (Kd.R k_Item 55 (((((w51.setCell ⟨gb742, 0, none⟩ (.int .i64 t736)).setCell ⟨gb742, 1, none⟩ (.string t737)).setCell ⟨gb742, 2, none⟩ (.string t738)).setCell ⟨gb742, 3, none⟩ (.int .i64 t739)).setCell ⟨gb742, 4, none⟩ (.int .i64 t740)) w.heap.size (fun k_ => some k_ ≠ (.slice (some ad735) t716.length co13 : Value).ownBlock ∧ k_ ≠ gb742) (.slice Ao18 t723.length co18) t723) := ⟨by (with_reducible repeat (first | apply Kd.R_alloc | apply Kd.R_drewN | apply Kd.R_drew)); exact Kd.R_mono (Kd.R_far (p := ⟨gb742, 4, none⟩) (Kd.R_far (p := ⟨gb742, 3, none⟩) (Kd.R_far (p := ⟨gb742, 2, none⟩) (Kd.R_far (p := ⟨gb742, 1, none⟩) (Kd.R_far (p := ⟨gb742, 0, none⟩) (Kd.R_mono HO_727002.out (fun k_ hk => (⟨hk, hk.2⟩ : _ ∧ k_ ≠ gb742))) (fun _ hk => hk.2) (.int .i64 t736)) (fun _ hk => hk.2) (.string t737)) (fun _ hk => hk.2) (.string t738)) (fun _ hk => hk.2) (.int .i64 t739)) (fun _ hk => hk.2) (.int .i64 t740)) (fun _ hk => ⟨hk.1.1, hk.1.2⟩)⟩
                have n2_ : Aside0 ((((((w51.setCell ⟨gb742, 0, none⟩ (.int .i64 t736)).setCell ⟨gb742, 1, none⟩ (.string t737)).setCell ⟨gb742, 2, none⟩ (.string t738)).setCell ⟨gb742, 3, none⟩ (.int .i64 t739)).setCell ⟨gb742, 4, none⟩ (.int .i64 t740)).heap[gb720]? = some (.cells #[.int .i64 t714, .int .i64 t715, .slice (some ad735) t716.length co13] 48 (0, 0))) := ⟨bf_ NB720_742.out BK720.out⟩
                have n3_ : Aside0 ((((((w51.setCell ⟨gb742, 0, none⟩ (.int .i64 t736)).setCell ⟨gb742, 1, none⟩ (.string t737)).setCell ⟨gb742, 2, none⟩ (.string t738)).setCell ⟨gb742, 3, none⟩ (.int .i64 t739)).setCell ⟨gb742, 4, none⟩ (.int .i64 t740)).heap[gb726]? = some (.cells #[.int .i64 t721, .int .i64 t722, .slice Ao18 t723.length co18] 48 (0, 0))) := ⟨bf_ NB726_742.out BK726.out⟩
                have n4_ : Aside0 ((((((w51.setCell ⟨gb742, 0, none⟩ (.int .i64 t736)).setCell ⟨gb742, 1, none⟩ (.string t737)).setCell ⟨gb742, 2, none⟩ (.string t738)).setCell ⟨gb742, 3, none⟩ (.int .i64 t739)).setCell ⟨gb742, 4, none⟩ (.int .i64 t740)).heap[gb742]? = some (.cells #[.int .i64 t736, .string t737, .string t738, .int .i64 t739, .int .i64 t740] 55 (0, 0))) := ⟨bp_ BK742.out⟩
                have n5_ : Aside0 (Below w.heap.size w (((((w51.setCell ⟨gb742, 0, none⟩ (.int .i64 t736)).setCell ⟨gb742, 1, none⟩ (.string t737)).setCell ⟨gb742, 2, none⟩ (.string t738)).setCell ⟨gb742, 3, none⟩ (.int .i64 t739)).setCell ⟨gb742, 4, none⟩ (.int .i64 t740))) := ⟨hb_ HB.out⟩
                (try clear HO_721002)
                (try clear HO_727002)
                (try clear BK720)
                (try clear BK726)
                (try clear BK742)
                (try clear HB)
                generalize (((((w51.setCell ⟨gb742, 0, none⟩ (.int .i64 t736)).setCell ⟨gb742, 1, none⟩ (.string t737)).setCell ⟨gb742, 2, none⟩ (.string t738)).setCell ⟨gb742, 3, none⟩ (.int .i64 t739)).setCell ⟨gb742, 4, none⟩ (.int .i64 t740)) = w57 at n0_ n1_ n2_ n3_ n4_ n5_ ⊢
                have HO_721002 := n0_
                have HO_727002 := n1_
                have BK720 := n2_
                have BK726 := n3_
                have BK742 := n4_
                have HB := n5_
                clear n0_ n1_ n2_ n3_ n4_ n5_
                have n0_ := Aside0.mk (Kd.R_drew HO_721002.out)
                have n1_ := Aside0.mk (Kd.R_drew HO_727002.out)
                have n2_ := Aside0.mk (blk_drew BK720.out)
                have n3_ := Aside0.mk (blk_drew BK726.out)
                have n4_ := Aside0.mk (blk_drew BK742.out)
                have n5_ := Aside0.mk (below_drew1 HB.out)
                clear HO_721002; clear HO_727002
                clear BK720; clear BK726
                clear BK742; clear HB
                have HO_721002 := n0_
                have HO_727002 := n1_
                have BK720 := n2_
                have BK726 := n3_
                have BK742 := n4_
                have HB := n5_
                clear n0_ n1_ n2_ n3_ n4_ n5_
                have p743 : 0 ≤ (x6_5 : Int) := of_decide_eq_true dt_
                have q743 : x6_5 < (t716.length : Int) := of_decide_eq_true dt_
                obtain ⟨ad743, e743, hx743_0, hx743_1, hx743_2, hx743_3, hx743_4⟩ := at_Item (Kd.R_reads' HO_721002.out).2.2 x6_5 p743 q743
                obtain rfl : ad735 = ad743 := (by injection e743)
                replace p743 := eq_true p743
                replace q743 := eq_true q743
                refine start_ (n := 14) (S := fun w' => w'.cell? ⟨gb726, 0, none⟩ = some (.int .i64 t721) ∧ w'.cell? ⟨gb726, 1, none⟩ = some (.int .i64 t722) ∧ w'.cell? ⟨gb726, 2, none⟩ = some (.slice Ao18 t723.length co18) ∧ w'.cell? ⟨gb720, 0, none⟩ = some (.int .i64 t714) ∧ w'.cell? ⟨gb720, 1, none⟩ = some (.int .i64 t715) ∧ w'.cell? ⟨gb720, 2, none⟩ = some (.slice (some ad735) t716.length co13) ∧ w'.cell? (ad735.add ((x6_5).toNat * 5)) = some (.int .i64 ((rd_Item t716 x6_5).f0)) ∧ w'.cell? ⟨(ad735.add ((x6_5).toNat * 5)).block, (ad735.add ((x6_5).toNat * 5)).off + 1, none⟩ = some (.string ((rd_Item t716 x6_5).f1)) ∧ w'.cell? ⟨(ad735.add ((x6_5).toNat * 5)).block, (ad735.add ((x6_5).toNat * 5)).off + 2, none⟩ = some (.string ((rd_Item t716 x6_5).f2)) ∧ w'.cell? ⟨(ad735.add ((x6_5).toNat * 5)).block, (ad735.add ((x6_5).toNat * 5)).off + 3, none⟩ = some (.int .i64 ((rd_Item t716 x6_5).f3)) ∧ w'.cell? ⟨(ad735.add ((x6_5).toNat * 5)).block, (ad735.add ((x6_5).toNat * 5)).off + 4, none⟩ = some (.int .i64 ((rd_Item t716 x6_5).f4))) (ds := []) laws_FnPacked.m0 (by kernel_rfl) rfl rfl ⟨bc_ BK726 0, bc_ BK726 1, bc_ BK726 2, bc_ BK720 0, bc_ BK720 1, bc_ BK720 2, hx743_0, hx743_1, hx743_2, hx743_3, hx743_4⟩ (fun hHeld => ?_); refine with_tabW laws_FnPacked.tab13 laws_FnPacked.bits13 (fun HT_ HW_ => ?_)
                generalize w57.drew = w58 at HO_721002 HO_727002 BK720 BK726 BK742 HB hx743_0 hx743_1 hx743_2 hx743_3 hx743_4 hHeld ⊢
                refine pI_ 1 60 HT_ laws_FnPacked.m1 rfl rfl ?_
                refine pI_ 3 62 HT_ laws_FnPacked.m2 rfl rfl ?_
                refine tk_ 0 59 HT_ HW_ laws_FnPacked.m3 rfl rfl hHeld ?_
                refine tk_ 2 61 HT_ HW_ laws_FnPacked.m4 rfl rfl hHeld ?_
                refine pI_ 4 63 HT_ laws_FnPacked.m5 rfl rfl ?_
                refine pI_ 5 64 HT_ laws_FnPacked.m6 rfl rfl ?_
                refine tk_ 6 65 HT_ HW_ laws_FnPacked.m7 rfl rfl hHeld ?_
                refine join_ (σ := Nat) 2 laws_FnPacked.m8 (fun s_ => [(66, .tuple #[.agg #[.int .i64 t744, .string t745, .string t746, .int .i64 t747, .int .i64 t748], .bool t749]), (9, .pointer (some ⟨s_, 0, none⟩)), (58, .tuple #[.agg #[.int .i64 t744, .string t745, .string t746, .int .i64 t747, .int .i64 t748], .bool t749]), (67, .agg #[.int .i64 t744, .string t745, .string t746, .int .i64 t747, .int .i64 t748]), (68, .bool t749)]) (fun s_ w' => (w'.cell? ⟨gb726, 0, none⟩ = some (.int .i64 t721) ∧ w'.cell? ⟨gb726, 1, none⟩ = some (.int .i64 t722) ∧ w'.cell? ⟨gb726, 2, none⟩ = some (.slice Ao18 t723.length co18) ∧ w'.cell? ⟨gb720, 0, none⟩ = some (.int .i64 t714) ∧ w'.cell? ⟨gb720, 1, none⟩ = some (.int .i64 t715) ∧ w'.cell? ⟨gb720, 2, none⟩ = some (.slice (some ad735) t716.length co13) ∧ w'.cell? (ad735.add ((x6_5).toNat * 5)) = some (.int .i64 ((rd_Item t716 x6_5).f0)) ∧ w'.cell? ⟨(ad735.add ((x6_5).toNat * 5)).block, (ad735.add ((x6_5).toNat * 5)).off + 1, none⟩ = some (.string ((rd_Item t716 x6_5).f1)) ∧ w'.cell? ⟨(ad735.add ((x6_5).toNat * 5)).block, (ad735.add ((x6_5).toNat * 5)).off + 2, none⟩ = some (.string ((rd_Item t716 x6_5).f2)) ∧ w'.cell? ⟨(ad735.add ((x6_5).toNat * 5)).block, (ad735.add ((x6_5).toNat * 5)).off + 3, none⟩ = some (.int .i64 ((rd_Item t716 x6_5).f3)) ∧ w'.cell? ⟨(ad735.add ((x6_5).toNat * 5)).block, (ad735.add ((x6_5).toNat * 5)).off + 4, none⟩ = some (.int .i64 ((rd_Item t716 x6_5).f4))) ∧ (Kd.R k_Item 55 w' w.heap.size (fun k_ => some k_ ≠ (.slice Ao18 t723.length co18 : Value).ownBlock ∧ k_ ≠ gb742 ∧ k_ ≠ s_) (.slice (some ad735) t716.length co13) t716) ∧ (Kd.R k_Item 55 w' w.heap.size (fun k_ => some k_ ≠ (.slice (some ad735) t716.length co13 : Value).ownBlock ∧ k_ ≠ gb742 ∧ k_ ≠ s_) (.slice Ao18 t723.length co18) t723) ∧ (w'.heap[gb720]? = some (.cells #[.int .i64 t714, .int .i64 t715, .slice (some ad735) t716.length co13] 48 (0, 0))) ∧ (w'.heap[gb726]? = some (.cells #[.int .i64 t721, .int .i64 t722, .slice Ao18 t723.length co18] 48 (0, 0))) ∧ (w'.heap[gb742]? = some (.cells #[.int .i64 t736, .string t737, .string t738, .int .i64 t739, .int .i64 t740] 55 (0, 0))) ∧ (w'.heap[s_]? = some (.cells #[.int .i64 0, .string (⟨#[]⟩ : ByteArray), .string (⟨#[]⟩ : ByteArray), .int .i64 0, .int .i64 0] 55 (0, 0))) ∧ (w.heap.size ≤ s_) ∧ (w.heap.size ≤ s_) ∧ (gb720 ≠ s_) ∧ (s_ ≠ gb720) ∧ (gb726 ≠ s_) ∧ (s_ ≠ gb726) ∧ (gb742 ≠ s_) ∧ (s_ ≠ gb742) ∧ (Below w.heap.size w w')) ?_ ?_
                rotate_left
                ·
                 intro hCont
                 refine two_ (i := 7) (j := 11) (Ni := some 66) (Nj := some 9) laws_FnPacked.m9 laws_FnPacked.m10 rfl rfl rfl rfl (two_of HT_.out (by kernel_rfl)) (by decide) (by decide) (fun K hK => ?_) (fun K hK => ?_)
                 ·
                  skip
                  refine goes_ Try.func52 (by kernel_rfl) rfl #[.agg #[.int .i64 t721, .int .i64 t722, .slice Ao18 t723.length co18], .string ((rd_Item t716 x6_5).f1)] (by rfl) rfl rfl sm_ ?_
                  with_reducible refine (impl_Latest.calls kj38 t721 t722 _ _ t723 ((rd_Item t716 x6_5).f1) t744 t745 t746 t747 t748 t749 _ ?side1 ?side2 A46.out).mono ?_
                  (case side1 => repeat (first | exact (Kd.R_reads' HO_727002.out).2.2 | (with_reducible refine Kd.C_alloc ?_ _) | (with_reducible refine Kd.C_drewN ?_ _) | (with_reducible refine Kd.C_drew ?_)))
                  (case side2 => exact (Kd.R_reads' HO_727002.out).2.1)
                  rintro e w59 ⟨rfl, hb⟩
                  have HS6_ := (hb.cell (World.block_lt_of_cell? _ _ (hHeld.2.2.2.2.2.2.1))).trans (hHeld.2.2.2.2.2.2.1)
                  have HS7_ := (hb.cell (World.block_lt_of_cell? _ _ (hHeld.2.2.2.2.2.2.2.1))).trans (hHeld.2.2.2.2.2.2.2.1)
                  have HS8_ := (hb.cell (World.block_lt_of_cell? _ _ (hHeld.2.2.2.2.2.2.2.2.1))).trans (hHeld.2.2.2.2.2.2.2.2.1)
                  have HS9_ := (hb.cell (World.block_lt_of_cell? _ _ (hHeld.2.2.2.2.2.2.2.2.2.1))).trans (hHeld.2.2.2.2.2.2.2.2.2.1)
                  have HS10_ := (hb.cell (World.block_lt_of_cell? _ _ (hHeld.2.2.2.2.2.2.2.2.2.2))).trans (hHeld.2.2.2.2.2.2.2.2.2.2)
                  refine ⟨_, rfl, ?_⟩
                  have n0_ := Aside0.mk (Kd.R_below (rq_ HO_721002.out) hb)
                  have n1_ := Aside0.mk (Kd.R_below (rq_ HO_727002.out) hb)
                  have n2_ := Aside0.mk (bb_ BK720.out hb)
                  have n3_ := Aside0.mk (bb_ BK726.out hb)
                  have n4_ := Aside0.mk (bb_ BK742.out hb)
                  have n5_ := Aside0.mk (below_step (hb_ HB.out) hb)
                  clear HO_721002; clear HO_727002
                  clear BK720; clear BK726
                  clear BK742; clear HB
                  have HO_721002 := n0_
                  have HO_727002 := n1_
                  have BK720 := n2_
                  have BK726 := n3_
                  have BK742 := n4_
                  have HB := n5_
                  clear n0_ n1_ n2_ n3_ n4_ n5_
                  (try clear hb)
                  (try clear hb2)
                  (try clear hk)
                  (try clear hi)
                  refine hK.out _ _ ⟨bc_ BK726 0, bc_ BK726 1, bc_ BK726 2, bc_ BK720 0, bc_ BK720 1, bc_ BK720 2, HS6_, HS7_, HS8_, HS9_, HS10_⟩ (fun hHeld => ?_)
                  clear hK K
                  refine nm_ ?_
                  refine pI_ 8 58 HT_ laws_FnPacked.m11 rfl rfl ?_
                  refine pI_ 9 67 HT_ laws_FnPacked.m12 rfl rfl ?_
                  refine pI_ 10 68 HT_ laws_FnPacked.m13 rfl rfl ?_
                  refine on_ 11 9 HT_ laws_FnPacked.m8 rfl rfl (fun K hK => ?_)
                  refine box_step ?hg (N := 9) ?hd (cs := #[.int .i64 0, .string (⟨#[]⟩ : ByteArray), .string (⟨#[]⟩ : ByteArray), .int .i64 0, .int .i64 0]) (t := 55) ?hr ?_; (case hd => rfl); (case hg => rfl); (case hr => first | (go_simp; done) | (go_simp; rfl))
                  intro gb750 hg w60 hbox hb
                  have HS6_ := (hb.cell (World.block_lt_of_cell? _ _ (hHeld.2.2.2.2.2.2.1))).trans (hHeld.2.2.2.2.2.2.1)
                  have HS7_ := (hb.cell (World.block_lt_of_cell? _ _ (hHeld.2.2.2.2.2.2.2.1))).trans (hHeld.2.2.2.2.2.2.2.1)
                  have HS8_ := (hb.cell (World.block_lt_of_cell? _ _ (hHeld.2.2.2.2.2.2.2.2.1))).trans (hHeld.2.2.2.2.2.2.2.2.1)
                  have HS9_ := (hb.cell (World.block_lt_of_cell? _ _ (hHeld.2.2.2.2.2.2.2.2.2.1))).trans (hHeld.2.2.2.2.2.2.2.2.2.1)
                  have HS10_ := (hb.cell (World.block_lt_of_cell? _ _ (hHeld.2.2.2.2.2.2.2.2.2.2))).trans (hHeld.2.2.2.2.2.2.2.2.2.2)
                  have n0_ := Aside0.mk (Kd.R_below (Kd.R_elderB (rq_ HO_721002.out) gb750 (Nat.le_of_eq hg.symm)) hb)
                  have n1_ := Aside0.mk (Kd.R_below (Kd.R_elderB (rq_ HO_727002.out) gb750 (Nat.le_of_eq hg.symm)) hb)
                  have n2_ := Aside0.mk (bb_ BK720.out hb)
                  have n3_ := Aside0.mk (bb_ BK726.out hb)
                  have n4_ := Aside0.mk (bb_ BK742.out hb)
                  have n5_ := Aside0.mk (below_step (hb_ HB.out) hb)
                  have n6_ := Aside0.mk (hbox)
                  have n7_ := Aside0.mk ((by rw [hg]; exact (below_size (hb_ HB.out)) : w.heap.size ≤ gb750))
                  have n8_ := Aside0.mk ((by rw [hg]; exact (below_size (hb_ HB.out)) : w.heap.size ≤ gb750))
                  have n9_ := Aside0.mk ((nl_ BK720.out hg : gb720 ≠ gb750))
                  have n10_ := Aside0.mk ((ng_ BK720.out hg : gb750 ≠ gb720))
                  have n11_ := Aside0.mk ((nl_ BK726.out hg : gb726 ≠ gb750))
                  have n12_ := Aside0.mk ((ng_ BK726.out hg : gb750 ≠ gb726))
                  have n13_ := Aside0.mk ((nl_ BK742.out hg : gb742 ≠ gb750))
                  have n14_ := Aside0.mk ((ng_ BK742.out hg : gb750 ≠ gb742))
                  clear HO_721002; clear HO_727002
                  clear BK720; clear BK726
                  clear BK742; clear HB
                  have HO_721002 := n0_
                  have HO_727002 := n1_
                  have BK720 := n2_
                  have BK726 := n3_
                  have BK742 := n4_
                  have HB := n5_
                  have BK750 := n6_
                  have GW750 := n7_
                  have GE750 := n8_
                  have NB720_750 := n9_
                  have NB750_720 := n10_
                  have NB726_750 := n11_
                  have NB750_726 := n12_
                  have NB742_750 := n13_
                  have NB750_742 := n14_
                  clear n0_ n1_ n2_ n3_ n4_ n5_ n6_ n7_ n8_ n9_ n10_ n11_ n12_ n13_ n14_; clear hb hbox hg
                  refine hK.out _ _ ⟨bc_ BK726 0, bc_ BK726 1, bc_ BK726 2, bc_ BK720 0, bc_ BK720 1, bc_ BK720 2, HS6_, HS7_, HS8_, HS9_, HS10_⟩ (fun hHeld => ?_)
                  clear hK K
                  refine nm_ ?_
                  exact norm_ (qh4_) (hCont (gb750) _ ⟨hHeld, (rm_ HO_721002.out), (rm_ HO_727002.out), (bq_ BK720.out), (bq_ BK726.out), (bq_ BK742.out), (bq_ BK750.out), GW750.out, GE750.out, NB720_750.out, NB750_720.out, NB726_750.out, NB750_726.out, NB742_750.out, NB750_742.out, (hb_ HB.out)⟩)
                 ·
                  skip
                  refine box_step ?hg (N := 9) ?hd (cs := #[.int .i64 0, .string (⟨#[]⟩ : ByteArray), .string (⟨#[]⟩ : ByteArray), .int .i64 0, .int .i64 0]) (t := 55) ?hr ?_; (case hd => rfl); (case hg => rfl); (case hr => first | (go_simp; done) | (go_simp; rfl))
                  intro gb750 hg w59 hbox hb
                  have HS6_ := (hb.cell (World.block_lt_of_cell? _ _ (hHeld.2.2.2.2.2.2.1))).trans (hHeld.2.2.2.2.2.2.1)
                  have HS7_ := (hb.cell (World.block_lt_of_cell? _ _ (hHeld.2.2.2.2.2.2.2.1))).trans (hHeld.2.2.2.2.2.2.2.1)
                  have HS8_ := (hb.cell (World.block_lt_of_cell? _ _ (hHeld.2.2.2.2.2.2.2.2.1))).trans (hHeld.2.2.2.2.2.2.2.2.1)
                  have HS9_ := (hb.cell (World.block_lt_of_cell? _ _ (hHeld.2.2.2.2.2.2.2.2.2.1))).trans (hHeld.2.2.2.2.2.2.2.2.2.1)
                  have HS10_ := (hb.cell (World.block_lt_of_cell? _ _ (hHeld.2.2.2.2.2.2.2.2.2.2))).trans (hHeld.2.2.2.2.2.2.2.2.2.2)
                  have n0_ := Aside0.mk (Kd.R_below (Kd.R_elderB (rq_ HO_721002.out) gb750 (Nat.le_of_eq hg.symm)) hb)
                  have n1_ := Aside0.mk (Kd.R_below (Kd.R_elderB (rq_ HO_727002.out) gb750 (Nat.le_of_eq hg.symm)) hb)
                  have n2_ := Aside0.mk (bb_ BK720.out hb)
                  have n3_ := Aside0.mk (bb_ BK726.out hb)
                  have n4_ := Aside0.mk (bb_ BK742.out hb)
                  have n5_ := Aside0.mk (below_step (hb_ HB.out) hb)
                  have n6_ := Aside0.mk (hbox)
                  have n7_ := Aside0.mk ((by rw [hg]; exact (below_size (hb_ HB.out)) : w.heap.size ≤ gb750))
                  have n8_ := Aside0.mk ((by rw [hg]; exact (below_size (hb_ HB.out)) : w.heap.size ≤ gb750))
                  have n9_ := Aside0.mk ((nl_ BK720.out hg : gb720 ≠ gb750))
                  have n10_ := Aside0.mk ((ng_ BK720.out hg : gb750 ≠ gb720))
                  have n11_ := Aside0.mk ((nl_ BK726.out hg : gb726 ≠ gb750))
                  have n12_ := Aside0.mk ((ng_ BK726.out hg : gb750 ≠ gb726))
                  have n13_ := Aside0.mk ((nl_ BK742.out hg : gb742 ≠ gb750))
                  have n14_ := Aside0.mk ((ng_ BK742.out hg : gb750 ≠ gb742))
                  clear HO_721002; clear HO_727002
                  clear BK720; clear BK726
                  clear BK742; clear HB
                  have HO_721002 := n0_
                  have HO_727002 := n1_
                  have BK720 := n2_
                  have BK726 := n3_
                  have BK742 := n4_
                  have HB := n5_
                  have BK750 := n6_
                  have GW750 := n7_
                  have GE750 := n8_
                  have NB720_750 := n9_
                  have NB750_720 := n10_
                  have NB726_750 := n11_
                  have NB750_726 := n12_
                  have NB742_750 := n13_
                  have NB750_742 := n14_
                  clear n0_ n1_ n2_ n3_ n4_ n5_ n6_ n7_ n8_ n9_ n10_ n11_ n12_ n13_ n14_; clear hb hbox hg
                  refine hK.out _ _ ⟨bc_ BK726 0, bc_ BK726 1, bc_ BK726 2, bc_ BK720 0, bc_ BK720 1, bc_ BK720 2, HS6_, HS7_, HS8_, HS9_, HS10_⟩ (fun hHeld => ?_)
                  clear hK K
                  refine nm_ ?_
                  refine on_ 7 66 HT_ laws_FnPacked.m14 rfl rfl (fun K hK => ?_)
                  refine goes_ Try.func52 (by kernel_rfl) rfl #[.agg #[.int .i64 t721, .int .i64 t722, .slice Ao18 t723.length co18], .string ((rd_Item t716 x6_5).f1)] (by rfl) rfl rfl sm_ ?_
                  with_reducible refine (impl_Latest.calls kj38 t721 t722 _ _ t723 ((rd_Item t716 x6_5).f1) t744 t745 t746 t747 t748 t749 _ ?side1 ?side2 A46.out).mono ?_
                  (case side1 => repeat (first | exact (Kd.R_reads' HO_727002.out).2.2 | (with_reducible refine Kd.C_alloc ?_ _) | (with_reducible refine Kd.C_drewN ?_ _) | (with_reducible refine Kd.C_drew ?_)))
                  (case side2 => exact (Kd.R_reads' HO_727002.out).2.1)
                  rintro e w60 ⟨rfl, hb⟩
                  have HS6_ := (hb.cell (World.block_lt_of_cell? _ _ (hHeld.2.2.2.2.2.2.1))).trans (hHeld.2.2.2.2.2.2.1)
                  have HS7_ := (hb.cell (World.block_lt_of_cell? _ _ (hHeld.2.2.2.2.2.2.2.1))).trans (hHeld.2.2.2.2.2.2.2.1)
                  have HS8_ := (hb.cell (World.block_lt_of_cell? _ _ (hHeld.2.2.2.2.2.2.2.2.1))).trans (hHeld.2.2.2.2.2.2.2.2.1)
                  have HS9_ := (hb.cell (World.block_lt_of_cell? _ _ (hHeld.2.2.2.2.2.2.2.2.2.1))).trans (hHeld.2.2.2.2.2.2.2.2.2.1)
                  have HS10_ := (hb.cell (World.block_lt_of_cell? _ _ (hHeld.2.2.2.2.2.2.2.2.2.2))).trans (hHeld.2.2.2.2.2.2.2.2.2.2)
                  refine ⟨_, rfl, ?_⟩
                  have n0_ := Aside0.mk (Kd.R_below (rq_ HO_721002.out) hb)
                  have n1_ := Aside0.mk (Kd.R_below (rq_ HO_727002.out) hb)
                  have n2_ := Aside0.mk (bb_ BK720.out hb)
                  have n3_ := Aside0.mk (bb_ BK726.out hb)
                  have n4_ := Aside0.mk (bb_ BK742.out hb)
                  have n5_ := Aside0.mk (bb_ BK750.out hb)
                  have n6_ := Aside0.mk (below_step (hb_ HB.out) hb)
                  clear HO_721002; clear HO_727002
                  clear BK720; clear BK726
                  clear BK742; clear BK750
                  clear HB
                  have HO_721002 := n0_
                  have HO_727002 := n1_
                  have BK720 := n2_
                  have BK726 := n3_
                  have BK742 := n4_
                  have BK750 := n5_
                  have HB := n6_
                  clear n0_ n1_ n2_ n3_ n4_ n5_ n6_
                  (try clear hb)
                  (try clear hb2)
                  (try clear hk)
                  (try clear hi)
                  refine hK.out _ _ ⟨bc_ BK726 0, bc_ BK726 1, bc_ BK726 2, bc_ BK720 0, bc_ BK720 1, bc_ BK720 2, HS6_, HS7_, HS8_, HS9_, HS10_⟩ (fun hHeld => ?_)
                  clear hK K
                  refine nm_ ?_
                  refine pI_ 8 58 HT_ laws_FnPacked.m15 rfl rfl ?_
                  refine pI_ 9 67 HT_ laws_FnPacked.m16 rfl rfl ?_
                  refine pI_ 10 68 HT_ laws_FnPacked.m8 rfl rfl ?_
                  exact norm_ (qh4_) (hCont (gb750) _ ⟨hHeld, (rm_ HO_721002.out), (rm_ HO_727002.out), (bq_ BK720.out), (bq_ BK726.out), (bq_ BK742.out), (bq_ BK750.out), GW750.out, GE750.out, NB720_750.out, NB750_720.out, NB726_750.out, NB750_726.out, NB742_750.out, NB750_742.out, (hb_ HB.out)⟩)
                rintro gb750 w61 ⟨hS_, h0_, h1_, h2_, h3_, h4_, h5_, h6_, h7_, h8_, h9_, h10_, h11_, h12_, h13_, h14_⟩
                have n0_ : Aside0 (Kd.R k_Item 55 w61 w.heap.size (fun k_ => some k_ ≠ (.slice Ao18 t723.length co18 : Value).ownBlock ∧ k_ ≠ gb742 ∧ k_ ≠ gb750) (.slice (some ad735) t716.length co13) t716) := ⟨h0_⟩
                have n1_ : Aside0 (Kd.R k_Item 55 w61 w.heap.size (fun k_ => some k_ ≠ (.slice (some ad735) t716.length co13 : Value).ownBlock ∧ k_ ≠ gb742 ∧ k_ ≠ gb750) (.slice Ao18 t723.length co18) t723) := ⟨h1_⟩
                have n2_ : Aside0 (w61.heap[gb720]? = some (.cells #[.int .i64 t714, .int .i64 t715, .slice (some ad735) t716.length co13] 48 (0, 0))) := ⟨h2_⟩
                have n3_ : Aside0 (w61.heap[gb726]? = some (.cells #[.int .i64 t721, .int .i64 t722, .slice Ao18 t723.length co18] 48 (0, 0))) := ⟨h3_⟩
                have n4_ : Aside0 (w61.heap[gb742]? = some (.cells #[.int .i64 t736, .string t737, .string t738, .int .i64 t739, .int .i64 t740] 55 (0, 0))) := ⟨h4_⟩
                have n5_ : Aside0 (w61.heap[gb750]? = some (.cells #[.int .i64 0, .string (⟨#[]⟩ : ByteArray), .string (⟨#[]⟩ : ByteArray), .int .i64 0, .int .i64 0] 55 (0, 0))) := ⟨h5_⟩
                have n6_ : Aside0 (w.heap.size ≤ gb750) := ⟨h6_⟩
                have n7_ : Aside0 (w.heap.size ≤ gb750) := ⟨h7_⟩
                have n8_ : Aside0 (gb720 ≠ gb750) := ⟨h8_⟩
                have n9_ : Aside0 (gb750 ≠ gb720) := ⟨h9_⟩
                have n10_ : Aside0 (gb726 ≠ gb750) := ⟨h10_⟩
                have n11_ : Aside0 (gb750 ≠ gb726) := ⟨h11_⟩
                have n12_ : Aside0 (gb742 ≠ gb750) := ⟨h12_⟩
                have n13_ : Aside0 (gb750 ≠ gb742) := ⟨h13_⟩
                have n14_ : Aside0 (Below w.heap.size w w61) := ⟨h14_⟩
                clear HO_721002; clear HO_727002
                clear BK720; clear BK726
                clear BK742; clear HB
                clear h0_ h1_ h2_ h3_ h4_ h5_ h6_ h7_ h8_ h9_ h10_ h11_ h12_ h13_ h14_
                have HO_721002 := n0_
                have HO_727002 := n1_
                have BK720 := n2_
                have BK726 := n3_
                have BK742 := n4_
                have BK750 := n5_
                have GW750 := n6_
                have GE750 := n7_
                have NB720_750 := n8_
                have NB750_720 := n9_
                have NB726_750 := n10_
                have NB750_726 := n11_
                have NB742_750 := n12_
                have NB750_742 := n13_
                have HB := n14_
                clear n0_ n1_ n2_ n3_ n4_ n5_ n6_ n7_ n8_ n9_ n10_ n11_ n12_ n13_ n14_
                have hHeld : w61.cell? ⟨gb726, 0, none⟩ = some (.int .i64 t721) ∧ w61.cell? ⟨gb726, 1, none⟩ = some (.int .i64 t722) ∧ w61.cell? ⟨gb726, 2, none⟩ = some (.slice Ao18 t723.length co18) ∧ w61.cell? ⟨gb720, 0, none⟩ = some (.int .i64 t714) ∧ w61.cell? ⟨gb720, 1, none⟩ = some (.int .i64 t715) ∧ w61.cell? ⟨gb720, 2, none⟩ = some (.slice (some ad735) t716.length co13) ∧ w61.cell? (ad735.add ((x6_5).toNat * 5)) = some (.int .i64 ((rd_Item t716 x6_5).f0)) ∧ w61.cell? ⟨(ad735.add ((x6_5).toNat * 5)).block, (ad735.add ((x6_5).toNat * 5)).off + 1, none⟩ = some (.string ((rd_Item t716 x6_5).f1)) ∧ w61.cell? ⟨(ad735.add ((x6_5).toNat * 5)).block, (ad735.add ((x6_5).toNat * 5)).off + 2, none⟩ = some (.string ((rd_Item t716 x6_5).f2)) ∧ w61.cell? ⟨(ad735.add ((x6_5).toNat * 5)).block, (ad735.add ((x6_5).toNat * 5)).off + 3, none⟩ = some (.int .i64 ((rd_Item t716 x6_5).f3)) ∧ w61.cell? ⟨(ad735.add ((x6_5).toNat * 5)).block, (ad735.add ((x6_5).toNat * 5)).off + 4, none⟩ = some (.int .i64 ((rd_Item t716 x6_5).f4)) := hS_
                refine norm_ (a' := ?_) ?_ ?_
                rotate_left; (focus simp only [putAll, Act.put, List.setIfInBounds_toArray, List.set_cons_zero, List.set_cons_succ]; rfl)
                refine one_ (i := 12) (N := none) laws_FnPacked.m17 rfl rfl (one_of HT_.out (by kernel_rfl)) (by decide) (fun K hK => ?_)
                have hs62 : w61.cell? ⟨gb750, 0, none⟩ = some (.int .i64 0) := bc_ BK750 0
                have hfs62 := blk_frozen BK750.out 0
                have hns62_0 := NB720_750.out
                have hns62_1 := NB726_750.out
                have hns62_2 := NB742_750.out
                have hms62_0 := NB750_720.out
                have hms62_1 := NB750_726.out
                have hms62_2 := NB750_742.out
                have hs63 : w61.cell? ⟨gb750, 1, none⟩ = some (.string (⟨#[]⟩ : ByteArray)) := bc_ BK750 1
                have hfs63 := blk_frozen BK750.out 1
                have hns63_0 := NB720_750.out
                have hns63_1 := NB726_750.out
                have hns63_2 := NB742_750.out
                have hms63_0 := NB750_720.out
                have hms63_1 := NB750_726.out
                have hms63_2 := NB750_742.out
                have hs64 : w61.cell? ⟨gb750, 2, none⟩ = some (.string (⟨#[]⟩ : ByteArray)) := bc_ BK750 2
                have hfs64 := blk_frozen BK750.out 2
                have hns64_0 := NB720_750.out
                have hns64_1 := NB726_750.out
                have hns64_2 := NB742_750.out
                have hms64_0 := NB750_720.out
                have hms64_1 := NB750_726.out
                have hms64_2 := NB750_742.out
                have hs65 : w61.cell? ⟨gb750, 3, none⟩ = some (.int .i64 0) := bc_ BK750 3
                have hfs65 := blk_frozen BK750.out 3
                have hns65_0 := NB720_750.out
                have hns65_1 := NB726_750.out
                have hns65_2 := NB742_750.out
                have hms65_0 := NB750_720.out
                have hms65_1 := NB750_726.out
                have hms65_2 := NB750_742.out
                have hs66 : w61.cell? ⟨gb750, 4, none⟩ = some (.int .i64 0) := bc_ BK750 4
                have hfs66 := blk_frozen BK750.out 4
                have hns66_0 := NB720_750.out
                have hns66_1 := NB726_750.out
                have hns66_2 := NB742_750.out
                have hms66_0 := NB750_720.out
                have hms66_1 := NB750_726.out
                have hms66_2 := NB750_742.out
                refine skip_ (w1 := ?_) (by rfl) rfl ?_ ?_
                rotate_left; (focus go_simp; rfl)
                refine hK.out _ _ ⟨(cfs_ NB726_750.out (hHeld.1)), (cfs_ NB726_750.out (hHeld.2.1)), (cfs_ NB726_750.out (hHeld.2.2.1)), (cfs_ NB720_750.out (hHeld.2.2.2.1)), (cfs_ NB720_750.out (hHeld.2.2.2.2.1)), (cfs_ NB720_750.out (hHeld.2.2.2.2.2.1)), (qfrqh1_ (hHeld.2.2.2.2.2.2.1)), (qfrqh1_ (hHeld.2.2.2.2.2.2.2.1)), (qfrqh1_ (hHeld.2.2.2.2.2.2.2.2.1)), (qfrqh1_ (hHeld.2.2.2.2.2.2.2.2.2.1)), (qfrqh1_ (hHeld.2.2.2.2.2.2.2.2.2.2))⟩ (fun hHeld => ?_)
                clear hK K
                refine pI_ 13 10 HT_ laws_FnPacked.m18 rfl rfl ?_
                refine done_ (done_of HT_.out (by kernel_rfl)) ?_
                go_upto_region 14 with (fail)
                go_cut [76] (fun v76 wc => ∃ (kq : Nat) (x76_46 : Bool), v76 = .bool x76_46 ∧ Aside0 (laws_FnPacked.j6 kq t719 x6_5 x76_46 t714 t715 t716 t721 t722 t723 = some r) ∧ Aside0 (kq ≤ kj38) ∧ Aside0 (Kd.R k_Item 55 wc w.heap.size (fun k_ => some k_ ≠ ((.slice Ao18 t723.length co18) : Value).ownBlock ∧ k_ ≠ gb742 ∧ k_ ≠ gb750) (.slice (some ad735) t716.length co13) t716) ∧ Aside0 (Kd.R k_Item 55 wc w.heap.size (fun k_ => some k_ ≠ ((.slice (some ad735) t716.length co13) : Value).ownBlock ∧ k_ ≠ gb742 ∧ k_ ≠ gb750) (.slice Ao18 t723.length co18) t723) ∧ Aside0 (wc.heap[gb720]? = some (.cells #[.int .i64 t714, .int .i64 t715, (.slice (some ad735) t716.length co13)] 48 (0, 0))) ∧ Aside0 (wc.heap[gb726]? = some (.cells #[.int .i64 t721, .int .i64 t722, (.slice Ao18 t723.length co18)] 48 (0, 0))) ∧ Aside0 (wc.heap[gb742]? = some (.cells #[.int .i64 t736, .string t737, .string t738, .int .i64 t739, .int .i64 t740] 55 (0, 0))) ∧ Aside0 (wc.heap[gb750]? = some (.cells #[.int .i64 t744, .string t745, .string t746, .int .i64 t747, .int .i64 t748] 55 (0, 0))) ∧ Aside0 (Below w.heap.size w wc))
                case first =>
                 have H := HC47.out
                 clear HC47
                 by_cases c67 : (t741 != t749) = true
                 ·
                  rw [if_pos c67] at H
                  have c67b0 : (t741 != t749) = true := c67
                  (try (have c67b1 : decide (t741 = t749) = false := by simpa using c67))
                  (try (have c67b2 : (t741 == t749) = false := by simpa using c67))
                  (try (have c67b3 : ¬ (t741 = t749) := by simpa using c67))
                  (try (have c67b4 : (!(t741 == t749)) = true := (show ∀ a b : Bool, (a != b) = true → (!(a == b)) = true by decide) _ _ c67))
                  clear c67
                  (first | rw [c67b0] | (simp only [i64_w, i32_w]; rw [c67b0]) | rw [c67b4] | rw [c67b3] | skip)
                  have H' := Aside0.mk H
                  clear H
                  go_wp2
                  go_meet
                  case rel => exact ⟨_, (true), (qh5_), H', ⟨qh7_⟩, ⟨qh1_⟩, ⟨qh0_⟩, ⟨bf_ NB720_750.out BK720.out⟩, ⟨bf_ NB726_750.out BK726.out⟩, ⟨bf_ NB742_750.out BK742.out⟩, ⟨bp_ BK750.out⟩, ⟨hb_ HB.out⟩⟩
                 ·
                  rw [if_neg c67] at H
                  have c67b0 : (t741 != t749) = false := by simpa using c67
                  (try (have c67b1 : decide (t741 = t749) = true := by simpa using c67))
                  (try (have c67b2 : (t741 == t749) = true := by simpa using c67))
                  (try (have c67b3 : (!(t741 == t749)) = false := (show ∀ a b : Bool, ¬ (a != b) = true → (!(a == b)) = false by decide) _ _ c67))
                  clear c67
                  (first | rw [c67b0] | (simp only [i64_w, i32_w]; rw [c67b0]) | rw [c67b4] | rw [c67b3] | skip)
                  have H' := Aside0.mk H
                  clear H
                  have hnb68 := NB742_720.out
                  have hnc68 := NB720_742.out
                  have hnb69 := NB742_726.out
                  have hnc69 := NB726_742.out
                  have hnb70 := NB742_750.out
                  have hnc70 := NB750_742.out
                  have hcz71_0 : w61.cell? ⟨gb742, 0, none⟩ = some (.int .i64 t736) := bc_ BK742 0
                  have hcz71_1 : w61.cell? ⟨gb742, 1, none⟩ = some (.string t737) := bc_ BK742 1
                  have hcz71_2 : w61.cell? ⟨gb742, 2, none⟩ = some (.string t738) := bc_ BK742 2
                  have hcz71_3 : w61.cell? ⟨gb742, 3, none⟩ = some (.int .i64 t739) := bc_ BK742 3
                  have hcz71_4 : w61.cell? ⟨gb742, 4, none⟩ = some (.int .i64 t740) := bc_ BK742 4
                  have hfz71_0 := blk_frozen BK742.out 0
                  have hfz71_1 := blk_frozen BK742.out 1
                  have hfz71_2 := blk_frozen BK742.out 2
                  have hfz71_3 := blk_frozen BK742.out 3
                  have hfz71_4 := blk_frozen BK742.out 4
                  have hnb72 := NB750_720.out
                  have hnc72 := NB720_750.out
                  have hnb73 := NB750_726.out
                  have hnc73 := NB726_750.out
                  have hcz74_0 : w61.cell? ⟨gb750, 0, none⟩ = some (.int .i64 0) := bc_ BK750 0
                  have hcz74_1 : w61.cell? ⟨gb750, 1, none⟩ = some (.string (⟨#[]⟩ : ByteArray)) := bc_ BK750 1
                  have hcz74_2 : w61.cell? ⟨gb750, 2, none⟩ = some (.string (⟨#[]⟩ : ByteArray)) := bc_ BK750 2
                  have hcz74_3 : w61.cell? ⟨gb750, 3, none⟩ = some (.int .i64 0) := bc_ BK750 3
                  have hcz74_4 : w61.cell? ⟨gb750, 4, none⟩ = some (.int .i64 0) := bc_ BK750 4
                  have hfz74_0 := blk_frozen BK750.out 0
                  have hfz74_1 := blk_frozen BK750.out 1
                  have hfz74_2 := blk_frozen BK750.out 2
                  have hfz74_3 := blk_frozen BK750.out 3
                  have hfz74_4 := blk_frozen BK750.out 4
                  go_wp2
                  go_meet
                  case rel => exact ⟨_, ((!(t736 == t744) || (!(t737.toList == t745.toList) || (!(t738.toList == t746.toList) || (!(t739 == t747) || (!(t740 == t748))))))), (qh5_), H', ⟨qh7_⟩, ⟨qh1_⟩, ⟨qh0_⟩, ⟨bf_ NB720_750.out BK720.out⟩, ⟨bf_ NB726_750.out BK726.out⟩, ⟨bf_ NB742_750.out BK742.out⟩, ⟨bp_ BK750.out⟩, ⟨hb_ HB.out⟩⟩
                case rest =>
                 clear HC47
                 (try clear p2); (try clear c5); (try clear c6); (try clear c7); (try clear p7); (try clear q7); (try clear hx7); (try clear c52); (try clear c67); (try clear c67b0); (try clear c67b1); (try clear c67b2); (try clear c68); (try clear c69); (try clear c70); (try clear c72); (try clear c73); (try clear p74); (try clear q74); (try clear hx74); (try clear hcz71_0); (try clear hcz71_1); (try clear hcz71_2); (try clear hcz71_3); (try clear hcz71_4); (try clear hcz74_0); (try clear hcz74_1); (try clear hcz74_2); (try clear hcz74_3); (try clear hcz74_4); (try clear hfz71_0); (try clear hfz71_1); (try clear hfz71_2); (try clear hfz71_3); (try clear hfz71_4); (try clear hfz74_0); (try clear hfz74_1); (try clear hfz74_2); (try clear hfz74_3); (try clear hfz74_4); (try clear hx743_0); (try clear hx743_1); (try clear hx743_2); (try clear hx743_3); (try clear hx743_4); (try clear p743); (try clear q743)
                 obtain ⟨kq, x76_46, rfl, HA, HJ46, HO_721002, HO_727002, BK720, BK726, BK742, BK750, HB⟩ := hcut
                 cases kq with
                 | zero => exact absurd HA.out (by simp [laws_FnPacked.j6])
                 | succ kj46 =>
                  have H := HA.out
                  clear HA
                  simp only [laws_FnPacked.j6] at H
                  by_cases c75 : x76_46 = true
                  ·
                   subst c75
                   have H1 : (some false) = some r := by rw [if_pos rfl] at H; exact H
                   clear H
                   have H := H1
                   clear H1
                   obtain rfl := Option.some.inj H
                   go_wp2
                   go_ret
                   exact ⟨er_, hb_ HB.out⟩
                  ·
                   replace c75 := Bool.eq_false_iff.mpr c75
                   subst c75
                   have H1 : (laws_FnPacked.l0 kj46 t719 (wrap64 (x6_5 + 1)) t714 t715 t716 t721 t722 t723) = some r := by rw [if_neg (show ¬ (false = true) by decide)] at H; exact H
                   clear H
                   have H := H1
                   clear H1
                   have H' := Aside0.mk H
                   clear H
                   go_wp2
                   go_roundg kj46
                   case measure => have := HJ2.out; have := HJ8.out; have := HJ24.out; have := HJ30.out; have := HK5.out; have := HJ38.out; have := HJ46.out; omega
                   case rel => exact ⟨(wrap64 (x6_5 + 1)), (qh5_), H', ⟨by have := HJ2.out; have := HJ8.out; have := HJ24.out; have := HJ30.out; have := HK5.out; have := HJ38.out; have := HJ46.out; omega⟩, ⟨rm_ HO_721002.out⟩, ⟨rm_ HO_727002.out⟩, ⟨bq_ BK720.out⟩, ⟨bq_ BK726.out⟩, ⟨hb_ HB.out⟩⟩
               ·
                rw [if_neg c44] at H
                exact absurd H (by simp)
              ·
               rw [if_neg c43] at H
               exact absurd H (by simp)
         case rest =>
          clear HC38
          (try clear p2); (try clear c4); (try clear c5); (try clear c6); (try clear p6); (try clear c7); (try clear p7); (try clear q7); (try clear hx7); (try clear c43); (try clear c44); (try clear c52); (try clear p64); (try clear c67); (try clear c67b0); (try clear c67b1); (try clear c67b2); (try clear c68); (try clear c69); (try clear c70); (try clear c72); (try clear c73); (try clear p74); (try clear q74); (try clear hx74); (try clear c75); (try clear hcz71_0); (try clear hcz71_1); (try clear hcz71_2); (try clear hcz71_3); (try clear hcz71_4); (try clear hcz74_0); (try clear hcz74_1); (try clear hcz74_2); (try clear hcz74_3); (try clear hcz74_4); (try clear hfz71_0); (try clear hfz71_1); (try clear hfz71_2); (try clear hfz71_3); (try clear hfz71_4); (try clear hfz74_0); (try clear hfz74_1); (try clear hfz74_2); (try clear hfz74_3); (try clear hfz74_4); (try clear hx743_0); (try clear hx743_1); (try clear hx743_2); (try clear hx743_3); (try clear hx743_4); (try clear p2); (try clear p7); (try clear p74); (try clear p743); (try clear q7); (try clear q74); (try clear q743)
          obtain ⟨kq, HA, HJ37, HO_721002, HO_727002, BK720, BK726, HB⟩ := hcut
          cases kq with
          | zero => exact absurd HA.out (by simp [laws_FnPacked.j7])
          | succ kj37 =>
           have H := HA.out
           clear HA
           simp only [laws_FnPacked.j7] at H
           have HC76 := Aside0.mk H
           clear H
           go_upto_block 2 with (fail)
           go_cut [] (fun wc => ∃ (kq : Nat), Aside0 (laws_FnPacked.j11 kq t719 t714 t715 t716 t721 t722 t723 = some r) ∧ Aside0 (kq ≤ kj37) ∧ Aside0 (Kd.R k_Item 55 wc w.heap.size (fun k_ => some k_ ≠ ((.slice Ao18 t723.length co18) : Value).ownBlock) (.slice Ao13 t716.length co13) t716) ∧ Aside0 (Kd.R k_Item 55 wc w.heap.size (fun k_ => some k_ ≠ ((.slice Ao13 t716.length co13) : Value).ownBlock) (.slice Ao18 t723.length co18) t723) ∧ Aside0 (wc.heap[gb720]? = some (.cells #[.int .i64 t714, .int .i64 t715, (.slice Ao13 t716.length co13)] 48 (0, 0))) ∧ Aside0 (wc.heap[gb726]? = some (.cells #[.int .i64 t721, .int .i64 t722, (.slice Ao18 t723.length co18)] 48 (0, 0))) ∧ Aside0 (Below w.heap.size w wc))
           case first =>
            have H := HC76.out
            clear HC76
            have H' := Aside0.mk H
            clear H
            go_wp2
            go_loopg [11] kj37 (fun kq v11 w' => ∃ (x11_6 : Int), v11 = .int .i64 x11_6 ∧ Aside0 (laws_FnPacked.l1 kq t719 x11_6 t714 t715 t716 t721 t722 t723 = some r) ∧ Aside0 (kq ≤ kj37) ∧ Aside0 (Kd.R k_Item 55 w' w.heap.size (fun k_ => some k_ ≠ ((.slice Ao18 t723.length co18) : Value).ownBlock) (.slice Ao13 t716.length co13) t716) ∧ Aside0 (Kd.R k_Item 55 w' w.heap.size (fun k_ => some k_ ≠ ((.slice Ao13 t716.length co13) : Value).ownBlock) (.slice Ao18 t723.length co18) t723) ∧ Aside0 (w'.heap[gb720]? = some (.cells #[.int .i64 t714, .int .i64 t715, (.slice Ao13 t716.length co13)] 48 (0, 0))) ∧ Aside0 (w'.heap[gb726]? = some (.cells #[.int .i64 t721, .int .i64 t722, (.slice Ao18 t723.length co18)] 48 (0, 0))) ∧ Aside0 (Below w.heap.size w w'))
            case atStart => exact ⟨(0), (qh5_), H', ⟨Nat.le_refl _⟩, ⟨rq_ HO_721002.out⟩, ⟨rq_ HO_727002.out⟩, ⟨bq_ BK720.out⟩, ⟨bq_ BK726.out⟩, ⟨hb_ HB.out⟩⟩
            case round =>
             clear H'
             (try clear p2); (try clear c4); (try clear c5); (try clear c6); (try clear p6); (try clear c7); (try clear p7); (try clear q7); (try clear hx7); (try clear c43); (try clear c44); (try clear c52); (try clear p64); (try clear c67); (try clear c67b0); (try clear c67b1); (try clear c67b2); (try clear c68); (try clear c69); (try clear c70); (try clear c72); (try clear c73); (try clear p74); (try clear q74); (try clear hx74); (try clear c75); (try clear hcz71_0); (try clear hcz71_1); (try clear hcz71_2); (try clear hcz71_3); (try clear hcz71_4); (try clear hcz74_0); (try clear hcz74_1); (try clear hcz74_2); (try clear hcz74_3); (try clear hcz74_4); (try clear hfz71_0); (try clear hfz71_1); (try clear hfz71_2); (try clear hfz71_3); (try clear hfz71_4); (try clear hfz74_0); (try clear hfz74_1); (try clear hfz74_2); (try clear hfz74_3); (try clear hfz74_4); (try clear hx743_0); (try clear hx743_1); (try clear hx743_2); (try clear hx743_3); (try clear hx743_4); (try clear p2); (try clear p6); (try clear p64); (try clear p7); (try clear p74); (try clear p743); (try clear q7); (try clear q74); (try clear q743)
             obtain ⟨x11_6, rfl, HA, HK6, HO_721002, HO_727002, BK720, BK726, HB⟩ := hrel
             cases gk with
             | zero => exact absurd HA.out (by simp [laws_FnPacked.l1])
             | succ k6 =>
              have H := HA.out
              clear HA
              simp only [laws_FnPacked.l1] at H
              have HC77 := Aside0.mk H
              clear H
              have hnb78 := NB726_720.out
              have hnc78 := NB720_726.out
              have hcz79_0 : wr.cell? ⟨gb726, 0, none⟩ = some (.int .i64 t721) := bc_ BK726 0
              have hcz79_1 : wr.cell? ⟨gb726, 1, none⟩ = some (.int .i64 t722) := bc_ BK726 1
              have hcz79_2 : wr.cell? ⟨gb726, 2, none⟩ = some (.slice Ao18 t723.length co18) := bc_ BK726 2
              have hfz79_0 := blk_frozen BK726.out 0
              have hfz79_1 := blk_frozen BK726.out 1
              have hfz79_2 := blk_frozen BK726.out 2
              go_upto_if 81 with (fail)
              go_cut [] (fun wc => ∃ (kq : Nat), Aside0 (laws_FnPacked.j9 kq t719 x11_6 t714 t715 t716 t721 t722 t723 = some r) ∧ Aside0 (kq ≤ k6) ∧ Aside0 (Kd.R k_Item 55 wc w.heap.size (fun k_ => some k_ ≠ ((.slice Ao18 t723.length co18) : Value).ownBlock) (.slice Ao13 t716.length co13) t716) ∧ Aside0 (Kd.R k_Item 55 wc w.heap.size (fun k_ => some k_ ≠ ((.slice Ao13 t716.length co13) : Value).ownBlock) (.slice Ao18 t723.length co18) t723) ∧ Aside0 (wc.heap[gb720]? = some (.cells #[.int .i64 t714, .int .i64 t715, (.slice Ao13 t716.length co13)] 48 (0, 0))) ∧ Aside0 (wc.heap[gb726]? = some (.cells #[.int .i64 t721, .int .i64 t722, (.slice Ao18 t723.length co18)] 48 (0, 0))) ∧ Aside0 (Below w.heap.size w wc))
              case first =>
               have H := HC77.out
               clear HC77
               by_cases c80 : x11_6 < (t723.length : Int)
               ·
                rw [if_pos c80] at H
                have c80b0 : decide (x11_6 < (t723.length : Int)) = true := decide_eq_true c80
                clear c80
                (first | rw [c80b0] | (simp only [i64_w, i32_w]; rw [c80b0]) | rw [c80b4] | rw [c80b3] | skip)
                have H' := Aside0.mk H
                clear H
                go_wp2
                go_meet
                case rel => exact ⟨_, H', ⟨qh8_⟩, ⟨rq_ HO_721002.out⟩, ⟨rq_ HO_727002.out⟩, ⟨bq_ BK720.out⟩, ⟨bq_ BK726.out⟩, ⟨hb_ HB.out⟩⟩
               ·
                rw [if_neg c80] at H
                have c80b0 : decide (x11_6 < (t723.length : Int)) = false := decide_eq_false c80
                clear c80
                (first | rw [c80b0] | (simp only [i64_w, i32_w]; rw [c80b0]) | rw [c80b4] | rw [c80b3] | skip)
                have H' := Aside0.mk H
                clear H
                go_wp2
                go_meet
                case rel => exact ⟨_, H', ⟨qh8_⟩, ⟨rq_ HO_721002.out⟩, ⟨rq_ HO_727002.out⟩, ⟨bq_ BK720.out⟩, ⟨bq_ BK726.out⟩, ⟨hb_ HB.out⟩⟩
              case rest =>
               clear HC77
               (try clear p2); (try clear c4); (try clear c5); (try clear c6); (try clear p6); (try clear c7); (try clear p7); (try clear q7); (try clear hx7); (try clear c8); (try clear c43); (try clear c44); (try clear c52); (try clear p64); (try clear c67); (try clear c67b0); (try clear c67b1); (try clear c67b2); (try clear c68); (try clear c69); (try clear c70); (try clear c72); (try clear c73); (try clear p74); (try clear q74); (try clear hx74); (try clear c75); (try clear c78); (try clear c80); (try clear c80b0); (try clear hcz71_0); (try clear hcz71_1); (try clear hcz71_2); (try clear hcz71_3); (try clear hcz71_4); (try clear hcz74_0); (try clear hcz74_1); (try clear hcz74_2); (try clear hcz74_3); (try clear hcz74_4); (try clear hcz79_0); (try clear hcz79_1); (try clear hcz79_2); (try clear hfz71_0); (try clear hfz71_1); (try clear hfz71_2); (try clear hfz71_3); (try clear hfz71_4); (try clear hfz74_0); (try clear hfz74_1); (try clear hfz74_2); (try clear hfz74_3); (try clear hfz74_4); (try clear hfz79_0); (try clear hfz79_1); (try clear hfz79_2); (try clear hx743_0); (try clear hx743_1); (try clear hx743_2); (try clear hx743_3); (try clear hx743_4); (try clear p2); (try clear p6); (try clear p64); (try clear p7); (try clear p74); (try clear p743); (try clear q7); (try clear q74); (try clear q743)
               obtain ⟨kq, HA, HJ76, HO_721002, HO_727002, BK720, BK726, HB⟩ := hcut
               cases kq with
               | zero => exact absurd HA.out (by simp [laws_FnPacked.j9])
               | succ kj76 =>
                have H := HA.out
                clear HA
                simp only [laws_FnPacked.j9] at H
                by_cases c81 : 0 ≤ x11_6
                ·
                 rw [if_pos c81] at H
                 have c81b0 : decide (0 ≤ x11_6) = true := decide_eq_true c81
                 clear c81
                 by_cases c82 : x11_6 < (t723.length : Int)
                 ·
                  rw [if_pos c82] at H
                  have c82b0 : decide (x11_6 < (t723.length : Int)) = true := decide_eq_true c82
                  clear c82
                  replace H := Option.bind_eq_some_iff.mp H
                  obtain ⟨⟨t752, t753, t754, t755, t756, t757⟩, A830, H⟩ := H
                  replace H : (if t757 = 0 then (laws_FnPacked.j10 kj76 t719 x11_6 (!(t752 == ((rd_Item t723 x11_6).f0)) || (!(t753.toList == (((rd_Item t723 x11_6).f1).toList)) || (!(t754.toList == (((rd_Item t723 x11_6).f2).toList)) || (!(t755 == ((rd_Item t723 x11_6).f3)) || (!(t756 == ((rd_Item t723 x11_6).f4))))))) t714 t715 t716 t721 t722 t723) else (laws_FnPacked.j10 kj76 t719 x11_6 true t714 t715 t716 t721 t722 t723)) = some r := H
                  have A83 := Aside0.mk A830
                  clear A830
                  have HC84 := Aside0.mk H
                  clear H
                  try go_wp2
                  have n0_ := Aside0.mk (Kd.R_drew HO_721002.out)
                  have n1_ := Aside0.mk (Kd.R_drew HO_727002.out)
                  have n2_ := Aside0.mk (blk_drew BK720.out)
                  have n3_ := Aside0.mk (blk_drew BK726.out)
                  have n4_ := Aside0.mk (below_drew1 HB.out)
                  clear HO_721002; clear HO_727002
                  clear BK720; clear BK726
                  clear HB
                  have HO_721002 := n0_
                  have HO_727002 := n1_
                  have BK720 := n2_
                  have BK726 := n3_
                  have HB := n4_
                  clear n0_ n1_ n2_ n3_ n4_
                  have p751 : 0 ≤ (x11_6 : Int) := of_decide_eq_true dt_
                  have q751 : x11_6 < (t723.length : Int) := of_decide_eq_true dt_
                  obtain ⟨ad751, e751, hx751_0, hx751_1, hx751_2, hx751_3, hx751_4⟩ := at_Item (Kd.R_reads' HO_727002.out).2.2 x11_6 p751 q751
                  cases e751
                  replace p751 := eq_true p751
                  replace q751 := eq_true q751
                  refine start_ (n := 14) (S := fun w' => w'.cell? ⟨gb720, 0, none⟩ = some (.int .i64 t714) ∧ w'.cell? ⟨gb720, 1, none⟩ = some (.int .i64 t715) ∧ w'.cell? ⟨gb720, 2, none⟩ = some (.slice Ao13 t716.length co13) ∧ w'.cell? ⟨gb726, 0, none⟩ = some (.int .i64 t721) ∧ w'.cell? ⟨gb726, 1, none⟩ = some (.int .i64 t722) ∧ w'.cell? ⟨gb726, 2, none⟩ = some (.slice (some ad751) t723.length co18) ∧ w'.cell? (ad751.add ((x11_6).toNat * 5)) = some (.int .i64 ((rd_Item t723 x11_6).f0)) ∧ w'.cell? ⟨(ad751.add ((x11_6).toNat * 5)).block, (ad751.add ((x11_6).toNat * 5)).off + 1, none⟩ = some (.string ((rd_Item t723 x11_6).f1)) ∧ w'.cell? ⟨(ad751.add ((x11_6).toNat * 5)).block, (ad751.add ((x11_6).toNat * 5)).off + 2, none⟩ = some (.string ((rd_Item t723 x11_6).f2)) ∧ w'.cell? ⟨(ad751.add ((x11_6).toNat * 5)).block, (ad751.add ((x11_6).toNat * 5)).off + 3, none⟩ = some (.int .i64 ((rd_Item t723 x11_6).f3)) ∧ w'.cell? ⟨(ad751.add ((x11_6).toNat * 5)).block, (ad751.add ((x11_6).toNat * 5)).off + 4, none⟩ = some (.int .i64 ((rd_Item t723 x11_6).f4))) (ds := []) laws_FnPacked.m0 (by kernel_rfl) rfl rfl ⟨bc_ BK720 0, bc_ BK720 1, bc_ BK720 2, bc_ BK726 0, bc_ BK726 1, bc_ BK726 2, hx751_0, hx751_1, hx751_2, hx751_3, hx751_4⟩ (fun hHeld => ?_); refine with_tabW laws_FnPacked.tab19 laws_FnPacked.bits19 (fun HT_ HW_ => ?_)
                  generalize wc.drew = w85 at HO_721002 HO_727002 BK720 BK726 HB hx751_0 hx751_1 hx751_2 hx751_3 hx751_4 hHeld ⊢
                  refine pI_ 1 86 HT_ laws_FnPacked.m1 rfl rfl ?_
                  refine pI_ 3 88 HT_ laws_FnPacked.m2 rfl rfl ?_
                  refine tk_ 0 85 HT_ HW_ laws_FnPacked.m3 rfl rfl hHeld ?_
                  refine tk_ 2 87 HT_ HW_ laws_FnPacked.m4 rfl rfl hHeld ?_
                  refine pI_ 4 89 HT_ laws_FnPacked.m5 rfl rfl ?_
                  refine pI_ 5 90 HT_ laws_FnPacked.m6 rfl rfl ?_
                  refine tk_ 6 91 HT_ HW_ laws_FnPacked.m7 rfl rfl hHeld ?_
                  refine join_ (σ := Nat) 2 laws_FnPacked.m8 (fun s_ => [(92, .tuple #[.agg #[.int .i64 t752, .string t753, .string t754, .int .i64 t755, .int .i64 t756], .int .i64 t757]), (12, .pointer (some ⟨s_, 0, none⟩)), (84, .tuple #[.agg #[.int .i64 t752, .string t753, .string t754, .int .i64 t755, .int .i64 t756], .int .i64 t757]), (93, .agg #[.int .i64 t752, .string t753, .string t754, .int .i64 t755, .int .i64 t756]), (94, .int .i64 t757)]) (fun s_ w' => (w'.cell? ⟨gb720, 0, none⟩ = some (.int .i64 t714) ∧ w'.cell? ⟨gb720, 1, none⟩ = some (.int .i64 t715) ∧ w'.cell? ⟨gb720, 2, none⟩ = some (.slice Ao13 t716.length co13) ∧ w'.cell? ⟨gb726, 0, none⟩ = some (.int .i64 t721) ∧ w'.cell? ⟨gb726, 1, none⟩ = some (.int .i64 t722) ∧ w'.cell? ⟨gb726, 2, none⟩ = some (.slice (some ad751) t723.length co18) ∧ w'.cell? (ad751.add ((x11_6).toNat * 5)) = some (.int .i64 ((rd_Item t723 x11_6).f0)) ∧ w'.cell? ⟨(ad751.add ((x11_6).toNat * 5)).block, (ad751.add ((x11_6).toNat * 5)).off + 1, none⟩ = some (.string ((rd_Item t723 x11_6).f1)) ∧ w'.cell? ⟨(ad751.add ((x11_6).toNat * 5)).block, (ad751.add ((x11_6).toNat * 5)).off + 2, none⟩ = some (.string ((rd_Item t723 x11_6).f2)) ∧ w'.cell? ⟨(ad751.add ((x11_6).toNat * 5)).block, (ad751.add ((x11_6).toNat * 5)).off + 3, none⟩ = some (.int .i64 ((rd_Item t723 x11_6).f3)) ∧ w'.cell? ⟨(ad751.add ((x11_6).toNat * 5)).block, (ad751.add ((x11_6).toNat * 5)).off + 4, none⟩ = some (.int .i64 ((rd_Item t723 x11_6).f4))) ∧ (Kd.R k_Item 55 w' w.heap.size (fun k_ => some k_ ≠ (.slice (some ad751) t723.length co18 : Value).ownBlock ∧ k_ ≠ s_) (.slice Ao13 t716.length co13) t716) ∧ (Kd.R k_Item 55 w' w.heap.size (fun k_ => some k_ ≠ (.slice Ao13 t716.length co13 : Value).ownBlock ∧ k_ ≠ s_) (.slice (some ad751) t723.length co18) t723) ∧ (w'.heap[gb720]? = some (.cells #[.int .i64 t714, .int .i64 t715, .slice Ao13 t716.length co13] 48 (0, 0))) ∧ (w'.heap[gb726]? = some (.cells #[.int .i64 t721, .int .i64 t722, .slice (some ad751) t723.length co18] 48 (0, 0))) ∧ (w'.heap[s_]? = some (.cells #[.int .i64 0, .string (⟨#[]⟩ : ByteArray), .string (⟨#[]⟩ : ByteArray), .int .i64 0, .int .i64 0] 55 (0, 0))) ∧ (w.heap.size ≤ s_) ∧ (w.heap.size ≤ s_) ∧ (gb720 ≠ s_) ∧ (s_ ≠ gb720) ∧ (gb726 ≠ s_) ∧ (s_ ≠ gb726) ∧ (Below w.heap.size w w')) ?_ ?_
                  rotate_left
                  ·
                   intro hCont
                   refine two_ (i := 7) (j := 11) (Ni := some 92) (Nj := some 12) laws_FnPacked.m9 laws_FnPacked.m10 rfl rfl rfl rfl (two_of HT_.out (by kernel_rfl)) (by decide) (by decide) (fun K hK => ?_) (fun K hK => ?_)
                   ·
                    skip
                    refine goes_ Try.func53 (by kernel_rfl) rfl #[.agg #[.int .i64 t714, .int .i64 t715, .slice Ao13 t716.length co13], .int .i64 ((rd_Item t723 x11_6).f0)] (by rfl) rfl rfl sm_ ?_
                    with_reducible refine (impl_RowGet.calls kj76 t714 t715 _ _ t716 ((rd_Item t723 x11_6).f0) t752 t753 t754 t755 t756 t757 _ ?side1 ?side2 A83.out).mono ?_
                    (case side1 => repeat (first | exact (Kd.R_reads' HO_721002.out).2.2 | (with_reducible refine Kd.C_alloc ?_ _) | (with_reducible refine Kd.C_drewN ?_ _) | (with_reducible refine Kd.C_drew ?_)))
                    (case side2 => exact (Kd.R_reads' HO_721002.out).2.1)
                    rintro e w86 ⟨rfl, hb⟩
                    have HS6_ := (hb.cell (World.block_lt_of_cell? _ _ (hHeld.2.2.2.2.2.2.1))).trans (hHeld.2.2.2.2.2.2.1)
                    have HS7_ := (hb.cell (World.block_lt_of_cell? _ _ (hHeld.2.2.2.2.2.2.2.1))).trans (hHeld.2.2.2.2.2.2.2.1)
                    have HS8_ := (hb.cell (World.block_lt_of_cell? _ _ (hHeld.2.2.2.2.2.2.2.2.1))).trans (hHeld.2.2.2.2.2.2.2.2.1)
                    have HS9_ := (hb.cell (World.block_lt_of_cell? _ _ (hHeld.2.2.2.2.2.2.2.2.2.1))).trans (hHeld.2.2.2.2.2.2.2.2.2.1)
                    have HS10_ := (hb.cell (World.block_lt_of_cell? _ _ (hHeld.2.2.2.2.2.2.2.2.2.2))).trans (hHeld.2.2.2.2.2.2.2.2.2.2)
                    refine ⟨_, rfl, ?_⟩
                    have n0_ := Aside0.mk (Kd.R_below (rq_ HO_721002.out) hb)
                    have n1_ := Aside0.mk (Kd.R_below (rq_ HO_727002.out) hb)
                    have n2_ := Aside0.mk (bb_ BK720.out hb)
                    have n3_ := Aside0.mk (bb_ BK726.out hb)
                    have n4_ := Aside0.mk (below_step (hb_ HB.out) hb)
                    clear HO_721002; clear HO_727002
                    clear BK720; clear BK726
                    clear HB
                    have HO_721002 := n0_
                    have HO_727002 := n1_
                    have BK720 := n2_
                    have BK726 := n3_
                    have HB := n4_
                    clear n0_ n1_ n2_ n3_ n4_
                    (try clear hb)
                    (try clear hb2)
                    (try clear hk)
                    (try clear hi)
                    refine hK.out _ _ ⟨bc_ BK720 0, bc_ BK720 1, bc_ BK720 2, bc_ BK726 0, bc_ BK726 1, bc_ BK726 2, HS6_, HS7_, HS8_, HS9_, HS10_⟩ (fun hHeld => ?_)
                    clear hK K
                    refine nm_ ?_
                    refine pI_ 8 84 HT_ laws_FnPacked.m11 rfl rfl ?_
                    refine pI_ 9 93 HT_ laws_FnPacked.m12 rfl rfl ?_
                    refine pI_ 10 94 HT_ laws_FnPacked.m13 rfl rfl ?_
                    refine on_ 11 12 HT_ laws_FnPacked.m8 rfl rfl (fun K hK => ?_)
                    refine box_step ?hg (N := 12) ?hd (cs := #[.int .i64 0, .string (⟨#[]⟩ : ByteArray), .string (⟨#[]⟩ : ByteArray), .int .i64 0, .int .i64 0]) (t := 55) ?hr ?_; (case hd => rfl); (case hg => rfl); (case hr => first | (go_simp; done) | (go_simp; rfl))
                    intro gb758 hg w87 hbox hb
                    have HS6_ := (hb.cell (World.block_lt_of_cell? _ _ (hHeld.2.2.2.2.2.2.1))).trans (hHeld.2.2.2.2.2.2.1)
                    have HS7_ := (hb.cell (World.block_lt_of_cell? _ _ (hHeld.2.2.2.2.2.2.2.1))).trans (hHeld.2.2.2.2.2.2.2.1)
                    have HS8_ := (hb.cell (World.block_lt_of_cell? _ _ (hHeld.2.2.2.2.2.2.2.2.1))).trans (hHeld.2.2.2.2.2.2.2.2.1)
                    have HS9_ := (hb.cell (World.block_lt_of_cell? _ _ (hHeld.2.2.2.2.2.2.2.2.2.1))).trans (hHeld.2.2.2.2.2.2.2.2.2.1)
                    have HS10_ := (hb.cell (World.block_lt_of_cell? _ _ (hHeld.2.2.2.2.2.2.2.2.2.2))).trans (hHeld.2.2.2.2.2.2.2.2.2.2)
                    have n0_ := Aside0.mk (Kd.R_below (Kd.R_elderB (rq_ HO_721002.out) gb758 (Nat.le_of_eq hg.symm)) hb)
                    have n1_ := Aside0.mk (Kd.R_below (Kd.R_elderB (rq_ HO_727002.out) gb758 (Nat.le_of_eq hg.symm)) hb)
                    have n2_ := Aside0.mk (bb_ BK720.out hb)
                    have n3_ := Aside0.mk (bb_ BK726.out hb)
                    have n4_ := Aside0.mk (below_step (hb_ HB.out) hb)
                    have n5_ := Aside0.mk (hbox)
                    have n6_ := Aside0.mk ((by rw [hg]; exact (below_size (hb_ HB.out)) : w.heap.size ≤ gb758))
                    have n7_ := Aside0.mk ((by rw [hg]; exact (below_size (hb_ HB.out)) : w.heap.size ≤ gb758))
                    have n8_ := Aside0.mk ((nl_ BK720.out hg : gb720 ≠ gb758))
                    have n9_ := Aside0.mk ((ng_ BK720.out hg : gb758 ≠ gb720))
                    have n10_ := Aside0.mk ((nl_ BK726.out hg : gb726 ≠ gb758))
                    have n11_ := Aside0.mk ((ng_ BK726.out hg : gb758 ≠ gb726))
                    clear HO_721002; clear HO_727002
                    clear BK720; clear BK726
                    clear HB
                    have HO_721002 := n0_
                    have HO_727002 := n1_
                    have BK720 := n2_
                    have BK726 := n3_
                    have HB := n4_
                    have BK758 := n5_
                    have GW758 := n6_
                    have GE758 := n7_
                    have NB720_758 := n8_
                    have NB758_720 := n9_
                    have NB726_758 := n10_
                    have NB758_726 := n11_
                    clear n0_ n1_ n2_ n3_ n4_ n5_ n6_ n7_ n8_ n9_ n10_ n11_; clear hb hbox hg
                    refine hK.out _ _ ⟨bc_ BK720 0, bc_ BK720 1, bc_ BK720 2, bc_ BK726 0, bc_ BK726 1, bc_ BK726 2, HS6_, HS7_, HS8_, HS9_, HS10_⟩ (fun hHeld => ?_)
                    clear hK K
                    refine nm_ ?_
                    exact norm_ (qh4_) (hCont (gb758) _ ⟨hHeld, (rq_ HO_721002.out), (rq_ HO_727002.out), (bq_ BK720.out), (bq_ BK726.out), (bq_ BK758.out), GW758.out, GE758.out, NB720_758.out, NB758_720.out, NB726_758.out, NB758_726.out, (hb_ HB.out)⟩)
                   ·
                    skip
                    refine box_step ?hg (N := 12) ?hd (cs := #[.int .i64 0, .string (⟨#[]⟩ : ByteArray), .string (⟨#[]⟩ : ByteArray), .int .i64 0, .int .i64 0]) (t := 55) ?hr ?_; (case hd => rfl); (case hg => rfl); (case hr => first | (go_simp; done) | (go_simp; rfl))
                    intro gb758 hg w86 hbox hb
                    have HS6_ := (hb.cell (World.block_lt_of_cell? _ _ (hHeld.2.2.2.2.2.2.1))).trans (hHeld.2.2.2.2.2.2.1)
                    have HS7_ := (hb.cell (World.block_lt_of_cell? _ _ (hHeld.2.2.2.2.2.2.2.1))).trans (hHeld.2.2.2.2.2.2.2.1)
                    have HS8_ := (hb.cell (World.block_lt_of_cell? _ _ (hHeld.2.2.2.2.2.2.2.2.1))).trans (hHeld.2.2.2.2.2.2.2.2.1)
                    have HS9_ := (hb.cell (World.block_lt_of_cell? _ _ (hHeld.2.2.2.2.2.2.2.2.2.1))).trans (hHeld.2.2.2.2.2.2.2.2.2.1)
                    have HS10_ := (hb.cell (World.block_lt_of_cell? _ _ (hHeld.2.2.2.2.2.2.2.2.2.2))).trans (hHeld.2.2.2.2.2.2.2.2.2.2)
                    have n0_ := Aside0.mk (Kd.R_below (Kd.R_elderB (rq_ HO_721002.out) gb758 (Nat.le_of_eq hg.symm)) hb)
                    have n1_ := Aside0.mk (Kd.R_below (Kd.R_elderB (rq_ HO_727002.out) gb758 (Nat.le_of_eq hg.symm)) hb)
                    have n2_ := Aside0.mk (bb_ BK720.out hb)
                    have n3_ := Aside0.mk (bb_ BK726.out hb)
                    have n4_ := Aside0.mk (below_step (hb_ HB.out) hb)
                    have n5_ := Aside0.mk (hbox)
                    have n6_ := Aside0.mk ((by rw [hg]; exact (below_size (hb_ HB.out)) : w.heap.size ≤ gb758))
                    have n7_ := Aside0.mk ((by rw [hg]; exact (below_size (hb_ HB.out)) : w.heap.size ≤ gb758))
                    have n8_ := Aside0.mk ((nl_ BK720.out hg : gb720 ≠ gb758))
                    have n9_ := Aside0.mk ((ng_ BK720.out hg : gb758 ≠ gb720))
                    have n10_ := Aside0.mk ((nl_ BK726.out hg : gb726 ≠ gb758))
                    have n11_ := Aside0.mk ((ng_ BK726.out hg : gb758 ≠ gb726))
                    clear HO_721002; clear HO_727002
                    clear BK720; clear BK726
                    clear HB
                    have HO_721002 := n0_
                    have HO_727002 := n1_
                    have BK720 := n2_
                    have BK726 := n3_
                    have HB := n4_
                    have BK758 := n5_
                    have GW758 := n6_
                    have GE758 := n7_
                    have NB720_758 := n8_
                    have NB758_720 := n9_
                    have NB726_758 := n10_
                    have NB758_726 := n11_
                    clear n0_ n1_ n2_ n3_ n4_ n5_ n6_ n7_ n8_ n9_ n10_ n11_; clear hb hbox hg
                    refine hK.out _ _ ⟨bc_ BK720 0, bc_ BK720 1, bc_ BK720 2, bc_ BK726 0, bc_ BK726 1, bc_ BK726 2, HS6_, HS7_, HS8_, HS9_, HS10_⟩ (fun hHeld => ?_)
                    clear hK K
                    refine nm_ ?_
                    refine on_ 7 92 HT_ laws_FnPacked.m14 rfl rfl (fun K hK => ?_)
                    refine goes_ Try.func53 (by kernel_rfl) rfl #[.agg #[.int .i64 t714, .int .i64 t715, .slice Ao13 t716.length co13], .int .i64 ((rd_Item t723 x11_6).f0)] (by rfl) rfl rfl sm_ ?_
                    with_reducible refine (impl_RowGet.calls kj76 t714 t715 _ _ t716 ((rd_Item t723 x11_6).f0) t752 t753 t754 t755 t756 t757 _ ?side1 ?side2 A83.out).mono ?_
                    (case side1 => repeat (first | exact (Kd.R_reads' HO_721002.out).2.2 | (with_reducible refine Kd.C_alloc ?_ _) | (with_reducible refine Kd.C_drewN ?_ _) | (with_reducible refine Kd.C_drew ?_)))
                    (case side2 => exact (Kd.R_reads' HO_721002.out).2.1)
                    rintro e w87 ⟨rfl, hb⟩
                    have HS6_ := (hb.cell (World.block_lt_of_cell? _ _ (hHeld.2.2.2.2.2.2.1))).trans (hHeld.2.2.2.2.2.2.1)
                    have HS7_ := (hb.cell (World.block_lt_of_cell? _ _ (hHeld.2.2.2.2.2.2.2.1))).trans (hHeld.2.2.2.2.2.2.2.1)
                    have HS8_ := (hb.cell (World.block_lt_of_cell? _ _ (hHeld.2.2.2.2.2.2.2.2.1))).trans (hHeld.2.2.2.2.2.2.2.2.1)
                    have HS9_ := (hb.cell (World.block_lt_of_cell? _ _ (hHeld.2.2.2.2.2.2.2.2.2.1))).trans (hHeld.2.2.2.2.2.2.2.2.2.1)
                    have HS10_ := (hb.cell (World.block_lt_of_cell? _ _ (hHeld.2.2.2.2.2.2.2.2.2.2))).trans (hHeld.2.2.2.2.2.2.2.2.2.2)
                    refine ⟨_, rfl, ?_⟩
                    have n0_ := Aside0.mk (Kd.R_below (rq_ HO_721002.out) hb)
                    have n1_ := Aside0.mk (Kd.R_below (rq_ HO_727002.out) hb)
                    have n2_ := Aside0.mk (bb_ BK720.out hb)
                    have n3_ := Aside0.mk (bb_ BK726.out hb)
                    have n4_ := Aside0.mk (bb_ BK758.out hb)
                    have n5_ := Aside0.mk (below_step (hb_ HB.out) hb)
                    clear HO_721002; clear HO_727002
                    clear BK720; clear BK726
                    clear BK758; clear HB
                    have HO_721002 := n0_
                    have HO_727002 := n1_
                    have BK720 := n2_
                    have BK726 := n3_
                    have BK758 := n4_
                    have HB := n5_
                    clear n0_ n1_ n2_ n3_ n4_ n5_
                    (try clear hb)
                    (try clear hb2)
                    (try clear hk)
                    (try clear hi)
                    refine hK.out _ _ ⟨bc_ BK720 0, bc_ BK720 1, bc_ BK720 2, bc_ BK726 0, bc_ BK726 1, bc_ BK726 2, HS6_, HS7_, HS8_, HS9_, HS10_⟩ (fun hHeld => ?_)
                    clear hK K
                    refine nm_ ?_
                    refine pI_ 8 84 HT_ laws_FnPacked.m15 rfl rfl ?_
                    refine pI_ 9 93 HT_ laws_FnPacked.m16 rfl rfl ?_
                    refine pI_ 10 94 HT_ laws_FnPacked.m8 rfl rfl ?_
                    exact norm_ (qh4_) (hCont (gb758) _ ⟨hHeld, (rq_ HO_721002.out), (rq_ HO_727002.out), (bq_ BK720.out), (bq_ BK726.out), (bq_ BK758.out), GW758.out, GE758.out, NB720_758.out, NB758_720.out, NB726_758.out, NB758_726.out, (hb_ HB.out)⟩)
                  rintro gb758 w88 ⟨hS_, h0_, h1_, h2_, h3_, h4_, h5_, h6_, h7_, h8_, h9_, h10_, h11_⟩
                  have n0_ : Aside0 (Kd.R k_Item 55 w88 w.heap.size (fun k_ => some k_ ≠ (.slice (some ad751) t723.length co18 : Value).ownBlock ∧ k_ ≠ gb758) (.slice Ao13 t716.length co13) t716) := ⟨h0_⟩
                  have n1_ : Aside0 (Kd.R k_Item 55 w88 w.heap.size (fun k_ => some k_ ≠ (.slice Ao13 t716.length co13 : Value).ownBlock ∧ k_ ≠ gb758) (.slice (some ad751) t723.length co18) t723) := ⟨h1_⟩
                  have n2_ : Aside0 (w88.heap[gb720]? = some (.cells #[.int .i64 t714, .int .i64 t715, .slice Ao13 t716.length co13] 48 (0, 0))) := ⟨h2_⟩
                  have n3_ : Aside0 (w88.heap[gb726]? = some (.cells #[.int .i64 t721, .int .i64 t722, .slice (some ad751) t723.length co18] 48 (0, 0))) := ⟨h3_⟩
                  have n4_ : Aside0 (w88.heap[gb758]? = some (.cells #[.int .i64 0, .string (⟨#[]⟩ : ByteArray), .string (⟨#[]⟩ : ByteArray), .int .i64 0, .int .i64 0] 55 (0, 0))) := ⟨h4_⟩
                  have n5_ : Aside0 (w.heap.size ≤ gb758) := ⟨h5_⟩
                  have n6_ : Aside0 (w.heap.size ≤ gb758) := ⟨h6_⟩
                  have n7_ : Aside0 (gb720 ≠ gb758) := ⟨h7_⟩
                  have n8_ : Aside0 (gb758 ≠ gb720) := ⟨h8_⟩
                  have n9_ : Aside0 (gb726 ≠ gb758) := ⟨h9_⟩
                  have n10_ : Aside0 (gb758 ≠ gb726) := ⟨h10_⟩
                  have n11_ : Aside0 (Below w.heap.size w w88) := ⟨h11_⟩
                  clear HO_721002; clear HO_727002
                  clear BK720; clear BK726
                  clear HB; clear h0_ h1_ h2_ h3_ h4_ h5_ h6_ h7_ h8_ h9_ h10_ h11_
                  have HO_721002 := n0_
                  have HO_727002 := n1_
                  have BK720 := n2_
                  have BK726 := n3_
                  have BK758 := n4_
                  have GW758 := n5_
                  have GE758 := n6_
                  have NB720_758 := n7_
                  have NB758_720 := n8_
                  have NB726_758 := n9_
                  have NB758_726 := n10_
                  have HB := n11_
                  clear n0_ n1_ n2_ n3_ n4_ n5_ n6_ n7_ n8_ n9_ n10_ n11_
                  have hHeld : w88.cell? ⟨gb720, 0, none⟩ = some (.int .i64 t714) ∧ w88.cell? ⟨gb720, 1, none⟩ = some (.int .i64 t715) ∧ w88.cell? ⟨gb720, 2, none⟩ = some (.slice Ao13 t716.length co13) ∧ w88.cell? ⟨gb726, 0, none⟩ = some (.int .i64 t721) ∧ w88.cell? ⟨gb726, 1, none⟩ = some (.int .i64 t722) ∧ w88.cell? ⟨gb726, 2, none⟩ = some (.slice (some ad751) t723.length co18) ∧ w88.cell? (ad751.add ((x11_6).toNat * 5)) = some (.int .i64 ((rd_Item t723 x11_6).f0)) ∧ w88.cell? ⟨(ad751.add ((x11_6).toNat * 5)).block, (ad751.add ((x11_6).toNat * 5)).off + 1, none⟩ = some (.string ((rd_Item t723 x11_6).f1)) ∧ w88.cell? ⟨(ad751.add ((x11_6).toNat * 5)).block, (ad751.add ((x11_6).toNat * 5)).off + 2, none⟩ = some (.string ((rd_Item t723 x11_6).f2)) ∧ w88.cell? ⟨(ad751.add ((x11_6).toNat * 5)).block, (ad751.add ((x11_6).toNat * 5)).off + 3, none⟩ = some (.int .i64 ((rd_Item t723 x11_6).f3)) ∧ w88.cell? ⟨(ad751.add ((x11_6).toNat * 5)).block, (ad751.add ((x11_6).toNat * 5)).off + 4, none⟩ = some (.int .i64 ((rd_Item t723 x11_6).f4)) := hS_
                  refine norm_ (a' := ?_) ?_ ?_
                  rotate_left; (focus simp only [putAll, Act.put, List.setIfInBounds_toArray, List.set_cons_zero, List.set_cons_succ]; rfl)
                  refine one_ (i := 12) (N := none) laws_FnPacked.m17 rfl rfl (one_of HT_.out (by kernel_rfl)) (by decide) (fun K hK => ?_)
                  have hs89 : w88.cell? ⟨gb758, 0, none⟩ = some (.int .i64 0) := bc_ BK758 0
                  have hfs89 := blk_frozen BK758.out 0
                  have hns89_0 := NB720_758.out
                  have hns89_1 := NB726_758.out
                  have hms89_0 := NB758_720.out
                  have hms89_1 := NB758_726.out
                  have hs90 : w88.cell? ⟨gb758, 1, none⟩ = some (.string (⟨#[]⟩ : ByteArray)) := bc_ BK758 1
                  have hfs90 := blk_frozen BK758.out 1
                  have hns90_0 := NB720_758.out
                  have hns90_1 := NB726_758.out
                  have hms90_0 := NB758_720.out
                  have hms90_1 := NB758_726.out
                  have hs91 : w88.cell? ⟨gb758, 2, none⟩ = some (.string (⟨#[]⟩ : ByteArray)) := bc_ BK758 2
                  have hfs91 := blk_frozen BK758.out 2
                  have hns91_0 := NB720_758.out
                  have hns91_1 := NB726_758.out
                  have hms91_0 := NB758_720.out
                  have hms91_1 := NB758_726.out
                  have hs92 : w88.cell? ⟨gb758, 3, none⟩ = some (.int .i64 0) := bc_ BK758 3
                  have hfs92 := blk_frozen BK758.out 3
                  have hns92_0 := NB720_758.out
                  have hns92_1 := NB726_758.out
                  have hms92_0 := NB758_720.out
                  have hms92_1 := NB758_726.out
                  have hs93 : w88.cell? ⟨gb758, 4, none⟩ = some (.int .i64 0) := bc_ BK758 4
                  have hfs93 := blk_frozen BK758.out 4
                  have hns93_0 := NB720_758.out
                  have hns93_1 := NB726_758.out
                  have hms93_0 := NB758_720.out
                  have hms93_1 := NB758_726.out
                  refine skip_ (w1 := ?_) (by rfl) rfl ?_ ?_
                  rotate_left; (focus go_simp; rfl)
                  refine hK.out _ _ ⟨(cfs_ NB720_758.out (hHeld.1)), (cfs_ NB720_758.out (hHeld.2.1)), (cfs_ NB720_758.out (hHeld.2.2.1)), (cfs_ NB726_758.out (hHeld.2.2.2.1)), (cfs_ NB726_758.out (hHeld.2.2.2.2.1)), (cfs_ NB726_758.out (hHeld.2.2.2.2.2.1)), (qfrqh2_ (hHeld.2.2.2.2.2.2.1)), (qfrqh2_ (hHeld.2.2.2.2.2.2.2.1)), (qfrqh2_ (hHeld.2.2.2.2.2.2.2.2.1)), (qfrqh2_ (hHeld.2.2.2.2.2.2.2.2.2.1)), (qfrqh2_ (hHeld.2.2.2.2.2.2.2.2.2.2))⟩ (fun hHeld => ?_)
                  clear hK K
                  refine pI_ 13 13 HT_ laws_FnPacked.m18 rfl rfl ?_
                  refine done_ (done_of HT_.out (by kernel_rfl)) ?_
                  go_upto_region 20 with (fail)
                  go_cut [105] (fun v105 wc => ∃ (kq : Nat) (x105_83 : Bool), v105 = .bool x105_83 ∧ Aside0 (laws_FnPacked.j10 kq t719 x11_6 x105_83 t714 t715 t716 t721 t722 t723 = some r) ∧ Aside0 (kq ≤ kj76) ∧ Aside0 (Kd.R k_Item 55 wc w.heap.size (fun k_ => some k_ ≠ ((.slice (some ad751) t723.length co18) : Value).ownBlock ∧ k_ ≠ gb758) (.slice Ao13 t716.length co13) t716) ∧ Aside0 (Kd.R k_Item 55 wc w.heap.size (fun k_ => some k_ ≠ ((.slice Ao13 t716.length co13) : Value).ownBlock ∧ k_ ≠ gb758) (.slice (some ad751) t723.length co18) t723) ∧ Aside0 (wc.heap[gb720]? = some (.cells #[.int .i64 t714, .int .i64 t715, (.slice Ao13 t716.length co13)] 48 (0, 0))) ∧ Aside0 (wc.heap[gb726]? = some (.cells #[.int .i64 t721, .int .i64 t722, (.slice (some ad751) t723.length co18)] 48 (0, 0))) ∧ Aside0 (wc.heap[gb758]? = some (.cells #[.int .i64 t752, .string t753, .string t754, .int .i64 t755, .int .i64 t756] 55 (0, 0))) ∧ Aside0 (Below w.heap.size w wc))
                  case first =>
                   have H := HC84.out
                   clear HC84
                   by_cases c94 : t757 = 0
                   ·
                    rw [if_pos c94] at H
                    have c94b0 : (t757 == 0) = true := beq_iff_eq.mpr c94
                    have c94b1 : (t757 != 0) = false := bne_eq_false_iff_eq.mpr c94
                    clear c94
                    (first | rw [c94b0] | (simp only [i64_w, i32_w]; rw [c94b0]) | rw [c94b4] | rw [c94b3] | skip)
                    have H' := Aside0.mk H
                    clear H
                    try go_wp2
                    have n0_ : Aside0 (Kd.R k_Item 55 (((((w88.setCell ⟨gb758, 0, none⟩ (.int .i64 t752)).setCell ⟨gb758, 1, none⟩ (.string t753)).setCell ⟨gb758, 2, none⟩ (.string t754)).setCell ⟨gb758, 3, none⟩ (.int .i64 t755)).setCell ⟨gb758, 4, none⟩ (.int .i64 t756)) w.heap.size (fun k_ => some k_ ≠ (.slice (some ad751) t723.length co18 : Value).ownBlock ∧ k_ ≠ gb758) (.slice Ao13 t716.length co13) t716) := ⟨qh3_⟩
                    have n1_ : Aside0 (Kd.R k_Item 55 (((((w88.setCell ⟨gb758, 0, none⟩ (.int .i64 t752)).setCell ⟨gb758, 1, none⟩ (.string t753)).setCell ⟨gb758, 2, none⟩ (.string t754)).setCell ⟨gb758, 3, none⟩ (.int .i64 t755)).setCell ⟨gb758, 4, none⟩ (.int .i64 t756)) w.heap.size (fun k_ => some k_ ≠ (.slice Ao13 t716.length co13 : Value).ownBlock ∧ k_ ≠ gb758) (.slice (some ad751) t723.length co18) t723) := ⟨qh2_⟩
                    have n2_ : Aside0 ((((((w88.setCell ⟨gb758, 0, none⟩ (.int .i64 t752)).setCell ⟨gb758, 1, none⟩ (.string t753)).setCell ⟨gb758, 2, none⟩ (.string t754)).setCell ⟨gb758, 3, none⟩ (.int .i64 t755)).setCell ⟨gb758, 4, none⟩ (.int .i64 t756)).heap[gb720]? = some (.cells #[.int .i64 t714, .int .i64 t715, .slice Ao13 t716.length co13] 48 (0, 0))) := ⟨bf_ NB720_758.out BK720.out⟩
                    have n3_ : Aside0 ((((((w88.setCell ⟨gb758, 0, none⟩ (.int .i64 t752)).setCell ⟨gb758, 1, none⟩ (.string t753)).setCell ⟨gb758, 2, none⟩ (.string t754)).setCell ⟨gb758, 3, none⟩ (.int .i64 t755)).setCell ⟨gb758, 4, none⟩ (.int .i64 t756)).heap[gb726]? = some (.cells #[.int .i64 t721, .int .i64 t722, .slice (some ad751) t723.length co18] 48 (0, 0))) := ⟨bf_ NB726_758.out BK726.out⟩
                    have n4_ : Aside0 ((((((w88.setCell ⟨gb758, 0, none⟩ (.int .i64 t752)).setCell ⟨gb758, 1, none⟩ (.string t753)).setCell ⟨gb758, 2, none⟩ (.string t754)).setCell ⟨gb758, 3, none⟩ (.int .i64 t755)).setCell ⟨gb758, 4, none⟩ (.int .i64 t756)).heap[gb758]? = some (.cells #[.int .i64 t752, .string t753, .string t754, .int .i64 t755, .int .i64 t756] 55 (0, 0))) := ⟨bp_ BK758.out⟩
                    have n5_ : Aside0 (Below w.heap.size w (((((w88.setCell ⟨gb758, 0, none⟩ (.int .i64 t752)).setCell ⟨gb758, 1, none⟩ (.string t753)).setCell ⟨gb758, 2, none⟩ (.string t754)).setCell ⟨gb758, 3, none⟩ (.int .i64 t755)).setCell ⟨gb758, 4, none⟩ (.int .i64 t756))) := ⟨hb_ HB.out⟩
                    (try clear HO_721002)
                    (try clear HO_727002)
                    (try clear BK720)
                    (try clear BK726)
                    (try clear BK758)
                    (try clear HB)
                    generalize (((((w88.setCell ⟨gb758, 0, none⟩ (.int .i64 t752)).setCell ⟨gb758, 1, none⟩ (.string t753)).setCell ⟨gb758, 2, none⟩ (.string t754)).setCell ⟨gb758, 3, none⟩ (.int .i64 t755)).setCell ⟨gb758, 4, none⟩ (.int .i64 t756)) = w95 at n0_ n1_ n2_ n3_ n4_ n5_ ⊢
                    have HO_721002 := n0_
                    have HO_727002 := n1_
                    have BK720 := n2_
                    have BK726 := n3_
                    have BK758 := n4_
                    have HB := n5_
                    clear n0_ n1_ n2_ n3_ n4_ n5_
                    have n0_ := Aside0.mk (Kd.R_drew HO_721002.out)
                    have n1_ := Aside0.mk (Kd.R_drew HO_727002.out)
                    have n2_ := Aside0.mk (blk_drew BK720.out)
                    have n3_ := Aside0.mk (blk_drew BK726.out)
                    have n4_ := Aside0.mk (blk_drew BK758.out)
                    have n5_ := Aside0.mk (below_drew1 HB.out)
                    clear HO_721002; clear HO_727002
                    clear BK720; clear BK726
                    clear BK758; clear HB
                    have HO_721002 := n0_
                    have HO_727002 := n1_
                    have BK720 := n2_
                    have BK726 := n3_
                    have BK758 := n4_
                    have HB := n5_
                    clear n0_ n1_ n2_ n3_ n4_ n5_
                    have p759 : 0 ≤ (x11_6 : Int) := of_decide_eq_true dt_
                    have q759 : x11_6 < (t723.length : Int) := of_decide_eq_true dt_
                    obtain ⟨ad759, e759, hx759_0, hx759_1, hx759_2, hx759_3, hx759_4⟩ := at_Item (Kd.R_reads' HO_727002.out).2.2 x11_6 p759 q759
                    obtain rfl : ad751 = ad759 := (by injection e759)
                    replace p759 := eq_true p759
                    replace q759 := eq_true q759
                    refine start_ (n := 11) (S := fun w' => w'.cell? ⟨gb758, 0, none⟩ = some (.int .i64 t752) ∧ w'.cell? ⟨gb758, 1, none⟩ = some (.string t753) ∧ w'.cell? ⟨gb758, 2, none⟩ = some (.string t754) ∧ w'.cell? ⟨gb758, 3, none⟩ = some (.int .i64 t755) ∧ w'.cell? ⟨gb758, 4, none⟩ = some (.int .i64 t756) ∧ w'.cell? ⟨gb726, 0, none⟩ = some (.int .i64 t721) ∧ w'.cell? ⟨gb726, 1, none⟩ = some (.int .i64 t722) ∧ w'.cell? ⟨gb726, 2, none⟩ = some (.slice (some ad751) t723.length co18) ∧ w'.cell? (ad751.add ((x11_6).toNat * 5)) = some (.int .i64 ((rd_Item t723 x11_6).f0)) ∧ w'.cell? ⟨(ad751.add ((x11_6).toNat * 5)).block, (ad751.add ((x11_6).toNat * 5)).off + 1, none⟩ = some (.string ((rd_Item t723 x11_6).f1)) ∧ w'.cell? ⟨(ad751.add ((x11_6).toNat * 5)).block, (ad751.add ((x11_6).toNat * 5)).off + 2, none⟩ = some (.string ((rd_Item t723 x11_6).f2)) ∧ w'.cell? ⟨(ad751.add ((x11_6).toNat * 5)).block, (ad751.add ((x11_6).toNat * 5)).off + 3, none⟩ = some (.int .i64 ((rd_Item t723 x11_6).f3)) ∧ w'.cell? ⟨(ad751.add ((x11_6).toNat * 5)).block, (ad751.add ((x11_6).toNat * 5)).off + 4, none⟩ = some (.int .i64 ((rd_Item t723 x11_6).f4))) (ds := []) laws_FnPacked.m19 (by kernel_rfl) rfl rfl ⟨bc_ BK758 0, bc_ BK758 1, bc_ BK758 2, bc_ BK758 3, bc_ BK758 4, bc_ BK726 0, bc_ BK726 1, bc_ BK726 2, hx759_0, hx759_1, hx759_2, hx759_3, hx759_4⟩ (fun hHeld => ?_); refine with_tabW laws_FnPacked.tab20 laws_FnPacked.bits20 (fun HT_ HW_ => ?_)
                    generalize w95.drew = w96 at HO_721002 HO_727002 BK720 BK726 BK758 HB hx759_0 hx759_1 hx759_2 hx759_3 hx759_4 hHeld ⊢
                    refine pI_ 0 95 HT_ laws_FnPacked.m20 rfl rfl ?_
                    refine pI_ 1 96 HT_ laws_FnPacked.m21 rfl rfl ?_
                    refine pI_ 2 97 HT_ laws_FnPacked.m22 rfl rfl ?_
                    refine pI_ 4 99 HT_ #[true, true, true, false, true, false, false, false, false, false, false] rfl rfl ?_
                    refine pI_ 6 101 HT_ #[true, true, true, false, true, false, true, false, false, false, false] rfl rfl ?_
                    refine tk_ 3 98 HT_ HW_ #[true, true, true, true, true, false, true, false, false, false, false] rfl rfl hHeld ?_
                    refine tk_ 5 100 HT_ HW_ laws_FnPacked.m23 rfl rfl hHeld ?_
                    refine pI_ 7 102 HT_ laws_FnPacked.m24 rfl rfl ?_
                    refine tk_ 8 103 HT_ HW_ laws_FnPacked.m25 rfl rfl hHeld ?_
                    refine pI_ 9 104 HT_ laws_FnPacked.m26 rfl rfl ?_
                    refine pI_ 10 105 HT_ laws_FnPacked.m27 rfl rfl ?_
                    refine done_ (done_of HT_.out (by kernel_rfl)) ?_
                    try go_wp2
                    go_meet
                    case rel => exact ⟨_, ((!(t752 == ((rd_Item t723 x11_6).f0)) || (!(t753.toList == (((rd_Item t723 x11_6).f1).toList)) || (!(t754.toList == (((rd_Item t723 x11_6).f2).toList)) || (!(t755 == ((rd_Item t723 x11_6).f3)) || (!(t756 == ((rd_Item t723 x11_6).f4)))))))), (qh5_), H', ⟨qh6_⟩, ⟨rq_ HO_721002.out⟩, ⟨rq_ HO_727002.out⟩, ⟨bq_ BK720.out⟩, ⟨bq_ BK726.out⟩, ⟨bq_ BK758.out⟩, ⟨hb_ HB.out⟩⟩
                   ·
                    rw [if_neg c94] at H
                    have c94b0 : (t757 == 0) = false := beq_eq_false_iff_ne.mpr c94
                    have c94b1 : (t757 != 0) = true := bne_iff_ne.mpr c94
                    (first | rw [c94b0] | (simp only [i64_w, i32_w]; rw [c94b0]) | rw [c94b4] | rw [c94b3] | skip)
                    have H' := Aside0.mk H
                    clear H
                    try go_wp2
                    have n0_ : Aside0 (Kd.R k_Item 55 (((((w88.setCell ⟨gb758, 0, none⟩ (.int .i64 t752)).setCell ⟨gb758, 1, none⟩ (.string t753)).setCell ⟨gb758, 2, none⟩ (.string t754)).setCell ⟨gb758, 3, none⟩ (.int .i64 t755)).setCell ⟨gb758, 4, none⟩ (.int .i64 t756)) w.heap.size (fun k_ => some k_ ≠ (.slice (some ad751) t723.length co18 : Value).ownBlock ∧ k_ ≠ gb758) (.slice Ao13 t716.length co13) t716) := ⟨qh3_⟩
                    have n1_ : Aside0 (Kd.R k_Item 55 (((((w88.setCell ⟨gb758, 0, none⟩ (.int .i64 t752)).setCell ⟨gb758, 1, none⟩ (.string t753)).setCell ⟨gb758, 2, none⟩ (.string t754)).setCell ⟨gb758, 3, none⟩ (.int .i64 t755)).setCell ⟨gb758, 4, none⟩ (.int .i64 t756)) w.heap.size (fun k_ => some k_ ≠ (.slice Ao13 t716.length co13 : Value).ownBlock ∧ k_ ≠ gb758) (.slice (some ad751) t723.length co18) t723) := ⟨qh2_⟩
                    have n2_ : Aside0 ((((((w88.setCell ⟨gb758, 0, none⟩ (.int .i64 t752)).setCell ⟨gb758, 1, none⟩ (.string t753)).setCell ⟨gb758, 2, none⟩ (.string t754)).setCell ⟨gb758, 3, none⟩ (.int .i64 t755)).setCell ⟨gb758, 4, none⟩ (.int .i64 t756)).heap[gb720]? = some (.cells #[.int .i64 t714, .int .i64 t715, .slice Ao13 t716.length co13] 48 (0, 0))) := ⟨bf_ NB720_758.out BK720.out⟩
                    have n3_ : Aside0 ((((((w88.setCell ⟨gb758, 0, none⟩ (.int .i64 t752)).setCell ⟨gb758, 1, none⟩ (.string t753)).setCell ⟨gb758, 2, none⟩ (.string t754)).setCell ⟨gb758, 3, none⟩ (.int .i64 t755)).setCell ⟨gb758, 4, none⟩ (.int .i64 t756)).heap[gb726]? = some (.cells #[.int .i64 t721, .int .i64 t722, .slice (some ad751) t723.length co18] 48 (0, 0))) := ⟨bf_ NB726_758.out BK726.out⟩
                    have n4_ : Aside0 ((((((w88.setCell ⟨gb758, 0, none⟩ (.int .i64 t752)).setCell ⟨gb758, 1, none⟩ (.string t753)).setCell ⟨gb758, 2, none⟩ (.string t754)).setCell ⟨gb758, 3, none⟩ (.int .i64 t755)).setCell ⟨gb758, 4, none⟩ (.int .i64 t756)).heap[gb758]? = some (.cells #[.int .i64 t752, .string t753, .string t754, .int .i64 t755, .int .i64 t756] 55 (0, 0))) := ⟨bp_ BK758.out⟩
                    have n5_ : Aside0 (Below w.heap.size w (((((w88.setCell ⟨gb758, 0, none⟩ (.int .i64 t752)).setCell ⟨gb758, 1, none⟩ (.string t753)).setCell ⟨gb758, 2, none⟩ (.string t754)).setCell ⟨gb758, 3, none⟩ (.int .i64 t755)).setCell ⟨gb758, 4, none⟩ (.int .i64 t756))) := ⟨hb_ HB.out⟩
                    (try clear HO_721002)
                    (try clear HO_727002)
                    (try clear BK720)
                    (try clear BK726)
                    (try clear BK758)
                    (try clear HB)
                    generalize (((((w88.setCell ⟨gb758, 0, none⟩ (.int .i64 t752)).setCell ⟨gb758, 1, none⟩ (.string t753)).setCell ⟨gb758, 2, none⟩ (.string t754)).setCell ⟨gb758, 3, none⟩ (.int .i64 t755)).setCell ⟨gb758, 4, none⟩ (.int .i64 t756)) = w97 at n0_ n1_ n2_ n3_ n4_ n5_ ⊢
                    have HO_721002 := n0_
                    have HO_727002 := n1_
                    have BK720 := n2_
                    have BK726 := n3_
                    have BK758 := n4_
                    have HB := n5_
                    clear n0_ n1_ n2_ n3_ n4_ n5_
                    have n0_ := Aside0.mk (Kd.R_drew HO_721002.out)
                    have n1_ := Aside0.mk (Kd.R_drew HO_727002.out)
                    have n2_ := Aside0.mk (blk_drew BK720.out)
                    have n3_ := Aside0.mk (blk_drew BK726.out)
                    have n4_ := Aside0.mk (blk_drew BK758.out)
                    have n5_ := Aside0.mk (below_drew1 HB.out)
                    clear HO_721002; clear HO_727002
                    clear BK720; clear BK726
                    clear BK758; clear HB
                    have HO_721002 := n0_
                    have HO_727002 := n1_
                    have BK720 := n2_
                    have BK726 := n3_
                    have BK758 := n4_
                    have HB := n5_
                    clear n0_ n1_ n2_ n3_ n4_ n5_
                    refine start_ (n := 11) (S := fun w' => True) (ds := []) laws_FnPacked.m19 (by kernel_rfl) rfl rfl trivial (fun hHeld => ?_); refine with_tabW laws_FnPacked.tab20 laws_FnPacked.bits20 (fun HT_ HW_ => ?_)
                    generalize w97.drew = w98 at HO_721002 HO_727002 BK720 BK726 BK758 HB hHeld ⊢
                    refine pI_ 0 95 HT_ laws_FnPacked.m20 rfl rfl ?_
                    refine pI_ 1 96 HT_ laws_FnPacked.m21 rfl rfl ?_
                    refine pI_ 2 97 HT_ laws_FnPacked.m22 rfl rfl ?_
                    refine pU_ 3 98 HT_ #[true, true, true, true, false, false, false, false, false, false, false] rfl rfl ?_
                    refine pU_ 4 99 HT_ #[true, true, true, true, true, false, false, false, false, false, false] rfl rfl ?_
                    refine pU_ 5 100 HT_ #[true, true, true, true, true, true, false, false, false, false, false] rfl rfl ?_
                    refine pU_ 6 101 HT_ laws_FnPacked.m23 rfl rfl ?_
                    refine pU_ 7 102 HT_ laws_FnPacked.m24 rfl rfl ?_
                    refine pU_ 8 103 HT_ laws_FnPacked.m25 rfl rfl ?_
                    refine pU_ 9 104 HT_ laws_FnPacked.m26 rfl rfl ?_
                    refine pI_ 10 105 HT_ laws_FnPacked.m27 rfl rfl ?_
                    refine done_ (done_of HT_.out (by kernel_rfl)) ?_
                    try go_wp2
                    go_meet
                    case rel => exact ⟨_, (true), (qh5_), H', ⟨qh6_⟩, ⟨rq_ HO_721002.out⟩, ⟨rq_ HO_727002.out⟩, ⟨bq_ BK720.out⟩, ⟨bq_ BK726.out⟩, ⟨bq_ BK758.out⟩, ⟨hb_ HB.out⟩⟩
                  case rest =>
                   clear HC84
                   (try clear p2); (try clear c5); (try clear p7); (try clear q7); (try clear hx7); (try clear c9); (try clear c53); (try clear p75); (try clear q75); (try clear hx75); (try clear c94); (try clear c94b0); (try clear c94b1); (try clear hx759_0); (try clear hx759_1); (try clear hx759_2); (try clear hx759_3); (try clear hx759_4); (try clear p759); (try clear q759)
                   obtain ⟨kq, x105_83, rfl, HA, HJ83, HO_721002, HO_727002, BK720, BK726, BK758, HB⟩ := hcut
                   cases kq with
                   | zero => exact absurd HA.out (by simp [laws_FnPacked.j10])
                   | succ kj83 =>
                    have H := HA.out
                    clear HA
                    simp only [laws_FnPacked.j10] at H
                    by_cases c99 : x105_83 = true
                    ·
                     subst c99
                     have H1 : (some false) = some r := by rw [if_pos rfl] at H; exact H
                     clear H
                     have H := H1
                     clear H1
                     obtain rfl := Option.some.inj H
                     go_wp2
                     go_ret
                     exact ⟨er_, hb_ HB.out⟩
                    ·
                     replace c99 := Bool.eq_false_iff.mpr c99
                     subst c99
                     have H1 : (laws_FnPacked.l1 kj83 t719 (wrap64 (x11_6 + 1)) t714 t715 t716 t721 t722 t723) = some r := by rw [if_neg (show ¬ (false = true) by decide)] at H; exact H
                     clear H
                     have H := H1
                     clear H1
                     have H' := Aside0.mk H
                     clear H
                     go_wp2
                     go_roundg kj83
                     case measure => have := HJ2.out; have := HJ8.out; have := HJ24.out; have := HJ30.out; have := HJ37.out; have := HK6.out; have := HJ76.out; have := HJ83.out; omega
                     case rel => exact ⟨(wrap64 (x11_6 + 1)), (qh5_), H', ⟨by have := HJ2.out; have := HJ8.out; have := HJ24.out; have := HJ30.out; have := HJ37.out; have := HK6.out; have := HJ76.out; have := HJ83.out; omega⟩, ⟨rm_ HO_721002.out⟩, ⟨rm_ HO_727002.out⟩, ⟨bq_ BK720.out⟩, ⟨bq_ BK726.out⟩, ⟨hb_ HB.out⟩⟩
                 ·
                  rw [if_neg c82] at H
                  exact absurd H (by simp)
                ·
                 rw [if_neg c81] at H
                 exact absurd H (by simp)
           case rest =>
            clear HC76
            (try clear p2); (try clear c5); (try clear p6); (try clear p7); (try clear q7); (try clear hx7); (try clear c8); (try clear c9); (try clear c53); (try clear p64); (try clear p75); (try clear q75); (try clear hx75); (try clear c81); (try clear c82); (try clear c94); (try clear c94b0); (try clear c94b1); (try clear c99); (try clear hx759_0); (try clear hx759_1); (try clear hx759_2); (try clear hx759_3); (try clear hx759_4); (try clear p2); (try clear p7); (try clear p75); (try clear p759); (try clear q7); (try clear q75); (try clear q759)
            obtain ⟨kq, HA, HJ75, HO_721002, HO_727002, BK720, BK726, HB⟩ := hcut
            cases kq with
            | zero => exact absurd HA.out (by simp [laws_FnPacked.j11])
            | succ kj75 =>
             have H := HA.out
             clear HA
             simp only [laws_FnPacked.j11] at H
             replace H := Option.bind_eq_some_iff.mp H
             obtain ⟨t760, A1000, H⟩ := H
             replace H : (if t760 = true then (if t721 = t714 then (if t722 = t715 then ((impl_RowPack.f kj75 t721 t722 t723 t719).bind fun bt761 => ((laws_sameRow.f kj75 bt761.1 bt761.2.1 bt761.2.2 t721 t722 t723).bind fun t766 => (some t766))) else (some false)) else (some false)) else (some false)) = some r := H
             have A100 := Aside0.mk A1000
             clear A1000
             by_cases c101 : t760 = true
             ·
              subst c101
              have H1 : (if t721 = t714 then (if t722 = t715 then ((impl_RowPack.f kj75 t721 t722 t723 t719).bind fun bt761 => ((laws_sameRow.f kj75 bt761.1 bt761.2.1 bt761.2.2 t721 t722 t723).bind fun t766 => (some t766))) else (some false)) else (some false)) = some r := by rw [if_pos rfl] at H; exact H
              clear H
              have H := H1
              clear H1
              by_cases c102 : t721 = t714
              ·
               rw [if_pos c102] at H
               have c102b0 : (t721 == t714) = true := beq_iff_eq.mpr c102
               have c102b1 : (t721 != t714) = false := bne_eq_false_iff_eq.mpr c102
               clear c102
               by_cases c103 : t722 = t715
               ·
                rw [if_pos c103] at H
                have c103b0 : (t722 == t715) = true := beq_iff_eq.mpr c103
                have c103b1 : (t722 != t715) = false := bne_eq_false_iff_eq.mpr c103
                clear c103
                replace H := Option.bind_eq_some_iff.mp H
                obtain ⟨⟨t761, t762, t763⟩, A1040, H⟩ := H
                replace H : ((laws_sameRow.f kj75 t761 t762 t763 t721 t722 t723).bind fun t766 => (some t766)) = some r := H
                have A104 := Aside0.mk A1040
                clear A1040
                replace H := Option.bind_eq_some_iff.mp H
                obtain ⟨t766, A1050, H⟩ := H
                replace H : (some t766) = some r := H
                have A105 := Aside0.mk A1050
                clear A1050
                obtain rfl := Option.some.inj H
                try go_wp2
                have n0_ := Aside0.mk (Kd.R_drew HO_721002.out)
                have n1_ := Aside0.mk (Kd.R_drew HO_727002.out)
                have n2_ := Aside0.mk (blk_drew BK720.out)
                have n3_ := Aside0.mk (blk_drew BK726.out)
                have n4_ := Aside0.mk (below_drew1 HB.out)
                clear HO_721002; clear HO_727002
                clear BK720; clear BK726
                clear HB
                have HO_721002 := n0_
                have HO_727002 := n1_
                have BK720 := n2_
                have BK726 := n3_
                have HB := n4_
                clear n0_ n1_ n2_ n3_ n4_
                refine start_ (n := 24) (S := fun w' => w'.cell? ⟨gb726, 0, none⟩ = some (.int .i64 t721) ∧ w'.cell? ⟨gb726, 1, none⟩ = some (.int .i64 t722) ∧ w'.cell? ⟨gb726, 2, none⟩ = some (.slice Ao18 t723.length co18) ∧ w'.cell? ⟨gb720, 0, none⟩ = some (.int .i64 t714) ∧ w'.cell? ⟨gb720, 1, none⟩ = some (.int .i64 t715) ∧ w'.cell? ⟨gb720, 2, none⟩ = some (.slice Ao13 t716.length co13)) (ds := []) laws_FnPacked.m28 (by kernel_rfl) rfl rfl ⟨bc_ BK726 0, bc_ BK726 1, bc_ BK726 2, bc_ BK720 0, bc_ BK720 1, bc_ BK720 2⟩ (fun hHeld => ?_); refine with_tabW laws_FnPacked.tab22 laws_FnPacked.bits22 (fun HT_ HW_ => ?_)
                generalize wc.drew = w106 at HO_721002 HO_727002 BK720 BK726 HB hHeld ⊢
                refine tk_ 0 106 HT_ HW_ laws_FnPacked.m29 rfl rfl hHeld ?_
                refine on_ 1 107 HT_ laws_FnPacked.m30 rfl rfl (fun K hK => ?_)
                refine goes_ Try.func35 (by kernel_rfl) rfl #[.agg #[.int .i64 t721, .int .i64 t722, .slice Ao18 t723.length co18]] (by rfl) rfl rfl sm_ ?_
                with_reducible refine (impl_RowOk.calls kj75 t721 t722 _ _ t723 true _ ?side1 ?side2 A100.out).mono ?_
                (case side1 => repeat (first | exact (Kd.R_reads' HO_727002.out).2.2 | (with_reducible refine Kd.C_alloc ?_ _) | (with_reducible refine Kd.C_drewN ?_ _) | (with_reducible refine Kd.C_drew ?_)))
                (case side2 => exact (Kd.R_reads' HO_727002.out).2.1)
                rintro e w107 ⟨rfl, hb⟩
                refine ⟨_, rfl, ?_⟩
                have n0_ := Aside0.mk (Kd.R_below (rq_ HO_721002.out) hb)
                have n1_ := Aside0.mk (Kd.R_below (rq_ HO_727002.out) hb)
                have n2_ := Aside0.mk (bb_ BK720.out hb)
                have n3_ := Aside0.mk (bb_ BK726.out hb)
                have n4_ := Aside0.mk (below_step (hb_ HB.out) hb)
                clear HO_721002; clear HO_727002
                clear BK720; clear BK726
                clear HB
                have HO_721002 := n0_
                have HO_727002 := n1_
                have BK720 := n2_
                have BK726 := n3_
                have HB := n4_
                clear n0_ n1_ n2_ n3_ n4_
                (try clear hb)
                (try clear hb2)
                (try clear hk)
                (try clear hi)
                refine hK.out _ _ ⟨bc_ BK726 0, bc_ BK726 1, bc_ BK726 2, bc_ BK720 0, bc_ BK720 1, bc_ BK720 2⟩ (fun hHeld => ?_)
                clear hK K
                refine nm_ ?_
                refine pI_ 2 108 HT_ laws_FnPacked.m31 rfl rfl ?_
                refine pI_ 3 109 HT_ laws_FnPacked.m32 rfl rfl ?_
                refine pI_ 5 111 HT_ laws_FnPacked.m33 rfl rfl ?_
                refine tk_ 4 110 HT_ HW_ laws_FnPacked.m34 rfl rfl hHeld ?_
                refine tk_ 6 112 HT_ HW_ laws_FnPacked.m35 rfl rfl hHeld ?_
                refine pI_ 7 113 HT_ laws_FnPacked.m36 rfl rfl ?_
                refine pI_ 8 114 HT_ laws_FnPacked.m37 rfl rfl ?_
                refine pI_ 9 115 HT_ laws_FnPacked.m38 rfl rfl ?_
                refine pI_ 10 116 HT_ laws_FnPacked.m39 rfl rfl ?_
                refine pI_ 12 118 HT_ laws_FnPacked.m40 rfl rfl ?_
                refine tk_ 11 117 HT_ HW_ laws_FnPacked.m41 rfl rfl hHeld ?_
                refine tk_ 13 119 HT_ HW_ laws_FnPacked.m42 rfl rfl hHeld ?_
                refine pI_ 14 120 HT_ laws_FnPacked.m43 rfl rfl ?_
                refine pI_ 15 121 HT_ laws_FnPacked.m44 rfl rfl ?_
                refine pI_ 16 122 HT_ laws_FnPacked.m45 rfl rfl ?_
                refine pI_ 18 124 HT_ #[true, true, true, true, true, true, true, true, true, true, true, true, true, true, true, true, true, false, true, false, false, false, false, false] rfl rfl ?_
                refine tk_ 17 123 HT_ HW_ laws_FnPacked.m46 rfl rfl hHeld ?_
                refine tk_ 20 126 HT_ HW_ #[true, true, true, true, true, true, true, true, true, true, true, true, true, true, true, true, true, true, true, false, true, false, false, false] rfl rfl hHeld ?_
                refine on_ 19 125 HT_ laws_FnPacked.m47 rfl rfl (fun K hK => ?_)
                refine goes_ Try.func50 (by kernel_rfl) rfl #[.agg #[.int .i64 t721, .int .i64 t722, .slice Ao18 t723.length co18], .int .i64 t719] (by rfl) rfl rfl sm_ ?_
                with_reducible refine (impl_RowPack.calls kj75 t721 t722 _ _ t723 t719 t761 t762 t763 _ ?side1 ?side2 A104.out).mono ?_
                (case side1 => repeat (first | exact (Kd.R_reads' HO_727002.out).2.2 | (with_reducible refine Kd.C_alloc ?_ _) | (with_reducible refine Kd.C_drewN ?_ _) | (with_reducible refine Kd.C_drew ?_)))
                (case side2 => exact (Kd.R_reads' HO_727002.out).2.1)
                rintro e w108 ⟨v764, rfl, ho0, hb⟩
                refine ⟨_, rfl, ?_⟩
                have n0_ := Aside0.mk (Kd.R_elder' (rq_ HO_721002.out) (Kd.R_base ho0) hb)
                have n1_ := Aside0.mk (Kd.R_elder' (rq_ HO_727002.out) (Kd.R_base ho0) hb)
                have n2_ := Aside0.mk (Kd.R_lower (Kd.R_new' (Kd.R_new' ho0 (Kd.R_lt (rq_ HO_721002.out))) (Kd.R_lt (rq_ HO_727002.out))) (below_size (hb_ HB.out)))
                have n3_ := Aside0.mk (bb_ BK720.out hb)
                have n4_ := Aside0.mk (bb_ BK726.out hb)
                have n5_ := Aside0.mk (below_step (hb_ HB.out) hb)
                clear HO_721002; clear HO_727002
                clear BK720; clear BK726
                clear HB
                have HO_721002 := n0_
                have HO_727002 := n1_
                have HO765 := n2_
                have BK720 := n3_
                have BK726 := n4_
                have HB := n5_
                clear n0_ n1_ n2_ n3_ n4_ n5_
                (try clear hb)
                (try clear hb2)
                (try clear hk)
                (try clear hi)
                (try clear ho0)
                obtain ⟨Ao109, co109, eo109⟩ := Kd.R_slice HO765.out
                (first | subst eo109 | (injection eo109 with f1_ f2_ f3_; have f4_ := f1_.symm; have f5_ := f3_.symm; clear f1_ f2_ f3_; subst f4_; subst f5_))
                refine hK.out _ _ ⟨bc_ BK726 0, bc_ BK726 1, bc_ BK726 2, bc_ BK720 0, bc_ BK720 1, bc_ BK720 2⟩ (fun hHeld => ?_)
                clear hK K
                refine nm_ ?_
                refine on_ 21 127 HT_ laws_FnPacked.m48 rfl rfl (fun K hK => ?_)
                refine goes_ Try.func33 (by kernel_rfl) rfl #[.agg #[.int .i64 t761, .int .i64 t762, .slice Ao109 t763.length co109], .agg #[.int .i64 t721, .int .i64 t722, .slice Ao18 t723.length co18]] (by rfl) rfl rfl sm_ ?_
                with_reducible refine (laws_sameRow.calls kj75 t761 t762 _ _ t763 t721 t722 _ _ t723 t766 _ ?side1 ?side2 ?side3 ?side4 A105.out).mono ?_
                (case side1 => repeat (first | exact (Kd.R_reads' HO765.out).2.2 | (with_reducible refine Kd.C_alloc ?_ _) | (with_reducible refine Kd.C_drewN ?_ _) | (with_reducible refine Kd.C_drew ?_)))
                (case side2 => exact (Kd.R_reads' HO765.out).2.1)
                (case side3 => repeat (first | exact (Kd.R_reads' HO_727002.out).2.2 | (with_reducible refine Kd.C_alloc ?_ _) | (with_reducible refine Kd.C_drewN ?_ _) | (with_reducible refine Kd.C_drew ?_)))
                (case side4 => exact (Kd.R_reads' HO_727002.out).2.1)
                rintro e w110 ⟨rfl, hb⟩
                refine ⟨_, rfl, ?_⟩
                have n0_ := Aside0.mk (Kd.R_below (rq_ HO_721002.out) hb)
                have n1_ := Aside0.mk (Kd.R_below (rq_ HO_727002.out) hb)
                have n2_ := Aside0.mk (Kd.R_below (rq_ HO765.out) hb)
                have n3_ := Aside0.mk (bb_ BK720.out hb)
                have n4_ := Aside0.mk (bb_ BK726.out hb)
                have n5_ := Aside0.mk (below_step (hb_ HB.out) hb)
                clear HO_721002; clear HO_727002
                clear HO765; clear BK720
                clear BK726; clear HB
                have HO_721002 := n0_
                have HO_727002 := n1_
                have HO765 := n2_
                have BK720 := n3_
                have BK726 := n4_
                have HB := n5_
                clear n0_ n1_ n2_ n3_ n4_ n5_
                (try clear hb)
                (try clear hb2)
                (try clear hk)
                (try clear hi)
                refine hK.out _ _ ⟨bc_ BK726 0, bc_ BK726 1, bc_ BK726 2, bc_ BK720 0, bc_ BK720 1, bc_ BK720 2⟩ (fun hHeld => ?_)
                clear hK K
                refine nm_ ?_
                refine pI_ 22 128 HT_ laws_FnPacked.m49 rfl rfl ?_
                refine pI_ 23 2 HT_ laws_FnPacked.m50 rfl rfl ?_
                refine done_ (done_of HT_.out (by kernel_rfl)) ?_
                try go_wp2
                go_ret
                exact ⟨er_, hb_ HB.out⟩
               ·
                rw [if_neg c103] at H
                have c103b0 : (t722 == t715) = false := beq_eq_false_iff_ne.mpr c103
                have c103b1 : (t722 != t715) = true := bne_iff_ne.mpr c103
                obtain rfl := Option.some.inj H
                try go_wp2
                have n0_ := Aside0.mk (Kd.R_drew HO_721002.out)
                have n1_ := Aside0.mk (Kd.R_drew HO_727002.out)
                have n2_ := Aside0.mk (blk_drew BK720.out)
                have n3_ := Aside0.mk (blk_drew BK726.out)
                have n4_ := Aside0.mk (below_drew1 HB.out)
                clear HO_721002; clear HO_727002
                clear BK720; clear BK726
                clear HB
                have HO_721002 := n0_
                have HO_727002 := n1_
                have BK720 := n2_
                have BK726 := n3_
                have HB := n4_
                clear n0_ n1_ n2_ n3_ n4_
                refine start_ (n := 24) (S := fun w' => w'.cell? ⟨gb726, 0, none⟩ = some (.int .i64 t721) ∧ w'.cell? ⟨gb726, 1, none⟩ = some (.int .i64 t722) ∧ w'.cell? ⟨gb726, 2, none⟩ = some (.slice Ao18 t723.length co18) ∧ w'.cell? ⟨gb720, 0, none⟩ = some (.int .i64 t714) ∧ w'.cell? ⟨gb720, 1, none⟩ = some (.int .i64 t715) ∧ w'.cell? ⟨gb720, 2, none⟩ = some (.slice Ao13 t716.length co13)) (ds := []) laws_FnPacked.m28 (by kernel_rfl) rfl rfl ⟨bc_ BK726 0, bc_ BK726 1, bc_ BK726 2, bc_ BK720 0, bc_ BK720 1, bc_ BK720 2⟩ (fun hHeld => ?_); refine with_tabW laws_FnPacked.tab22 laws_FnPacked.bits22 (fun HT_ HW_ => ?_)
                generalize wc.drew = w111 at HO_721002 HO_727002 BK720 BK726 HB hHeld ⊢
                refine tk_ 0 106 HT_ HW_ laws_FnPacked.m29 rfl rfl hHeld ?_
                refine on_ 1 107 HT_ laws_FnPacked.m30 rfl rfl (fun K hK => ?_)
                refine goes_ Try.func35 (by kernel_rfl) rfl #[.agg #[.int .i64 t721, .int .i64 t722, .slice Ao18 t723.length co18]] (by rfl) rfl rfl sm_ ?_
                with_reducible refine (impl_RowOk.calls kj75 t721 t722 _ _ t723 true _ ?side1 ?side2 A100.out).mono ?_
                (case side1 => repeat (first | exact (Kd.R_reads' HO_727002.out).2.2 | (with_reducible refine Kd.C_alloc ?_ _) | (with_reducible refine Kd.C_drewN ?_ _) | (with_reducible refine Kd.C_drew ?_)))
                (case side2 => exact (Kd.R_reads' HO_727002.out).2.1)
                rintro e w112 ⟨rfl, hb⟩
                refine ⟨_, rfl, ?_⟩
                have n0_ := Aside0.mk (Kd.R_below (rq_ HO_721002.out) hb)
                have n1_ := Aside0.mk (Kd.R_below (rq_ HO_727002.out) hb)
                have n2_ := Aside0.mk (bb_ BK720.out hb)
                have n3_ := Aside0.mk (bb_ BK726.out hb)
                have n4_ := Aside0.mk (below_step (hb_ HB.out) hb)
                clear HO_721002; clear HO_727002
                clear BK720; clear BK726
                clear HB
                have HO_721002 := n0_
                have HO_727002 := n1_
                have BK720 := n2_
                have BK726 := n3_
                have HB := n4_
                clear n0_ n1_ n2_ n3_ n4_
                (try clear hb)
                (try clear hb2)
                (try clear hk)
                (try clear hi)
                refine hK.out _ _ ⟨bc_ BK726 0, bc_ BK726 1, bc_ BK726 2, bc_ BK720 0, bc_ BK720 1, bc_ BK720 2⟩ (fun hHeld => ?_)
                clear hK K
                refine nm_ ?_
                refine pI_ 2 108 HT_ laws_FnPacked.m31 rfl rfl ?_
                refine pI_ 3 109 HT_ laws_FnPacked.m32 rfl rfl ?_
                refine pI_ 5 111 HT_ laws_FnPacked.m33 rfl rfl ?_
                refine tk_ 4 110 HT_ HW_ laws_FnPacked.m34 rfl rfl hHeld ?_
                refine tk_ 6 112 HT_ HW_ laws_FnPacked.m35 rfl rfl hHeld ?_
                refine pI_ 7 113 HT_ laws_FnPacked.m36 rfl rfl ?_
                refine pI_ 8 114 HT_ laws_FnPacked.m37 rfl rfl ?_
                refine pI_ 9 115 HT_ laws_FnPacked.m38 rfl rfl ?_
                refine pI_ 10 116 HT_ laws_FnPacked.m39 rfl rfl ?_
                refine pI_ 12 118 HT_ laws_FnPacked.m40 rfl rfl ?_
                refine tk_ 11 117 HT_ HW_ laws_FnPacked.m41 rfl rfl hHeld ?_
                refine tk_ 13 119 HT_ HW_ laws_FnPacked.m42 rfl rfl hHeld ?_
                refine pI_ 14 120 HT_ laws_FnPacked.m43 rfl rfl ?_
                refine pI_ 15 121 HT_ laws_FnPacked.m44 rfl rfl ?_
                refine pI_ 16 122 HT_ laws_FnPacked.m45 rfl rfl ?_
                refine pU_ 17 123 HT_ laws_FnPacked.m51 rfl rfl ?_
                refine pU_ 18 124 HT_ laws_FnPacked.m46 rfl rfl ?_
                refine pU_ 19 125 HT_ laws_FnPacked.m52 rfl rfl ?_
                refine pU_ 20 126 HT_ laws_FnPacked.m47 rfl rfl ?_
                refine pU_ 21 127 HT_ laws_FnPacked.m48 rfl rfl ?_
                refine pI_ 22 128 HT_ laws_FnPacked.m49 rfl rfl ?_
                refine pI_ 23 2 HT_ laws_FnPacked.m50 rfl rfl ?_
                refine done_ (done_of HT_.out (by kernel_rfl)) ?_
                try go_wp2
                go_ret
                exact ⟨er_, hb_ HB.out⟩
              ·
               rw [if_neg c102] at H
               have c102b0 : (t721 == t714) = false := beq_eq_false_iff_ne.mpr c102
               have c102b1 : (t721 != t714) = true := bne_iff_ne.mpr c102
               obtain rfl := Option.some.inj H
               try go_wp2
               have n0_ := Aside0.mk (Kd.R_drew HO_721002.out)
               have n1_ := Aside0.mk (Kd.R_drew HO_727002.out)
               have n2_ := Aside0.mk (blk_drew BK720.out)
               have n3_ := Aside0.mk (blk_drew BK726.out)
               have n4_ := Aside0.mk (below_drew1 HB.out)
               clear HO_721002; clear HO_727002
               clear BK720; clear BK726
               clear HB
               have HO_721002 := n0_
               have HO_727002 := n1_
               have BK720 := n2_
               have BK726 := n3_
               have HB := n4_
               clear n0_ n1_ n2_ n3_ n4_
               refine start_ (n := 24) (S := fun w' => w'.cell? ⟨gb726, 0, none⟩ = some (.int .i64 t721) ∧ w'.cell? ⟨gb726, 1, none⟩ = some (.int .i64 t722) ∧ w'.cell? ⟨gb726, 2, none⟩ = some (.slice Ao18 t723.length co18) ∧ w'.cell? ⟨gb720, 0, none⟩ = some (.int .i64 t714) ∧ w'.cell? ⟨gb720, 1, none⟩ = some (.int .i64 t715) ∧ w'.cell? ⟨gb720, 2, none⟩ = some (.slice Ao13 t716.length co13)) (ds := []) laws_FnPacked.m28 (by kernel_rfl) rfl rfl ⟨bc_ BK726 0, bc_ BK726 1, bc_ BK726 2, bc_ BK720 0, bc_ BK720 1, bc_ BK720 2⟩ (fun hHeld => ?_); refine with_tabW laws_FnPacked.tab22 laws_FnPacked.bits22 (fun HT_ HW_ => ?_)
               generalize wc.drew = w113 at HO_721002 HO_727002 BK720 BK726 HB hHeld ⊢
               refine tk_ 0 106 HT_ HW_ laws_FnPacked.m29 rfl rfl hHeld ?_
               refine on_ 1 107 HT_ laws_FnPacked.m30 rfl rfl (fun K hK => ?_)
               refine goes_ Try.func35 (by kernel_rfl) rfl #[.agg #[.int .i64 t721, .int .i64 t722, .slice Ao18 t723.length co18]] (by rfl) rfl rfl sm_ ?_
               with_reducible refine (impl_RowOk.calls kj75 t721 t722 _ _ t723 true _ ?side1 ?side2 A100.out).mono ?_
               (case side1 => repeat (first | exact (Kd.R_reads' HO_727002.out).2.2 | (with_reducible refine Kd.C_alloc ?_ _) | (with_reducible refine Kd.C_drewN ?_ _) | (with_reducible refine Kd.C_drew ?_)))
               (case side2 => exact (Kd.R_reads' HO_727002.out).2.1)
               rintro e w114 ⟨rfl, hb⟩
               refine ⟨_, rfl, ?_⟩
               have n0_ := Aside0.mk (Kd.R_below (rq_ HO_721002.out) hb)
               have n1_ := Aside0.mk (Kd.R_below (rq_ HO_727002.out) hb)
               have n2_ := Aside0.mk (bb_ BK720.out hb)
               have n3_ := Aside0.mk (bb_ BK726.out hb)
               have n4_ := Aside0.mk (below_step (hb_ HB.out) hb)
               clear HO_721002; clear HO_727002
               clear BK720; clear BK726
               clear HB
               have HO_721002 := n0_
               have HO_727002 := n1_
               have BK720 := n2_
               have BK726 := n3_
               have HB := n4_
               clear n0_ n1_ n2_ n3_ n4_
               (try clear hb)
               (try clear hb2)
               (try clear hk)
               (try clear hi)
               refine hK.out _ _ ⟨bc_ BK726 0, bc_ BK726 1, bc_ BK726 2, bc_ BK720 0, bc_ BK720 1, bc_ BK720 2⟩ (fun hHeld => ?_)
               clear hK K
               refine nm_ ?_
               refine pI_ 2 108 HT_ laws_FnPacked.m31 rfl rfl ?_
               refine pI_ 3 109 HT_ laws_FnPacked.m32 rfl rfl ?_
               refine pI_ 5 111 HT_ laws_FnPacked.m33 rfl rfl ?_
               refine tk_ 4 110 HT_ HW_ laws_FnPacked.m34 rfl rfl hHeld ?_
               refine tk_ 6 112 HT_ HW_ laws_FnPacked.m35 rfl rfl hHeld ?_
               refine pI_ 7 113 HT_ laws_FnPacked.m36 rfl rfl ?_
               refine pI_ 8 114 HT_ laws_FnPacked.m37 rfl rfl ?_
               refine pI_ 9 115 HT_ laws_FnPacked.m38 rfl rfl ?_
               refine pU_ 10 116 HT_ laws_FnPacked.m39 rfl rfl ?_
               refine pU_ 11 117 HT_ laws_FnPacked.m53 rfl rfl ?_
               refine pU_ 12 118 HT_ laws_FnPacked.m41 rfl rfl ?_
               refine pU_ 13 119 HT_ laws_FnPacked.m42 rfl rfl ?_
               refine pU_ 14 120 HT_ laws_FnPacked.m43 rfl rfl ?_
               refine pI_ 15 121 HT_ laws_FnPacked.m44 rfl rfl ?_
               refine pI_ 16 122 HT_ laws_FnPacked.m45 rfl rfl ?_
               refine pU_ 17 123 HT_ laws_FnPacked.m51 rfl rfl ?_
               refine pU_ 18 124 HT_ laws_FnPacked.m46 rfl rfl ?_
               refine pU_ 19 125 HT_ laws_FnPacked.m52 rfl rfl ?_
               refine pU_ 20 126 HT_ laws_FnPacked.m47 rfl rfl ?_
               refine pU_ 21 127 HT_ laws_FnPacked.m48 rfl rfl ?_
               refine pI_ 22 128 HT_ laws_FnPacked.m49 rfl rfl ?_
               refine pI_ 23 2 HT_ laws_FnPacked.m50 rfl rfl ?_
               refine done_ (done_of HT_.out (by kernel_rfl)) ?_
               try go_wp2
               go_ret
               exact ⟨er_, hb_ HB.out⟩
             ·
              replace c101 := Bool.eq_false_iff.mpr c101
              subst c101
              have H1 : (some false) = some r := by rw [if_neg (show ¬ (false = true) by decide)] at H; exact H
              clear H
              have H := H1
              clear H1
              obtain rfl := Option.some.inj H
              try go_wp2
              have n0_ := Aside0.mk (Kd.R_drew HO_721002.out)
              have n1_ := Aside0.mk (Kd.R_drew HO_727002.out)
              have n2_ := Aside0.mk (blk_drew BK720.out)
              have n3_ := Aside0.mk (blk_drew BK726.out)
              have n4_ := Aside0.mk (below_drew1 HB.out)
              clear HO_721002; clear HO_727002
              clear BK720; clear BK726
              clear HB
              have HO_721002 := n0_
              have HO_727002 := n1_
              have BK720 := n2_
              have BK726 := n3_
              have HB := n4_
              clear n0_ n1_ n2_ n3_ n4_
              refine start_ (n := 24) (S := fun w' => w'.cell? ⟨gb726, 0, none⟩ = some (.int .i64 t721) ∧ w'.cell? ⟨gb726, 1, none⟩ = some (.int .i64 t722) ∧ w'.cell? ⟨gb726, 2, none⟩ = some (.slice Ao18 t723.length co18)) (ds := []) laws_FnPacked.m28 (by kernel_rfl) rfl rfl ⟨bc_ BK726 0, bc_ BK726 1, bc_ BK726 2⟩ (fun hHeld => ?_); refine with_tabW laws_FnPacked.tab22 laws_FnPacked.bits22 (fun HT_ HW_ => ?_)
              generalize wc.drew = w115 at HO_721002 HO_727002 BK720 BK726 HB hHeld ⊢
              refine tk_ 0 106 HT_ HW_ laws_FnPacked.m29 rfl rfl hHeld ?_
              refine on_ 1 107 HT_ laws_FnPacked.m30 rfl rfl (fun K hK => ?_)
              refine goes_ Try.func35 (by kernel_rfl) rfl #[.agg #[.int .i64 t721, .int .i64 t722, .slice Ao18 t723.length co18]] (by rfl) rfl rfl sm_ ?_
              with_reducible refine (impl_RowOk.calls kj75 t721 t722 _ _ t723 false _ ?side1 ?side2 A100.out).mono ?_
              (case side1 => repeat (first | exact (Kd.R_reads' HO_727002.out).2.2 | (with_reducible refine Kd.C_alloc ?_ _) | (with_reducible refine Kd.C_drewN ?_ _) | (with_reducible refine Kd.C_drew ?_)))
              (case side2 => exact (Kd.R_reads' HO_727002.out).2.1)
              rintro e w116 ⟨rfl, hb⟩
              refine ⟨_, rfl, ?_⟩
              have n0_ := Aside0.mk (Kd.R_below (rq_ HO_721002.out) hb)
              have n1_ := Aside0.mk (Kd.R_below (rq_ HO_727002.out) hb)
              have n2_ := Aside0.mk (bb_ BK720.out hb)
              have n3_ := Aside0.mk (bb_ BK726.out hb)
              have n4_ := Aside0.mk (below_step (hb_ HB.out) hb)
              clear HO_721002; clear HO_727002
              clear BK720; clear BK726
              clear HB
              have HO_721002 := n0_
              have HO_727002 := n1_
              have BK720 := n2_
              have BK726 := n3_
              have HB := n4_
              clear n0_ n1_ n2_ n3_ n4_
              (try clear hb)
              (try clear hb2)
              (try clear hk)
              (try clear hi)
              refine hK.out _ _ ⟨bc_ BK726 0, bc_ BK726 1, bc_ BK726 2⟩ (fun hHeld => ?_)
              clear hK K
              refine nm_ ?_
              refine pI_ 2 108 HT_ laws_FnPacked.m31 rfl rfl ?_
              refine pU_ 3 109 HT_ laws_FnPacked.m32 rfl rfl ?_
              refine pU_ 4 110 HT_ #[true, true, true, true, true, false, false, false, false, false, false, false, false, false, false, false, false, false, false, false, false, false, false, false] rfl rfl ?_
              refine pU_ 5 111 HT_ laws_FnPacked.m34 rfl rfl ?_
              refine pU_ 6 112 HT_ laws_FnPacked.m35 rfl rfl ?_
              refine pU_ 7 113 HT_ laws_FnPacked.m36 rfl rfl ?_
              refine pI_ 8 114 HT_ laws_FnPacked.m37 rfl rfl ?_
              refine pI_ 9 115 HT_ laws_FnPacked.m38 rfl rfl ?_
              refine pU_ 10 116 HT_ laws_FnPacked.m39 rfl rfl ?_
              refine pU_ 11 117 HT_ laws_FnPacked.m53 rfl rfl ?_
              refine pU_ 12 118 HT_ laws_FnPacked.m41 rfl rfl ?_
              refine pU_ 13 119 HT_ laws_FnPacked.m42 rfl rfl ?_
              refine pU_ 14 120 HT_ laws_FnPacked.m43 rfl rfl ?_
              refine pI_ 15 121 HT_ laws_FnPacked.m44 rfl rfl ?_
              refine pI_ 16 122 HT_ laws_FnPacked.m45 rfl rfl ?_
              refine pU_ 17 123 HT_ laws_FnPacked.m51 rfl rfl ?_
              refine pU_ 18 124 HT_ laws_FnPacked.m46 rfl rfl ?_
              refine pU_ 19 125 HT_ laws_FnPacked.m52 rfl rfl ?_
              refine pU_ 20 126 HT_ laws_FnPacked.m47 rfl rfl ?_
              refine pU_ 21 127 HT_ laws_FnPacked.m48 rfl rfl ?_
              refine pI_ 22 128 HT_ laws_FnPacked.m49 rfl rfl ?_
              refine pI_ 23 2 HT_ laws_FnPacked.m50 rfl rfl ?_
              refine done_ (done_of HT_.out (by kernel_rfl)) ?_
              try go_wp2
              go_ret
              exact ⟨er_, hb_ HB.out⟩

/-- THE ONE PURE STATEMENT of laws_FnPacked: yours. -/
def laws_FnPacked.Pure : Prop := ∀ (l0 : List Int), l0.length ≤ maxLen → l0.length * 1 ≤ 140737488351232 → (∀ x ∈ l0, (Lit.int .u8 x).wf = true) → ∃ k, laws_FnPacked.f k l0 = some true
theorem laws_FnPacked.walk (P : laws_FnPacked.Pure) (a0 : Option Addr) (len0 cap0 : Nat) (z0 : List Int) (w : World) (w0 : (a0 = none ∧ len0 = 0 ∧ cap0 = 0 ∧ z0 = []) ∨ ∃ x, a0 = some x ∧ len0 ≤ cap0 ∧ cap0 ≤ maxLen ∧ z0.length = cap0 ∧ (∀ i, i < z0.length → w.cell? (x.add i) = some (.int .u8 (z0.getD i 0))) ∧ ∀ n ∈ z0, (Lit.int .u8 n).wf = true) (y0 : len0 * 1 ≤ 140737488351232) :
 Calls Try.prog 13 #[.slice a0 len0 cap0] w fun e w' => e = .returned (.bool true) ∧ Below w.heap.size w w' := by
 obtain ⟨l0, rfl, hr0, hm0, hw0, hc0⟩ := ReadsInt.ofRowC w0
 obtain ⟨k, h⟩ := P l0 hm0 y0 hw0
 refine (laws_FnPacked.calls k _ _ l0 true w (Kd.C_of_reads (d := (0 : Int)) (h1 := fun _ => rfl) hr0) hc0 h).mono ?_
 rintro e w' ⟨rfl, hd⟩
 exact ⟨rfl, hd⟩
end
end Go.Proofs.Ythkepjgolaichaa.Q
