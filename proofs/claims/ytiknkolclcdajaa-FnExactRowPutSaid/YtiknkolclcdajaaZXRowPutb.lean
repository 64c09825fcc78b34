/- Made by a program of ours out of the print of the loaded functions: for each of some functions a plain function, and the walk that shows that a call comes to what it says. No condition but those of each theorem. -/
import Derived.Test.YtiknkolclcdajaaZXRowPut0
import Derived.Test.YtiknkolclcdajaaZXRowPuta
namespace Go.Proofs.Ytiknkolclcdajaa.Q
open Go.RowKit Go.Proofs.YtiknkolclcdajaaW.PrintWords Go.Proofs.YtiknkolclcdajaaW.PrintLast Go.Proofs.YtiknkolclcdajaaW.PrintMore
attribute [local go_sem] max2_int min2_int max_two min_two max_three min_three max_four min_four   -- for this text's walks alone
set_option linter.unusedVariables false
set_option linter.unusedSimpArgs false

/-! ### laws_markRow: function 34 -/
def laws_markRow.f (k : Nat) (a0_0 : Int) (a0_1 : Int) (l0_2 : List (S_Item)) (a1 : Int) : Option (Int × (List (S_Item))) := (laws_markItemS.f k l0_2 a1).bind fun bt922 => (some (bt922.1, bt922.2))
theorem laws_markRow.mono : ∀ a0 a1 a2 a3 k, LeO (laws_markRow.f k a0 a1 a2 a3) (laws_markRow.f (k + 1) a0 a1 a2 a3) := by
 intro a0 a1 a2 a3 k
 unfold laws_markRow.f
 repeat' first
  | (with_reducible exact laws_markItemS.mono _ _ _)
  | (with_reducible exact LeO.refl _)
  | (with_reducible exact LeO.none _)
  | (with_reducible refine LeO.ite ?_ ?_)
  | (with_reducible refine LeO.bind ?_ (fun _ => ?_))
  | exact laws_markItemS.mono _ _ _
  | exact LeO.none _
  | refine LeO.ite ?_ ?_
  | refine LeO.bind ?_ (fun _ => ?_)
set_option maxHeartbeats 8000000 in
set_option maxRecDepth 100000 in
theorem laws_markRow.calls (k : Nat) (a0_0 : Int) (a0_1 : Int) (P0_2_ : Nat → Prop) (u9000_ : Value) (l0_2 : List (S_Item)) (a1 : Int) (r1 : Int) (r2 : List (S_Item)) (w0 w : World) (hB : Below w0.heap.size w0 w) (ho0_2 : Kd.R k_Item 69 w w0.heap.size P0_2_ u9000_ l0_2) (h : laws_markRow.f k a0_0 a0_1 l0_2 a1 = some (r1, r2)) :
 Calls Try.prog 34 #[.agg #[.int .i64 a0_0, .int .i64 a0_1, u9000_], .int .i64 a1] w fun e w' => e = .returned (.int .i64 r1) ∧ Kd.R k_Item 69 w' w0.heap.size (fun k_ => (P0_2_ k_ ∨ w.heap.size ≤ k_)) u9000_ r2 ∧ Below w0.heap.size w0 w' ∧ Kept w w' (fun k_ => P0_2_ k_) := by
 have hu57 := Try.underlying57
 have HO0_2 := Aside0.mk (show Kd.R k_Item 69 w w0.heap.size (fun k_ => (P0_2_ k_ ∨ w.heap.size ≤ k_)) u9000_ l0_2 from Kd.R_mono ho0_2 (fun k_ hk => (.inl hk)))
 have HK := Aside0.mk (Kept.refl w (fun k_ => P0_2_ k_))
 have HW0 := Aside0.mk hB.size
 have HB := Aside0.mk hB
 clear hB
 have H : ((laws_markItemS.f k l0_2 a1).bind fun bt922 => (some (bt922.1, bt922.2))) = some (r1, r2) := h
 clear h
 replace H := Option.bind_eq_some_iff.mp H
 obtain ⟨⟨t922, t923⟩, A30, H⟩ := H
 replace H : (some (t922, t923)) = some (r1, r2) := H
 have A3 := Aside0.mk A30
 clear A30
 simp only [Option.some.injEq, Prod.mk.injEq] at H
 obtain ⟨rfl, rfl⟩ := H
 obtain ⟨Ao4, co4, eo4⟩ := Kd.R_slice HO0_2.out
 subst eo4
 go_enter Try.func34, Try.ntmps34
 go_wp2_with (first | ((with_reducible refine gate_dst (N := 2) rfl ?_); refine box_event ?hg (N := 2) ?hd (cs := #[.int .i64 a0_0, .int .i64 a0_1, .slice Ao4 l0_2.length co4]) (t := 57) ?hr ?_; (case hd => rfl); (case hg => rfl); (case hr => first | (go_simp; done) | (go_simp; rfl)); intro gb921 hg w5 hbox hb; have n0_ := Aside0.mk (Kd.R_below (rq_ HO0_2.out) hb); have n1_ := Aside0.mk (Kept.below (S := (fun k_ => P0_2_ k_)) (by repeat (first | (with_reducible first | exact HK.out | apply Kept.alloc | apply Kept.drewN | apply Kept.drew) | exact HK.out)) hb); have n2_ := Aside0.mk (below_step (hb_ HB.out) hb); have n3_ := Aside0.mk (hbox); have n4_ := Aside0.mk ((by rw [hg]; exact (by first | exact HK.out.1 | exact (show Kept w _ (fun k_ => P0_2_ k_) from by repeat (first | (with_reducible first | exact HK.out | apply Kept.alloc | apply Kept.drewN | apply Kept.drew) | exact HK.out)).1) : w.heap.size ≤ gb921)); have n5_ := Aside0.mk ((by rw [hg]; exact (below_size (hb_ HB.out)) : w0.heap.size ≤ gb921)); clear HO0_2; clear HK; clear HB; have HO0_2 := n0_; have HK := n1_; have HB := n2_; have BK921 := n3_; have GW921 := n4_; have GE921 := n5_; clear n0_ n1_ n2_ n3_ n4_ n5_; clear hb hbox hg; have hcz6_0 : w5.cell? ⟨gb921, 0, none⟩ = some (.int .i64 a0_0) := (blk_cell BK921.out 0).trans rfl; have hcz6_1 : w5.cell? ⟨gb921, 1, none⟩ = some (.int .i64 a0_1) := (blk_cell BK921.out 1).trans rfl; have hcz6_2 : w5.cell? ⟨gb921, 2, none⟩ = some (.slice Ao4 l0_2.length co4) := (blk_cell BK921.out 2).trans rfl; have hfz6_0 := blk_frozen BK921.out 0; have hfz6_1 := blk_frozen BK921.out 1; have hfz6_2 := blk_frozen BK921.out 2) | ((with_reducible refine gate_callee (f := 99) rfl ?_); refine goesL_ (some 8) rfl rfl Try.func99 (by kernel_rfl) rfl #[.slice Ao4 l0_2.length co4, .int .i64 a1] rfl sm_ ?_; (with_reducible refine (laws_markItemS.calls k (fun k_ => some k_ = (.slice Ao4 l0_2.length co4 : Value).ownBlock) (.slice Ao4 l0_2.length co4) l0_2 a1 t922 t923 w0 _ ?side1 ?side2 A3.out).mono ?_); (case side1 => repeat (first | (with_reducible first | exact HB.out | apply below_alloc | apply pw_below_drewN | apply below_drew1 | refine below_set ?_ GE921.out) | exact HB.out)); (case side2 => exact Kd.R_tight rfl HO0_2.out); rintro e w7 ⟨rfl, hy0, hb, hkp⟩; refine ⟨_, rfl, ?_⟩; have n0_ := Aside0.mk (Kd.R_reok rfl hy0 (fun k_ e_ => HO0_2.out.1 k_ e_)); have n1_ := Aside0.mk (blk_kept (bq_ BK921.out) hkp (fun hs_ => (fun e_ => (Kd.R_ne HO0_2.out BK921.out (by decide)) e_) hs_)); have n2_ := Aside0.mk (Kept.then_ (S := (fun k_ => P0_2_ k_)) (by repeat (first | (with_reducible first | exact HK.out | apply Kept.alloc | apply Kept.drewN | apply Kept.drew | refine Kept.setCell ?_ (.inr GW921.out) _) | exact HK.out)) hkp (fun k_ hs_ => (fun e_ => (HO0_2.out.1 k_ e_.symm)) hs_)); have n3_ := Aside0.mk (hb); clear HO0_2; clear BK921; clear HK; clear HB; have HO0_2 := n0_; have BK921 := n1_; have HK := n2_; have HB := n3_; clear n0_ n1_ n2_ n3_; (try clear hb); (try clear hkp); (try clear hy0)))
 go_ret
 exact ⟨by first | rfl | (simp [errW_none, errW_some] <;> rfl) | (simp [*, errW_none, errW_some] <;> rfl), by (with_reducible repeat (first | apply Kd.R_alloc | apply Kd.R_drewN | apply Kd.R_drew)); exact HO0_2.out, by repeat (first | (with_reducible first | exact HB.out | apply below_alloc | apply pw_below_drewN | apply below_drew1 | refine below_set ?_ GE921.out) | exact HB.out), by repeat (first | (with_reducible first | exact HK.out | apply Kept.alloc | apply Kept.drewN | apply Kept.drew | refine Kept.setCell ?_ (.inr GW921.out) _) | exact HK.out)⟩

/-! ### laws_heldRow: function 35 -/
def laws_heldRow.f (k : Nat) (a0_0 : Int) (a0_1 : Int) (l0_2 : List (S_Item)) (a1 : Int) : Option (Int) := (laws_heldItemS.f k l0_2 a1).bind fun t925 => (if t925 < 0 then (some (-1)) else (some t925))
theorem laws_heldRow.mono : ∀ a0 a1 a2 a3 k, LeO (laws_heldRow.f k a0 a1 a2 a3) (laws_heldRow.f (k + 1) a0 a1 a2 a3) := by
 intro a0 a1 a2 a3 k
 unfold laws_heldRow.f
 repeat' first
  | (with_reducible exact laws_heldItemS.mono _ _ _)
  | (with_reducible exact LeO.refl _)
  | (with_reducible exact LeO.none _)
  | (with_reducible refine LeO.ite ?_ ?_)
  | (with_reducible refine LeO.bind ?_ (fun _ => ?_))
  | exact laws_heldItemS.mono _ _ _
  | exact LeO.none _
  | refine LeO.ite ?_ ?_
  | refine LeO.bind ?_ (fun _ => ?_)
set_option maxHeartbeats 8000000 in
set_option maxRecDepth 100000 in
theorem laws_heldRow.calls (k : Nat) (a0_0 : Int) (a0_1 : Int) (A0_2 : Option Addr) (c0_2 : Nat) (l0_2 : List (S_Item)) (a1 : Int) (r : Int) (w : World) (hr0_2 : Kd.C k_Item w A0_2 l0_2.length l0_2) (hc0_2 : l0_2.length ≤ c0_2) (h : laws_heldRow.f k a0_0 a0_1 l0_2 a1 = some r) :
 Calls Try.prog 35 #[.agg #[.int .i64 a0_0, .int .i64 a0_1, .slice A0_2 l0_2.length c0_2], .int .i64 a1] w fun e w' => e = .returned (.int .i64 r) ∧ Below w.heap.size w w' := by
 have hu57 := Try.underlying57
 have HR0_2 := Aside0.mk hr0_2
 have HC0_2 := Aside0.mk hc0_2
 clear hr0_2 hc0_2
 have HB := Aside0.mk (Below.refl w.heap.size w)
 have H : ((laws_heldItemS.f k l0_2 a1).bind fun t925 => (if t925 < 0 then (some (-1)) else (some t925))) = some r := h
 clear h
 replace H := Option.bind_eq_some_iff.mp H
 obtain ⟨t925, A30, H⟩ := H
 replace H : (if t925 < 0 then (some (-1)) else (some t925)) = some r := H
 have A3 := Aside0.mk A30
 clear A30
 by_cases c4 : t925 < 0
 ·
  rw [if_pos c4] at H
  have c4b0 : decide (t925 < 0) = true := decide_eq_true c4
  clear c4
  obtain rfl := Option.some.inj H
  go_enter Try.func35, Try.ntmps35
  go_wp2_with (first | ((with_reducible refine gate_dst (N := 2) rfl ?_); refine box_event ?hg (N := 2) ?hd (cs := #[.int .i64 a0_0, .int .i64 a0_1, .slice A0_2 l0_2.length c0_2]) (t := 57) ?hr ?_; (case hd => rfl); (case hg => rfl); (case hr => first | (go_simp; done) | (go_simp; rfl)); intro gb924 hg w5 hbox hb; have n0_ := Aside0.mk (below_step (hb_ HB.out) hb); have n1_ := Aside0.mk (hbox); have n2_ := Aside0.mk ((by rw [hg]; exact (below_size (hb_ HB.out)) : w.heap.size ≤ gb924)); have n3_ := Aside0.mk ((by rw [hg]; exact (below_size (hb_ HB.out)) : w.heap.size ≤ gb924)); clear HB; have HB := n0_; have BK924 := n1_; have GW924 := n2_; have GE924 := n3_; clear n0_ n1_ n2_ n3_; clear hb hbox hg; have hcz6_0 : w5.cell? ⟨gb924, 0, none⟩ = some (.int .i64 a0_0) := (blk_cell BK924.out 0).trans rfl; have hcz6_1 : w5.cell? ⟨gb924, 1, none⟩ = some (.int .i64 a0_1) := (blk_cell BK924.out 1).trans rfl; have hcz6_2 : w5.cell? ⟨gb924, 2, none⟩ = some (.slice A0_2 l0_2.length c0_2) := (blk_cell BK924.out 2).trans rfl; have hfz6_0 := blk_frozen BK924.out 0; have hfz6_1 := blk_frozen BK924.out 1; have hfz6_2 := blk_frozen BK924.out 2) | ((with_reducible refine gate_callee (f := 100) rfl ?_); refine goesL_ (some 8) rfl rfl Try.func100 (by kernel_rfl) rfl #[.slice A0_2 l0_2.length c0_2, .int .i64 a1] rfl sm_ ?_; (with_reducible refine (laws_heldItemS.calls k _ _ l0_2 a1 t925 _ ?side1 ?side2 A3.out).mono ?_); (case side1 => repeat (first | exact (Kd.C_below HR0_2.out HB.out) | (with_reducible refine Kd.C_alloc ?_ _) | (with_reducible refine Kd.C_drewN ?_ _) | (with_reducible refine Kd.C_drew ?_))); (case side2 => exact HC0_2.out); rintro e w7 ⟨rfl, hb⟩; refine ⟨_, rfl, ?_⟩; have n0_ := Aside0.mk (bb_ BK924.out hb); have n1_ := Aside0.mk (below_step (hb_ HB.out) hb); clear BK924; clear HB; have BK924 := n0_; have HB := n1_; clear n0_ n1_; (try clear hb); (try clear hb2); (try clear hk); (try clear hi)))
  go_ret
  exact ⟨by first | rfl | (simp [errW_none, errW_some] <;> rfl) | (simp [*, errW_none, errW_some] <;> rfl), hb_ HB.out⟩
 ·
  rw [if_neg c4] at H
  have c4b0 : decide (t925 < 0) = false := decide_eq_false c4
  clear c4
  obtain rfl := Option.some.inj H
  go_enter Try.func35, Try.ntmps35
  go_wp2_with (first | ((with_reducible refine gate_dst (N := 2) rfl ?_); refine box_event ?hg (N := 2) ?hd (cs := #[.int .i64 a0_0, .int .i64 a0_1, .slice A0_2 l0_2.length c0_2]) (t := 57) ?hr ?_; (case hd => rfl); (case hg => rfl); (case hr => first | (go_simp; done) | (go_simp; rfl)); intro gb924 hg w8 hbox hb; have n0_ := Aside0.mk (below_step (hb_ HB.out) hb); have n1_ := Aside0.mk (hbox); have n2_ := Aside0.mk ((by rw [hg]; exact (below_size (hb_ HB.out)) : w.heap.size ≤ gb924)); have n3_ := Aside0.mk ((by rw [hg]; exact (below_size (hb_ HB.out)) : w.heap.size ≤ gb924)); clear HB; have HB := n0_; have BK924 := n1_; have GW924 := n2_; have GE924 := n3_; clear n0_ n1_ n2_ n3_; clear hb hbox hg; have hcz9_0 : w8.cell? ⟨gb924, 0, none⟩ = some (.int .i64 a0_0) := (blk_cell BK924.out 0).trans rfl; have hcz9_1 : w8.cell? ⟨gb924, 1, none⟩ = some (.int .i64 a0_1) := (blk_cell BK924.out 1).trans rfl; have hcz9_2 : w8.cell? ⟨gb924, 2, none⟩ = some (.slice A0_2 l0_2.length c0_2) := (blk_cell BK924.out 2).trans rfl; have hfz9_0 := blk_frozen BK924.out 0; have hfz9_1 := blk_frozen BK924.out 1; have hfz9_2 := blk_frozen BK924.out 2) | ((with_reducible refine gate_callee (f := 100) rfl ?_); refine goesL_ (some 8) rfl rfl Try.func100 (by kernel_rfl) rfl #[.slice A0_2 l0_2.length c0_2, .int .i64 a1] rfl sm_ ?_; (with_reducible refine (laws_heldItemS.calls k _ _ l0_2 a1 t925 _ ?side1 ?side2 A3.out).mono ?_); (case side1 => repeat (first | exact (Kd.C_below HR0_2.out HB.out) | (with_reducible refine Kd.C_alloc ?_ _) | (with_reducible refine Kd.C_drewN ?_ _) | (with_reducible refine Kd.C_drew ?_))); (case side2 => exact HC0_2.out); rintro e w10 ⟨rfl, hb⟩; refine ⟨_, rfl, ?_⟩; have n0_ := Aside0.mk (bb_ BK924.out hb); have n1_ := Aside0.mk (below_step (hb_ HB.out) hb); clear BK924; clear HB; have BK924 := n0_; have HB := n1_; clear n0_ n1_; (try clear hb); (try clear hb2); (try clear hk); (try clear hi)))
  go_ret
  exact ⟨by first | rfl | (simp [errW_none, errW_some] <;> rfl) | (simp [*, errW_none, errW_some] <;> rfl), hb_ HB.out⟩

/-! ### spec_l3Item: function 107 -/
def spec_l3Item.f (k : Nat) (a0_0 : Int) (a0_1 : ByteArray) (a0_2 : ByteArray) (a0_3 : Int) (a0_4 : Int) : Option (Bool) := (spec_l2Text.f k a0_1).bind fun t927 => (if t927 = true then ((spec_l2Text.f k a0_2).bind fun t928 => (if t928 = true then ((spec_l1In.f a0_3 0 3).bind fun t929 => (if t929 = true then ((spec_l1In.f a0_4 0 100000).bind fun t930 => (some t930)) else (some false))) else (some false))) else (some false))
theorem spec_l3Item.mono : ∀ a0 a1 a2 a3 a4 k, LeO (spec_l3Item.f k a0 a1 a2 a3 a4) (spec_l3Item.f (k + 1) a0 a1 a2 a3 a4) := by
 intro a0 a1 a2 a3 a4 k
 unfold spec_l3Item.f
 repeat' first
  | (with_reducible exact spec_l2Text.mono _ _)
  | (with_reducible exact LeO.refl _)
  | (with_reducible exact LeO.none _)
  | (with_reducible refine LeO.ite ?_ ?_)
  | (with_reducible refine LeO.bind ?_ (fun _ => ?_))
  | exact spec_l2Text.mono _ _
  | exact LeO.none _
  | refine LeO.ite ?_ ?_
  | refine LeO.bind ?_ (fun _ => ?_)
set_option maxHeartbeats 8000000 in
set_option maxRecDepth 100000 in
theorem spec_l3Item.calls (k : Nat) (a0_0 : Int) (a0_1 : ByteArray) (a0_2 : ByteArray) (a0_3 : Int) (a0_4 : Int) (r : Bool) (w : World) (h : spec_l3Item.f k a0_0 a0_1 a0_2 a0_3 a0_4 = some r) :
 Calls Try.prog 107 #[.agg #[.int .i64 a0_0, .string a0_1, .string a0_2, .int .i64 a0_3, .int .i64 a0_4]] w fun e w' => e = .returned (.bool r) ∧ Below w.heap.size w w' := by
 have hu69 := Try.underlying69
 have HB := Aside0.mk (Below.refl w.heap.size w)
 have H : ((spec_l2Text.f k a0_1).bind fun t927 => (if t927 = true then ((spec_l2Text.f k a0_2).bind fun t928 => (if t928 = true then ((spec_l1In.f a0_3 0 3).bind fun t929 => (if t929 = true then ((spec_l1In.f a0_4 0 100000).bind fun t930 => (some t930)) else (some false))) else (some false))) else (some false))) = some r := h
 clear h
 replace H := Option.bind_eq_some_iff.mp H
 obtain ⟨t927, A20, H⟩ := H
 replace H : (if t927 = true then ((spec_l2Text.f k a0_2).bind fun t928 => (if t928 = true then ((spec_l1In.f a0_3 0 3).bind fun t929 => (if t929 = true then ((spec_l1In.f a0_4 0 100000).bind fun t930 => (some t930)) else (some false))) else (some false))) else (some false)) = some r := H
 have A2 := Aside0.mk A20
 clear A20
 by_cases c3 : t927 = true
 ·
  subst c3
  have H1 : ((spec_l2Text.f k a0_2).bind fun t928 => (if t928 = true then ((spec_l1In.f a0_3 0 3).bind fun t929 => (if t929 = true then ((spec_l1In.f a0_4 0 100000).bind fun t930 => (some t930)) else (some false))) else (some false))) = some r := by rw [if_pos rfl] at H; exact H
  clear H
  have H := H1
  clear H1
  replace H := Option.bind_eq_some_iff.mp H
  obtain ⟨t928, A40, H⟩ := H
  replace H : (if t928 = true then ((spec_l1In.f a0_3 0 3).bind fun t929 => (if t929 = true then ((spec_l1In.f a0_4 0 100000).bind fun t930 => (some t930)) else (some false))) else (some false)) = some r := H
  have A4 := Aside0.mk A40
  clear A40
  by_cases c5 : t928 = true
  ·
   subst c5
   have H1 : ((spec_l1In.f a0_3 0 3).bind fun t929 => (if t929 = true then ((spec_l1In.f a0_4 0 100000).bind fun t930 => (some t930)) else (some false))) = some r := by rw [if_pos rfl] at H; exact H
   clear H
   have H := H1
   clear H1
   replace H := Option.bind_eq_some_iff.mp H
   obtain ⟨t929, A60, H⟩ := H
   replace H : (if t929 = true then ((spec_l1In.f a0_4 0 100000).bind fun t930 => (some t930)) else (some false)) = some r := H
   have A6 := Aside0.mk A60
   clear A60
   by_cases c7 : t929 = true
   ·
    subst c7
    have H1 : ((spec_l1In.f a0_4 0 100000).bind fun t930 => (some t930)) = some r := by rw [if_pos rfl] at H; exact H
    clear H
    have H := H1
    clear H1
    replace H := Option.bind_eq_some_iff.mp H
    obtain ⟨t930, A80, H⟩ := H
    replace H : (some t930) = some r := H
    have A8 := Aside0.mk A80
    clear A80
    obtain rfl := Option.some.inj H
    go_enter Try.func107, Try.ntmps107
    go_wp2_with (first | ((with_reducible refine gate_dst (N := 1) rfl ?_); refine box_event ?hg (N := 1) ?hd (cs := #[.int .i64 a0_0, .string a0_1, .string a0_2, .int .i64 a0_3, .int .i64 a0_4]) (t := 69) ?hr ?_; (case hd => rfl); (case hg => rfl); (case hr => first | (go_simp; done) | (go_simp; rfl)); intro gb926 hg w9 hbox hb; have n0_ := Aside0.mk (below_step (hb_ HB.out) hb); have n1_ := Aside0.mk (hbox); have n2_ := Aside0.mk ((by rw [hg]; exact (below_size (hb_ HB.out)) : w.heap.size ≤ gb926)); have n3_ := Aside0.mk ((by rw [hg]; exact (below_size (hb_ HB.out)) : w.heap.size ≤ gb926)); clear HB; have HB := n0_; have BK926 := n1_; have GW926 := n2_; have GE926 := n3_; clear n0_ n1_ n2_ n3_; clear hb hbox hg; have hcz10_0 : w9.cell? ⟨gb926, 0, none⟩ = some (.int .i64 a0_0) := (blk_cell BK926.out 0).trans rfl; have hcz10_1 : w9.cell? ⟨gb926, 1, none⟩ = some (.string a0_1) := (blk_cell BK926.out 1).trans rfl; have hcz10_2 : w9.cell? ⟨gb926, 2, none⟩ = some (.string a0_2) := (blk_cell BK926.out 2).trans rfl; have hcz10_3 : w9.cell? ⟨gb926, 3, none⟩ = some (.int .i64 a0_3) := (blk_cell BK926.out 3).trans rfl; have hcz10_4 : w9.cell? ⟨gb926, 4, none⟩ = some (.int .i64 a0_4) := (blk_cell BK926.out 4).trans rfl; have hfz10_0 := blk_frozen BK926.out 0; have hfz10_1 := blk_frozen BK926.out 1; have hfz10_2 := blk_frozen BK926.out 2; have hfz10_3 := blk_frozen BK926.out 3; have hfz10_4 := blk_frozen BK926.out 4) | ((with_reducible refine gate_callee (f := 155) rfl ?_); refine goesL_ (some 5) rfl rfl Try.func155 (by kernel_rfl) rfl #[.string a0_1] rfl sm_ ?_; (with_reducible refine (spec_l2Text.calls k a0_1 true _ A2.out).mono ?_); rintro e w' ⟨rfl, ⟨nd, rfl⟩⟩; refine ⟨_, rfl, ?_⟩) | (go_at_call 155; (with_reducible refine (spec_l2Text.calls k a0_2 true _ A4.out).mono ?_); rintro e w' ⟨rfl, ⟨nd, rfl⟩⟩) | (go_at_call 84; (with_reducible refine (spec_l1In.calls a0_3 0 3 true _ A6.out).mono ?_); rintro e w' ⟨rfl, ⟨nd, rfl⟩⟩) | (go_at_call 84; (with_reducible refine (spec_l1In.calls a0_4 0 100000 t930 _ A8.out).mono ?_); rintro e w' ⟨rfl, ⟨nd, rfl⟩⟩))
    go_ret
    exact ⟨by first | rfl | (simp [errW_none, errW_some] <;> rfl) | (simp [*, errW_none, errW_some] <;> rfl), hb_ HB.out⟩
   ·
    replace c7 := Bool.eq_false_iff.mpr c7
    subst c7
    have H1 : (some false) = some r := by rw [if_neg (show ¬ (false = true) by decide)] at H; exact H
    clear H
    have H := H1
    clear H1
    obtain rfl := Option.some.inj H
    go_enter Try.func107, Try.ntmps107
    go_wp2_with (first | ((with_reducible refine gate_dst (N := 1) rfl ?_); refine box_event ?hg (N := 1) ?hd (cs := #[.int .i64 a0_0, .string a0_1, .string a0_2, .int .i64 a0_3, .int .i64 a0_4]) (t := 69) ?hr ?_; (case hd => rfl); (case hg => rfl); (case hr => first | (go_simp; done) | (go_simp; rfl)); intro gb926 hg w11 hbox hb; have n0_ := Aside0.mk (below_step (hb_ HB.out) hb); have n1_ := Aside0.mk (hbox); have n2_ := Aside0.mk ((by rw [hg]; exact (below_size (hb_ HB.out)) : w.heap.size ≤ gb926)); have n3_ := Aside0.mk ((by rw [hg]; exact (below_size (hb_ HB.out)) : w.heap.size ≤ gb926)); clear HB; have HB := n0_; have BK926 := n1_; have GW926 := n2_; have GE926 := n3_; clear n0_ n1_ n2_ n3_; clear hb hbox hg; have hcz12_0 : w11.cell? ⟨gb926, 0, none⟩ = some (.int .i64 a0_0) := (blk_cell BK926.out 0).trans rfl; have hcz12_1 : w11.cell? ⟨gb926, 1, none⟩ = some (.string a0_1) := (blk_cell BK926.out 1).trans rfl; have hcz12_2 : w11.cell? ⟨gb926, 2, none⟩ = some (.string a0_2) := (blk_cell BK926.out 2).trans rfl; have hcz12_3 : w11.cell? ⟨gb926, 3, none⟩ = some (.int .i64 a0_3) := (blk_cell BK926.out 3).trans rfl; have hcz12_4 : w11.cell? ⟨gb926, 4, none⟩ = some (.int .i64 a0_4) := (blk_cell BK926.out 4).trans rfl; have hfz12_0 := blk_frozen BK926.out 0; have hfz12_1 := blk_frozen BK926.out 1; have hfz12_2 := blk_frozen BK926.out 2; have hfz12_3 := blk_frozen BK926.out 3; have hfz12_4 := blk_frozen BK926.out 4) | ((with_reducible refine gate_callee (f := 155) rfl ?_); refine goesL_ (some 5) rfl rfl Try.func155 (by kernel_rfl) rfl #[.string a0_1] rfl sm_ ?_; (with_reducible refine (spec_l2Text.calls k a0_1 true _ A2.out).mono ?_); rintro e w' ⟨rfl, ⟨nd, rfl⟩⟩; refine ⟨_, rfl, ?_⟩) | (go_at_call 155; (with_reducible refine (spec_l2Text.calls k a0_2 true _ A4.out).mono ?_); rintro e w' ⟨rfl, ⟨nd, rfl⟩⟩) | (go_at_call 84; (with_reducible refine (spec_l1In.calls a0_3 0 3 false _ A6.out).mono ?_); rintro e w' ⟨rfl, ⟨nd, rfl⟩⟩))
    go_ret
    exact ⟨by first | rfl | (simp [errW_none, errW_some] <;> rfl) | (simp [*, errW_none, errW_some] <;> rfl), hb_ HB.out⟩
  ·
   replace c5 := Bool.eq_false_iff.mpr c5
   subst c5
   have H1 : (some false) = some r := by rw [if_neg (show ¬ (false = true) by decide)] at H; exact H
   clear H
   have H := H1
   clear H1
   obtain rfl := Option.some.inj H
   go_enter Try.func107, Try.ntmps107
   go_wp2_with (first | ((with_reducible refine gate_dst (N := 1) rfl ?_); refine box_event ?hg (N := 1) ?hd (cs := #[.int .i64 a0_0, .string a0_1, .string a0_2, .int .i64 a0_3, .int .i64 a0_4]) (t := 69) ?hr ?_; (case hd => rfl); (case hg => rfl); (case hr => first | (go_simp; done) | (go_simp; rfl)); intro gb926 hg w13 hbox hb; have n0_ := Aside0.mk (below_step (hb_ HB.out) hb); have n1_ := Aside0.mk (hbox); have n2_ := Aside0.mk ((by rw [hg]; exact (below_size (hb_ HB.out)) : w.heap.size ≤ gb926)); have n3_ := Aside0.mk ((by rw [hg]; exact (below_size (hb_ HB.out)) : w.heap.size ≤ gb926)); clear HB; have HB := n0_; have BK926 := n1_; have GW926 := n2_; have GE926 := n3_; clear n0_ n1_ n2_ n3_; clear hb hbox hg; have hcz14_0 : w13.cell? ⟨gb926, 0, none⟩ = some (.int .i64 a0_0) := (blk_cell BK926.out 0).trans rfl; have hcz14_1 : w13.cell? ⟨gb926, 1, none⟩ = some (.string a0_1) := (blk_cell BK926.out 1).trans rfl; have hcz14_2 : w13.cell? ⟨gb926, 2, none⟩ = some (.string a0_2) := (blk_cell BK926.out 2).trans rfl; have hcz14_3 : w13.cell? ⟨gb926, 3, none⟩ = some (.int .i64 a0_3) := (blk_cell BK926.out 3).trans rfl; have hcz14_4 : w13.cell? ⟨gb926, 4, none⟩ = some (.int .i64 a0_4) := (blk_cell BK926.out 4).trans rfl; have hfz14_0 := blk_frozen BK926.out 0; have hfz14_1 := blk_frozen BK926.out 1; have hfz14_2 := blk_frozen BK926.out 2; have hfz14_3 := blk_frozen BK926.out 3; have hfz14_4 := blk_frozen BK926.out 4) | ((with_reducible refine gate_callee (f := 155) rfl ?_); refine goesL_ (some 5) rfl rfl Try.func155 (by kernel_rfl) rfl #[.string a0_1] rfl sm_ ?_; (with_reducible refine (spec_l2Text.calls k a0_1 true _ A2.out).mono ?_); rintro e w' ⟨rfl, ⟨nd, rfl⟩⟩; refine ⟨_, rfl, ?_⟩) | (go_at_call 155; (with_reducible refine (spec_l2Text.calls k a0_2 false _ A4.out).mono ?_); rintro e w' ⟨rfl, ⟨nd, rfl⟩⟩))
   go_ret
   exact ⟨by first | rfl | (simp [errW_none, errW_some] <;> rfl) | (simp [*, errW_none, errW_some] <;> rfl), hb_ HB.out⟩
 ·
  replace c3 := Bool.eq_false_iff.mpr c3
  subst c3
  have H1 : (some false) = some r := by rw [if_neg (show ¬ (false = true) by decide)] at H; exact H
  clear H
  have H := H1
  clear H1
  obtain rfl := Option.some.inj H
  go_enter Try.func107, Try.ntmps107
  go_wp2_with (first | ((with_reducible refine gate_dst (N := 1) rfl ?_); refine box_event ?hg (N := 1) ?hd (cs := #[.int .i64 a0_0, .string a0_1, .string a0_2, .int .i64 a0_3, .int .i64 a0_4]) (t := 69) ?hr ?_; (case hd => rfl); (case hg => rfl); (case hr => first | (go_simp; done) | (go_simp; rfl)); intro gb926 hg w15 hbox hb; have n0_ := Aside0.mk (below_step (hb_ HB.out) hb); have n1_ := Aside0.mk (hbox); have n2_ := Aside0.mk ((by rw [hg]; exact (below_size (hb_ HB.out)) : w.heap.size ≤ gb926)); have n3_ := Aside0.mk ((by rw [hg]; exact (below_size (hb_ HB.out)) : w.heap.size ≤ gb926)); clear HB; have HB := n0_; have BK926 := n1_; have GW926 := n2_; have GE926 := n3_; clear n0_ n1_ n2_ n3_; clear hb hbox hg; have hcz16_0 : w15.cell? ⟨gb926, 0, none⟩ = some (.int .i64 a0_0) := (blk_cell BK926.out 0).trans rfl; have hcz16_1 : w15.cell? ⟨gb926, 1, none⟩ = some (.string a0_1) := (blk_cell BK926.out 1).trans rfl; have hcz16_2 : w15.cell? ⟨gb926, 2, none⟩ = some (.string a0_2) := (blk_cell BK926.out 2).trans rfl; have hcz16_3 : w15.cell? ⟨gb926, 3, none⟩ = some (.int .i64 a0_3) := (blk_cell BK926.out 3).trans rfl; have hcz16_4 : w15.cell? ⟨gb926, 4, none⟩ = some (.int .i64 a0_4) := (blk_cell BK926.out 4).trans rfl; have hfz16_0 := blk_frozen BK926.out 0; have hfz16_1 := blk_frozen BK926.out 1; have hfz16_2 := blk_frozen BK926.out 2; have hfz16_3 := blk_frozen BK926.out 3; have hfz16_4 := blk_frozen BK926.out 4) | ((with_reducible refine gate_callee (f := 155) rfl ?_); refine goesL_ (some 5) rfl rfl Try.func155 (by kernel_rfl) rfl #[.string a0_1] rfl sm_ ?_; (with_reducible refine (spec_l2Text.calls k a0_1 false _ A2.out).mono ?_); rintro e w' ⟨rfl, ⟨nd, rfl⟩⟩; refine ⟨_, rfl, ?_⟩))
  go_ret
  exact ⟨by first | rfl | (simp [errW_none, errW_some] <;> rfl) | (simp [*, errW_none, errW_some] <;> rfl), hb_ HB.out⟩
/-! ### spec_RowOk: function 45 -/
abbrev spec_RowOk.m0 : Array Bool := #[false, false, false, false, false, false, false, false, false, false, false, false, false, false, false, false, false, false, false, false, false, false, false, false, false, false, false, false, false, false, false, false, false, false, false, false, false, false, false, false, false, false]
abbrev spec_RowOk.m1 : Array Bool := #[true, false, false, false, false, false, false, false, false, false, false, false, false, false, false, false, false, false, false, false, false, false, false, false, false, false, false, false, false, false, false, false, false, false, false, false, false, false, false, false, false, false]
abbrev spec_RowOk.m2 : Array Bool := #[true, false, true, false, false, false, false, false, false, false, false, false, false, false, false, false, false, false, false, false, false, false, false, false, false, false, false, false, false, false, false, false, false, false, false, false, false, false, false, false, false, false]
abbrev spec_RowOk.m3 : Array Bool := #[true, true, true, false, false, false, false, false, false, false, false, false, false, false, false, false, false, false, false, false, false, false, false, false, false, false, false, false, false, false, false, false, false, false, false, false, false, false, false, false, false, false]
abbrev spec_RowOk.m4 : Array Bool := #[true, true, true, true, false, false, false, false, false, false, false, false, false, false, false, false, false, false, false, false, false, false, false, false, false, false, false, false, false, false, false, false, false, false, false, false, false, false, false, false, false, false]
abbrev spec_RowOk.m5 : Array Bool := #[true, true, true, true, true, false, false, false, false, false, false, false, false, false, false, false, false, false, false, false, false, false, false, false, false, false, false, false, false, false, false, false, false, false, false, false, false, false, false, false, false, false]
abbrev spec_RowOk.m6 : Array Bool := #[true, true, true, true, true, true, false, false, false, false, false, false, false, false, false, false, false, false, false, false, false, false, false, false, false, false, false, false, false, false, false, false, false, false, false, false, false, false, false, false, false, false]
abbrev spec_RowOk.m7 : Array Bool := #[true, true, true, true, true, true, true, false, false, false, false, false, false, false, false, false, false, false, false, false, false, false, false, false, false, false, false, false, false, false, false, false, false, false, false, false, false, false, false, false, false, false]
abbrev spec_RowOk.m8 : Array Bool := #[true, true, true, true, true, true, true, true, false, false, false, false, false, false, false, false, false, false, false, false, false, false, false, false, false, false, false, false, false, false, false, false, false, false, false, false, false, false, false, false, false, false]
abbrev spec_RowOk.m9 : Array Bool := #[true, true, true, true, true, true, true, true, true, false, false, false, false, false, false, false, false, false, false, false, false, false, false, false, false, false, false, false, false, false, false, false, false, false, false, false, false, false, false, false, false, false]
abbrev spec_RowOk.m10 : Array Bool := #[true, true, true, true, true, true, true, true, true, false, true, false, false, false, false, false, false, false, false, false, false, false, false, false, false, false, false, false, false, false, false, false, false, false, false, false, false, false, false, false, false, false]
abbrev spec_RowOk.m11 : Array Bool := #[true, true, true, true, true, true, true, true, true, false, true, false, false, false, true, false, false, false, false, false, false, false, false, false, false, false, false, false, false, false, false, false, false, false, false, false, false, false, false, false, false, false]
abbrev spec_RowOk.m12 : Array Bool := #[true, true, true, true, true, true, true, true, true, false, true, false, false, false, true, false, true, false, false, false, false, false, false, false, false, false, false, false, false, false, false, false, false, false, false, false, false, false, false, false, false, false]
abbrev spec_RowOk.m13 : Array Bool := #[true, true, true, true, true, true, true, true, true, true, true, false, false, false, true, false, true, false, false, false, false, false, false, false, false, false, false, false, false, false, false, false, false, false, false, false, false, false, false, false, false, false]
abbrev spec_RowOk.m14 : Array Bool := #[true, true, true, true, true, true, true, true, true, true, true, true, false, false, true, false, true, false, false, false, false, false, false, false, false, false, false, false, false, false, false, false, false, false, false, false, false, false, false, false, false, false]
abbrev spec_RowOk.m15 : Array Bool := #[true, true, true, true, true, true, true, true, true, true, true, true, true, false, true, false, true, false, false, false, false, false, false, false, false, false, false, false, false, false, false, false, false, false, false, false, false, false, false, false, false, false]
abbrev spec_RowOk.m16 : Array Bool := #[true, true, true, true, true, true, true, true, true, true, true, true, true, true, true, false, true, false, false, false, false, false, false, false, false, false, false, false, false, false, false, false, false, false, false, false, false, false, false, false, false, false]
abbrev spec_RowOk.m17 : Array Bool := #[true, true, true, true, true, true, true, true, true, true, true, true, true, true, true, true, true, false, false, false, false, false, false, false, false, false, false, false, false, false, false, false, false, false, false, false, false, false, false, false, false, false]
abbrev spec_RowOk.m18 : Array Bool := #[true, true, true, true, true, true, true, true, true, true, true, true, true, true, true, true, true, true, false, false, false, false, false, false, false, false, false, false, false, false, false, false, false, false, false, false, false, false, false, false, false, false]
abbrev spec_RowOk.m19 : Array Bool := #[true, true, true, true, true, true, true, true, true, true, true, true, true, true, true, true, true, true, true, false, false, false, false, false, false, false, false, false, false, false, false, false, false, false, false, false, false, false, false, false, false, false]
abbrev spec_RowOk.m20 : Array Bool := #[true, true, true, true, true, true, true, true, true, true, true, true, true, true, true, true, true, true, true, true, false, false, false, false, false, false, false, false, false, false, false, false, false, false, false, false, false, false, false, false, false, false]
abbrev spec_RowOk.m21 : Array Bool := #[true, true, true, true, true, true, true, true, true, true, true, true, true, true, true, true, true, true, true, true, true, false, false, false, false, false, false, false, false, false, false, false, false, false, false, false, false, false, false, false, false, false]
abbrev spec_RowOk.m22 : Array Bool := #[true, true, true, true, true, true, true, true, true, true, true, true, true, true, true, true, true, true, true, true, true, true, false, false, false, false, false, false, false, false, false, false, false, false, false, false, false, false, false, false, false, false]
abbrev spec_RowOk.m23 : Array Bool := #[true, true, true, true, true, true, true, true, true, true, true, true, true, true, true, true, true, true, true, true, true, true, true, false, false, false, false, false, false, false, false, false, false, false, false, false, false, false, false, false, false, false]
abbrev spec_RowOk.m24 : Array Bool := #[true, true, true, true, true, true, true, true, true, true, true, true, true, true, true, true, true, true, true, true, true, true, true, true, false, false, false, false, false, false, false, false, false, false, false, false, false, false, false, false, false, false]
abbrev spec_RowOk.m25 : Array Bool := #[true, true, true, true, true, true, true, true, true, true, true, true, true, true, true, true, true, true, true, true, true, true, true, true, true, false, false, false, false, false, false, false, false, false, false, false, false, false, false, false, false, false]
abbrev spec_RowOk.m26 : Array Bool := #[true, true, true, true, true, true, true, true, true, true, true, true, true, true, true, true, true, true, true, true, true, true, true, true, true, true, false, false, false, false, false, false, false, false, false, false, false, false, false, false, false, false]
abbrev spec_RowOk.m27 : Array Bool := #[true, true, true, true, true, true, true, true, true, true, true, true, true, true, true, true, true, true, true, true, true, true, true, true, true, true, true, false, false, false, false, false, false, false, false, false, false, false, false, false, false, false]
abbrev spec_RowOk.m28 : Array Bool := #[true, true, true, true, true, true, true, true, true, true, true, true, true, true, true, true, true, true, true, true, true, true, true, true, true, true, true, true, true, true, true, true, true, true, true, true, false, false, false, false, false, false]
abbrev spec_RowOk.m29 : Array Bool := #[true, true, true, true, true, true, true, true, true, true, true, true, true, true, true, true, true, true, true, true, true, true, true, true, true, true, true, true, true, true, true, true, true, true, true, true, true, false, false, false, false, false]
abbrev spec_RowOk.m30 : Array Bool := #[true, true, true, true, true, true, true, true, true, true, true, true, true, true, true, true, true, true, true, true, true, true, true, true, true, true, true, true, true, true, true, true, true, true, true, true, true, true, false, false, false, false]
abbrev spec_RowOk.m31 : Array Bool := #[true, true, true, true, true, true, true, true, true, true, true, true, true, true, true, true, true, true, true, true, true, true, true, true, true, true, true, true, true, true, true, true, true, true, true, true, true, true, true, false, false, false]
abbrev spec_RowOk.m32 : Array Bool := #[true, true, true, true, true, true, true, true, true, true, true, true, true, true, true, true, true, true, true, true, true, true, true, true, true, true, true, true, true, true, true, true, true, true, true, true, true, true, true, true, false, false]
abbrev spec_RowOk.m33 : Array Bool := #[true, true, true, true, true, true, true, true, true, true, true, true, true, true, true, true, true, true, true, true, true, true, true, true, true, true, true, true, true, true, true, true, true, true, true, true, true, true, true, true, true, false]
abbrev spec_RowOk.m34 : Array Bool := #[true, true, true, true, true, true, true, true, true, true, true, true, true, true, true, true, true, true, true, true, true, true, true, true, true, true, true, true, true, true, true, true, true, true, true, true, true, true, true, true, true, true]
abbrev spec_RowOk.m35 : Array Bool := #[true, true, true, true, true, true, true, true, true, true, true, true, true, true, true, true, true, true, true, true, true, true, true, true, true, true, true, true, false, false, false, false, false, false, false, false, false, false, false, false, false, false]
abbrev spec_RowOk.m36 : Array Bool := #[true, true, true, true, true, true, true, true, true, true, true, true, true, true, true, true, true, true, true, true, true, true, true, true, true, true, true, true, true, false, false, false, false, false, false, false, false, false, false, false, false, false]
abbrev spec_RowOk.m37 : Array Bool := #[true, true, true, true, true, true, true, true, true, true, true, true, true, true, true, true, true, true, true, true, true, true, true, true, true, true, true, true, true, true, false, false, false, false, false, false, false, false, false, false, false, false]
abbrev spec_RowOk.m38 : Array Bool := #[true, true, true, true, true, true, true, true, true, true, true, true, true, true, true, true, true, true, true, true, true, true, true, true, true, true, true, true, true, true, true, false, false, false, false, false, false, false, false, false, false, false]
abbrev spec_RowOk.m39 : Array Bool := #[true, true, true, true, true, true, true, true, true, true, true, true, true, true, true, true, true, true, true, true, true, true, true, true, true, true, true, true, true, true, true, true, false, false, false, false, false, false, false, false, false, false]
abbrev spec_RowOk.m40 : Array Bool := #[true, true, true, true, true, true, true, true, true, true, true, true, true, true, true, true, true, true, true, true, true, true, true, true, true, true, true, true, true, true, true, true, true, false, false, false, false, false, false, false, false, false]
abbrev spec_RowOk.m41 : Array Bool := #[true, true, true, true, true, true, true, true, true, true, true, true, true, true, true, true, true, true, true, true, true, true, true, true, true, true, true, true, true, true, true, true, true, true, false, false, false, false, false, false, false, false]
abbrev spec_RowOk.m42 : Array Bool := #[true, true, true, true, true, true, true, true, true, true, true, true, true, true, true, true, true, true, true, true, true, true, true, true, true, true, true, true, true, true, true, true, true, true, true, false, false, false, false, false, false, false]
mutual
def spec_RowOk.j3 : Nat → Int → Int → List (S_Item) → Option (Bool)
 | 0, _, _, _ => none
 | k + 1, x932000, x932001, x932002 => (spec_l1In.f x932000 0 x932001).bind fun t938 => (if t938 = true then (if x932001 ≤ 100000 then (some (decide ((x932002.length : Int) ≤ 80))) else (some false)) else (some false))
def spec_RowOk.l0 : Nat → Int → Int → Int → List (S_Item) → Option (Bool)
 | 0, _, _, _, _ => none
 | k + 1, x3, x932000, x932001, x932002 => if x3 < (x932002.length : Int) then (spec_RowOk.j1 k x3 x932000 x932001 x932002) else (spec_RowOk.j3 k x932000 x932001 x932002)
def spec_RowOk.j1 : Nat → Int → Int → Int → List (S_Item) → Option (Bool)
 | 0, _, _, _, _ => none
 | k + 1, x3, x932000, x932001, x932002 => if 0 ≤ x3 then (if x3 < (x932002.length : Int) then ((spec_l3Item.f k ((rd_Item x932002 x3).f0) ((rd_Item x932002 x3).f1) ((rd_Item x932002 x3).f2) ((rd_Item x932002 x3).f3) ((rd_Item x932002 x3).f4)).bind fun t933 => (if t933 = true then ((spec_l1In.f ((rd_Item x932002 x3).f0) x932000 (wrap64 (x932001 - 1))).bind fun t935 => (if t935 = true then (if x3 > 0 then (if 0 ≤ (wrap64 (x3 - 1)) then (if (wrap64 (x3 - 1)) < (x932002.length : Int) then (spec_RowOk.j2 k x3 (decide (((rd_Item x932002 (wrap64 (x3 - 1))).f0) ≥ ((rd_Item x932002 x3).f0))) x932000 x932001 x932002) else (none)) else (none)) else (spec_RowOk.j2 k x3 false x932000 x932001 x932002)) else (spec_RowOk.j2 k x3 true x932000 x932001 x932002))) else (spec_RowOk.j2 k x3 true x932000 x932001 x932002))) else (none)) else (none)
def spec_RowOk.j2 : Nat → Int → Bool → Int → Int → List (S_Item) → Option (Bool)
 | 0, _, _, _, _, _ => none
 | k + 1, x3, x52, x932000, x932001, x932002 => if x52 = true then (some false) else (spec_RowOk.l0 k (wrap64 (x3 + 1)) x932000 x932001 x932002)
end
def spec_RowOk.f (k : Nat) (a0_0 : Int) (a0_1 : Int) (l0_2 : List (S_Item)) : Option (Bool) := spec_RowOk.l0 k 0 a0_0 a0_1 l0_2
theorem spec_RowOk.mono_l : ∀ k, (∀ y0 y1 y2, LeO (spec_RowOk.j3 k y0 y1 y2) (spec_RowOk.j3 (k + 1) y0 y1 y2)) ∧ (∀ y0 y1 y2 y3, LeO (spec_RowOk.l0 k y0 y1 y2 y3) (spec_RowOk.l0 (k + 1) y0 y1 y2 y3)) ∧ (∀ y0 y1 y2 y3, LeO (spec_RowOk.j1 k y0 y1 y2 y3) (spec_RowOk.j1 (k + 1) y0 y1 y2 y3)) ∧ (∀ y0 y1 y2 y3 y4, LeO (spec_RowOk.j2 k y0 y1 y2 y3 y4) (spec_RowOk.j2 (k + 1) y0 y1 y2 y3 y4))
 | 0 => ⟨fun _ _ _ r h => by simp [spec_RowOk.j3] at h, fun _ _ _ _ r h => by simp [spec_RowOk.l0] at h, fun _ _ _ _ r h => by simp [spec_RowOk.j1] at h, fun _ _ _ _ _ r h => by simp [spec_RowOk.j2] at h⟩
 | k + 1 => by
  obtain ⟨ih0, ih1, ih2, ih3⟩ := spec_RowOk.mono_l k
  refine ⟨?_, ?_, ?_, ?_⟩
  ·
   intro y0 y1 y2
   unfold spec_RowOk.j3
   repeat' first
   | (with_reducible exact ih0 _ _ _)
   | (with_reducible exact ih1 _ _ _ _)
   | (with_reducible exact ih2 _ _ _ _)
   | (with_reducible exact ih3 _ _ _ _ _)
   | (with_reducible exact spec_l3Item.mono _ _ _ _ _ _)
   | (with_reducible exact LeO.refl _)
   | (with_reducible exact LeO.none _)
   | (with_reducible refine LeO.ite ?_ ?_)
   | (with_reducible refine LeO.bind ?_ (fun _ => ?_))
   | exact ih0 _ _ _
   | exact ih1 _ _ _ _
   | exact ih2 _ _ _ _
   | exact ih3 _ _ _ _ _
   | exact spec_l3Item.mono _ _ _ _ _ _
   | exact LeO.none _
   | refine LeO.ite ?_ ?_
   | refine LeO.bind ?_ (fun _ => ?_)
  ·
   intro y0 y1 y2 y3
   unfold spec_RowOk.l0
   repeat' first
   | (with_reducible exact ih0 _ _ _)
   | (with_reducible exact ih1 _ _ _ _)
   | (with_reducible exact ih2 _ _ _ _)
   | (with_reducible exact ih3 _ _ _ _ _)
   | (with_reducible exact spec_l3Item.mono _ _ _ _ _ _)
   | (with_reducible exact LeO.refl _)
   | (with_reducible exact LeO.none _)
   | (with_reducible refine LeO.ite ?_ ?_)
   | (with_reducible refine LeO.bind ?_ (fun _ => ?_))
   | exact ih0 _ _ _
   | exact ih1 _ _ _ _
   | exact ih2 _ _ _ _
   | exact ih3 _ _ _ _ _
   | exact spec_l3Item.mono _ _ _ _ _ _
   | exact LeO.none _
   | refine LeO.ite ?_ ?_
   | refine LeO.bind ?_ (fun _ => ?_)
  ·
   intro y0 y1 y2 y3
   unfold spec_RowOk.j1
   repeat' first
   | (with_reducible exact ih0 _ _ _)
   | (with_reducible exact ih1 _ _ _ _)
   | (with_reducible exact ih2 _ _ _ _)
   | (with_reducible exact ih3 _ _ _ _ _)
   | (with_reducible exact spec_l3Item.mono _ _ _ _ _ _)
   | (with_reducible exact LeO.refl _)
   | (with_reducible exact LeO.none _)
   | (with_reducible refine LeO.ite ?_ ?_)
   | (with_reducible refine LeO.bind ?_ (fun _ => ?_))
   | exact ih0 _ _ _
   | exact ih1 _ _ _ _
   | exact ih2 _ _ _ _
   | exact ih3 _ _ _ _ _
   | exact spec_l3Item.mono _ _ _ _ _ _
   | exact LeO.none _
   | refine LeO.ite ?_ ?_
   | refine LeO.bind ?_ (fun _ => ?_)
  ·
   intro y0 y1 y2 y3 y4
   unfold spec_RowOk.j2
   repeat' first
   | (with_reducible exact ih0 _ _ _)
   | (with_reducible exact ih1 _ _ _ _)
   | (with_reducible exact ih2 _ _ _ _)
   | (with_reducible exact ih3 _ _ _ _ _)
   | (with_reducible exact spec_l3Item.mono _ _ _ _ _ _)
   | (with_reducible exact LeO.refl _)
   | (with_reducible exact LeO.none _)
   | (with_reducible refine LeO.ite ?_ ?_)
   | (with_reducible refine LeO.bind ?_ (fun _ => ?_))
   | exact ih0 _ _ _
   | exact ih1 _ _ _ _
   | exact ih2 _ _ _ _
   | exact ih3 _ _ _ _ _
   | exact spec_l3Item.mono _ _ _ _ _ _
   | exact LeO.none _
   | refine LeO.ite ?_ ?_
   | refine LeO.bind ?_ (fun _ => ?_)
theorem spec_RowOk.mono : ∀ a0 a1 a2 k, LeO (spec_RowOk.f k a0 a1 a2) (spec_RowOk.f (k + 1) a0 a1 a2) := by
 intro a0 a1 a2 k
 obtain ⟨ih0, ih1, ih2, ih3⟩ := spec_RowOk.mono_l k
 unfold spec_RowOk.f
 repeat' first
  | (with_reducible exact ih0 _ _ _)
  | (with_reducible exact ih1 _ _ _ _)
  | (with_reducible exact ih2 _ _ _ _)
  | (with_reducible exact ih3 _ _ _ _ _)
  | (with_reducible exact spec_l3Item.mono _ _ _ _ _ _)
  | (with_reducible exact LeO.refl _)
  | (with_reducible exact LeO.none _)
  | (with_reducible refine LeO.ite ?_ ?_)
  | (with_reducible refine LeO.bind ?_ (fun _ => ?_))
  | exact ih0 _ _ _
  | exact ih1 _ _ _ _
  | exact ih2 _ _ _ _
  | exact ih3 _ _ _ _ _
  | exact spec_l3Item.mono _ _ _ _ _ _
  | exact LeO.none _
  | refine LeO.ite ?_ ?_
  | refine LeO.bind ?_ (fun _ => ?_)
def spec_RowOk.T4 : Bool × List (List Nat × List Nat) := (true, [([], []), ([0], [0]), ([], []), ([1, 2], [1, 2]), ([3], [3]), ([4], [4]), ([5], [5]), ([6, 5], [6]), ([7], [7]), ([8, 7], [7, 8]), ([7], [7]), ([9, 10, 7], [7, 9, 10]), ([11, 7], [7, 11]), ([12, 7], [7, 12]), ([7], [7]), ([14, 7], [7, 14]), ([7], [7]), ([16, 7], [7, 16]), ([17, 7], [7, 17]), ([13, 15, 18, 7, 7], [7, 13, 15, 18]), ([19, 7], [7, 19]), ([7, 20], [7, 20]), ([21, 19], [21]), ([22], [22]), ([23, 22], [22, 23]), ([24, 22, 22], [22, 24]), ([25], [25]), ([26, 25], [25, 26]), ([25], [25]), ([28, 25], [25, 28]), ([27, 29, 25], [25, 27, 29]), ([30, 25], [25, 30]), ([31, 25], [25, 31]), ([25], [25]), ([33, 25], [25, 33]), ([25], [25]), ([34, 35, 25], [25, 34, 35]), ([36, 25], [25, 36]), ([37, 25], [25, 37]), ([32, 38, 25], [25, 32, 38]), ([25, 39, 22], [22, 25, 39]), ([22, 40], [22, 40])])
def spec_RowOk.B4 : List Nat := [0, 1, 0, 7, 15, 31, 63, 127, 255, 511, 255, 2047, 4095, 8191, 255, 16639, 255, 65791, 196863, 524287, 1048575, 2097151, 4194303, 8388607, 16777215, 33554431, 67108863, 134217727, 67108863, 335544319, 1073741823, 2147483647, 4294967295, 67108863, 8657043455, 67108863, 60196651007, 128916127743, 266355081215, 549755813887, 1099511627775, 2199023255551]
theorem spec_RowOk.tab4 : rtab .any (opsOf Try.f45 4) = spec_RowOk.T4 := by kernel_rfl
theorem spec_RowOk.bits4 : waitsOk spec_RowOk.T4.2 spec_RowOk.B4 = true := by kernel_rfl
set_option maxHeartbeats 8000000 in
set_option maxRecDepth 100000 in
theorem spec_RowOk.calls (k : Nat) (a0_0 : Int) (a0_1 : Int) (A0_2 : Option Addr) (c0_2 : Nat) (l0_2 : List (S_Item)) (r : Bool) (w : World) (hr0_2 : Kd.C k_Item w A0_2 l0_2.length l0_2) (hc0_2 : l0_2.length ≤ c0_2) (h : spec_RowOk.f k a0_0 a0_1 l0_2 = some r) :
 Calls Try.prog 45 #[.agg #[.int .i64 a0_0, .int .i64 a0_1, .slice A0_2 l0_2.length c0_2]] w fun e w' => e = .returned (.bool r) ∧ Below w.heap.size w w' := by
 have hu57 := Try.underlying57
 have hu69 := Try.underlying69
 have HR0_2 := Aside0.mk hr0_2
 have HC0_2 := Aside0.mk hc0_2
 clear hr0_2 hc0_2
 have HB := Aside0.mk (Below.refl w.heap.size w)
 have H : (spec_RowOk.l0 k 0 a0_0 a0_1 l0_2) = some r := h
 clear h
 have HC2 := Aside0.mk H
 clear H
 go_enter Try.func45, Try.ntmps45
 go_upto_block 0 with (first | ((with_reducible refine gate_dst (N := 1) rfl ?_); (try (refine gate_guard (by rfl) ?_; dsimp only)); refine box_event ?hg (N := 1) ?hd (cs := #[.int .i64 a0_0, .int .i64 a0_1, .slice A0_2 l0_2.length c0_2]) (t := 57) ?hr ?_; (case hd => rfl); (case hg => rfl); (case hr => first | (go_simp; done) | (go_simp; rfl)); intro gb931 hg w3 hbox hb; have n0_ := Aside0.mk (below_step (hb_ HB.out) hb); have n1_ := Aside0.mk (hbox); have n2_ := Aside0.mk ((by rw [hg]; exact (below_size (hb_ HB.out)) : w.heap.size ≤ gb931)); have n3_ := Aside0.mk ((by rw [hg]; exact (below_size (hb_ HB.out)) : w.heap.size ≤ gb931)); clear HB; have HB := n0_; have BK931 := n1_; have GW931 := n2_; have GE931 := n3_; clear n0_ n1_ n2_ n3_; clear hb hbox hg))
 (try simp only [Act.put, List.setIfInBounds_toArray, List.set_cons_zero, List.set_cons_succ])
 go_cut [] (fun wc => ∃ (kq : Nat), Aside0 (spec_RowOk.j3 kq a0_0 a0_1 l0_2 = some r) ∧ Aside0 (kq ≤ k) ∧ Aside0 (wc.heap[gb931]? = some (.cells #[.int .i64 a0_0, .int .i64 a0_1, (.slice A0_2 l0_2.length c0_2)] 57 (0, 0))) ∧ Aside0 (Below w.heap.size w wc))
 case first =>
  have H := HC2.out
  clear HC2
  have H' := Aside0.mk H
  clear H
  go_wp2
  go_loopg [3] k (fun kq v3 w' => ∃ (x3_1 : Int), v3 = .int .i64 x3_1 ∧ Aside0 (spec_RowOk.l0 kq x3_1 a0_0 a0_1 l0_2 = some r) ∧ Aside0 (kq ≤ k) ∧ Aside0 (w'.heap[gb931]? = some (.cells #[.int .i64 a0_0, .int .i64 a0_1, (.slice A0_2 l0_2.length c0_2)] 57 (0, 0))) ∧ Aside0 (Below w.heap.size w w'))
  case atStart => exact ⟨(0), (by first | rfl | (simp; done) | (simp [*]; done)), H', ⟨Nat.le_refl _⟩, ⟨bq_ BK931.out⟩, ⟨hb_ HB.out⟩⟩
  case round =>
   clear H'
   try clear p2
   obtain ⟨x3_1, rfl, HA, HK1, BK931, HB⟩ := hrel
   cases gk with
   | zero => exact absurd HA.out (by simp [spec_RowOk.l0])
   | succ k1 =>
    have H := HA.out
    clear HA
    simp only [spec_RowOk.l0] at H
    have HC4 := Aside0.mk H
    clear H
    have hcz5_0 : wr.cell? ⟨gb931, 0, none⟩ = some (.int .i64 a0_0) := (blk_cell BK931.out 0).trans rfl
    have hcz5_1 : wr.cell? ⟨gb931, 1, none⟩ = some (.int .i64 a0_1) := (blk_cell BK931.out 1).trans rfl
    have hcz5_2 : wr.cell? ⟨gb931, 2, none⟩ = some (.slice A0_2 l0_2.length c0_2) := (blk_cell BK931.out 2).trans rfl
    have hfz5_0 := blk_frozen BK931.out 0
    have hfz5_1 := blk_frozen BK931.out 1
    have hfz5_2 := blk_frozen BK931.out 2
    go_upto_if 8 with (fail)
    go_cut [] (fun wc => ∃ (kq : Nat), Aside0 (spec_RowOk.j1 kq x3_1 a0_0 a0_1 l0_2 = some r) ∧ Aside0 (kq ≤ k1) ∧ Aside0 (wc.heap[gb931]? = some (.cells #[.int .i64 a0_0, .int .i64 a0_1, (.slice A0_2 l0_2.length c0_2)] 57 (0, 0))) ∧ Aside0 (Below w.heap.size w wc))
    case first =>
     have H := HC4.out
     clear HC4
     by_cases c6 : x3_1 < (l0_2.length : Int)
     ·
      rw [if_pos c6] at H
      have c6b0 : decide (x3_1 < (l0_2.length : Int)) = true := decide_eq_true c6
      clear c6
      (first | rw [c6b0] | (simp only [i64_w, i32_w]; rw [c6b0]) | rw [c6b4] | rw [c6b3] | skip)
      have H' := Aside0.mk H
      clear H
      go_wp2
      go_meet
      case rel => exact ⟨_, H', ⟨by have := HK1.out; first | omega | exact Nat.le_refl _⟩, ⟨bq_ BK931.out⟩, ⟨hb_ HB.out⟩⟩
     ·
      rw [if_neg c6] at H
      have c6b0 : decide (x3_1 < (l0_2.length : Int)) = false := decide_eq_false c6
      clear c6
      (first | rw [c6b0] | (simp only [i64_w, i32_w]; rw [c6b0]) | rw [c6b4] | rw [c6b3] | skip)
      have H' := Aside0.mk H
      clear H
      go_wp2
      go_meet
      case rel => exact ⟨_, H', ⟨by have := HK1.out; first | omega | exact Nat.le_refl _⟩, ⟨bq_ BK931.out⟩, ⟨hb_ HB.out⟩⟩
    case rest =>
     clear HC4
     (try clear p2); (try clear c4); (try clear c6); (try clear c6b0); (try clear hcz5_0); (try clear hcz5_1); (try clear hcz5_2); (try clear hfz5_0); (try clear hfz5_1); (try clear hfz5_2); (try clear p2)
     obtain ⟨kq, HA, HJ3, BK931, HB⟩ := hcut
     cases kq with
     | zero => exact absurd HA.out (by simp [spec_RowOk.j1])
     | succ kj3 =>
      have H := HA.out
      clear HA
      simp only [spec_RowOk.j1] at H
      have HC7 := Aside0.mk H
      clear H
      go_upto_region 4 with (fail)
      go_cut [52] (fun v52 wc => ∃ (kq : Nat) (x52_6 : Bool), v52 = .bool x52_6 ∧ Aside0 (spec_RowOk.j2 kq x3_1 x52_6 a0_0 a0_1 l0_2 = some r) ∧ Aside0 (kq ≤ kj3) ∧ Aside0 (wc.heap[gb931]? = some (.cells #[.int .i64 a0_0, .int .i64 a0_1, (.slice A0_2 l0_2.length c0_2)] 57 (0, 0))) ∧ Aside0 (Below w.heap.size w wc))
      case first =>
       have H := HC7.out
       clear HC7
       by_cases c8 : 0 ≤ x3_1
       ·
        rw [if_pos c8] at H
        have c8b0 : decide (0 ≤ x3_1) = true := decide_eq_true c8
        clear c8
        (first | rw [c8b0] | (simp only [i64_w, i32_w]; rw [c8b0]) | rw [c8b4] | rw [c8b3] | skip)
        by_cases c9 : x3_1 < (l0_2.length : Int)
        ·
         rw [if_pos c9] at H
         have c9b0 : decide (x3_1 < (l0_2.length : Int)) = true := decide_eq_true c9
         clear c9
         replace H := Option.bind_eq_some_iff.mp H
         obtain ⟨t933, A100, H⟩ := H
         replace H : (if t933 = true then ((spec_l1In.f ((rd_Item l0_2 x3_1).f0) a0_0 (wrap64 (a0_1 - 1))).bind fun t935 => (if t935 = true then (if x3_1 > 0 then (if 0 ≤ (wrap64 (x3_1 - 1)) then (if (wrap64 (x3_1 - 1)) < (l0_2.length : Int) then (spec_RowOk.j2 kj3 x3_1 (decide (((rd_Item l0_2 (wrap64 (x3_1 - 1))).f0) ≥ ((rd_Item l0_2 x3_1).f0))) a0_0 a0_1 l0_2) else (none)) else (none)) else (spec_RowOk.j2 kj3 x3_1 false a0_0 a0_1 l0_2)) else (spec_RowOk.j2 kj3 x3_1 true a0_0 a0_1 l0_2))) else (spec_RowOk.j2 kj3 x3_1 true a0_0 a0_1 l0_2)) = some r := H
         have A10 := Aside0.mk A100
         clear A100
         by_cases c11 : t933 = true
         ·
          subst c11
          have H1 : ((spec_l1In.f ((rd_Item l0_2 x3_1).f0) a0_0 (wrap64 (a0_1 - 1))).bind fun t935 => (if t935 = true then (if x3_1 > 0 then (if 0 ≤ (wrap64 (x3_1 - 1)) then (if (wrap64 (x3_1 - 1)) < (l0_2.length : Int) then (spec_RowOk.j2 kj3 x3_1 (decide (((rd_Item l0_2 (wrap64 (x3_1 - 1))).f0) ≥ ((rd_Item l0_2 x3_1).f0))) a0_0 a0_1 l0_2) else (none)) else (none)) else (spec_RowOk.j2 kj3 x3_1 false a0_0 a0_1 l0_2)) else (spec_RowOk.j2 kj3 x3_1 true a0_0 a0_1 l0_2))) = some r := by rw [if_pos rfl] at H; exact H
          clear H
          have H := H1
          clear H1
          replace H := Option.bind_eq_some_iff.mp H
          obtain ⟨t935, A120, H⟩ := H
          replace H : (if t935 = true then (if x3_1 > 0 then (if 0 ≤ (wrap64 (x3_1 - 1)) then (if (wrap64 (x3_1 - 1)) < (l0_2.length : Int) then (spec_RowOk.j2 kj3 x3_1 (decide (((rd_Item l0_2 (wrap64 (x3_1 - 1))).f0) ≥ ((rd_Item l0_2 x3_1).f0))) a0_0 a0_1 l0_2) else (none)) else (none)) else (spec_RowOk.j2 kj3 x3_1 false a0_0 a0_1 l0_2)) else (spec_RowOk.j2 kj3 x3_1 true a0_0 a0_1 l0_2)) = some r := H
          have A12 := Aside0.mk A120
          clear A120
          by_cases c13 : t935 = true
          ·
           subst c13
           have H1 : (if x3_1 > 0 then (if 0 ≤ (wrap64 (x3_1 - 1)) then (if (wrap64 (x3_1 - 1)) < (l0_2.length : Int) then (spec_RowOk.j2 kj3 x3_1 (decide (((rd_Item l0_2 (wrap64 (x3_1 - 1))).f0) ≥ ((rd_Item l0_2 x3_1).f0))) a0_0 a0_1 l0_2) else (none)) else (none)) else (spec_RowOk.j2 kj3 x3_1 false a0_0 a0_1 l0_2)) = some r := by rw [if_pos rfl] at H; exact H
           clear H
           have H := H1
           clear H1
           by_cases c14 : x3_1 > 0
           ·
            rw [if_pos c14] at H
            have c14b0 : decide (0 < x3_1) = true := decide_eq_true c14
            clear c14
            obtain ⟨ji15, hji15⟩ : ∃ j_ : Int, (wrap64 (x3_1 - 1)) = j_ := ⟨_, rfl⟩
            replace H : (if 0 ≤ (ji15) then (if (ji15) < (l0_2.length : Int) then (spec_RowOk.j2 kj3 x3_1 (decide (((rd_Item l0_2 (ji15)).f0) ≥ ((rd_Item l0_2 x3_1).f0))) a0_0 a0_1 l0_2) else (none)) else (none)) = some r := by first | (rw [hji15] at H; exact H) | (simp only [hji15] at H ⊢; exact H)
            (try rw [hji15] at A10)
            (try rw [hji15] at A12)
            have hji15w : (IntKind.i64.wrap (x3_1 - 1)) = ji15 := (i64_w _).trans hji15
            by_cases c16 : 0 ≤ (ji15)
            ·
             rw [if_pos c16] at H
             have c16b0 : decide (0 ≤ (ji15)) = true := decide_eq_true c16
             clear c16
             by_cases c17 : (ji15) < (l0_2.length : Int)
             ·
              rw [if_pos c17] at H
              have c17b0 : decide ((ji15) < (l0_2.length : Int)) = true := decide_eq_true c17
              clear c17
              have H' := Aside0.mk H
              clear H
              try go_wp2
              have n0_ := Aside0.mk (blk_drew BK931.out)
              have n1_ := Aside0.mk (below_drew1 HB.out)
              clear BK931; clear HB
              have BK931 := n0_
              have HB := n1_
              clear n0_ n1_
              have p932 : 0 ≤ (x3_1 : Int) := of_decide_eq_true (by first | (with_reducible assumption) | assumption)
              have q932 : x3_1 < (l0_2.length : Int) := of_decide_eq_true (by first | (with_reducible assumption) | assumption)
              obtain ⟨ad932, e932, hx932_0, hx932_1, hx932_2, hx932_3, hx932_4⟩ := at_Item HR0_2.out x3_1 p932 q932
              have hw932_4 := hx932_4
              have hw932_3 := hx932_3
              have hw932_2 := hx932_2
              have hw932_1 := hx932_1
              have hw932_0 := hx932_0
              cases e932
              replace hx932_0 := (HB.out.cell (World.block_lt_of_cell? w _ hx932_0)).trans hx932_0
              replace hx932_1 := (HB.out.cell (World.block_lt_of_cell? w _ hx932_1)).trans hx932_1
              replace hx932_2 := (HB.out.cell (World.block_lt_of_cell? w _ hx932_2)).trans hx932_2
              replace hx932_3 := (HB.out.cell (World.block_lt_of_cell? w _ hx932_3)).trans hx932_3
              replace hx932_4 := (HB.out.cell (World.block_lt_of_cell? w _ hx932_4)).trans hx932_4
              replace p932 := eq_true p932
              replace q932 := eq_true q932
              have p934 : 0 ≤ (x3_1 : Int) := of_decide_eq_true (by first | (with_reducible assumption) | assumption)
              have q934 : x3_1 < (l0_2.length : Int) := of_decide_eq_true (by first | (with_reducible assumption) | assumption)
              obtain ⟨ad934, e934, hx934_0, hx934_1, hx934_2, hx934_3, hx934_4⟩ := at_Item HR0_2.out x3_1 p934 q934
              have hw934_4 := hx934_4
              have hw934_3 := hx934_3
              have hw934_2 := hx934_2
              have hw934_1 := hx934_1
              have hw934_0 := hx934_0
              obtain rfl : ad932 = ad934 := (by injection e934)
              replace hx934_0 := (HB.out.cell (World.block_lt_of_cell? w _ hx934_0)).trans hx934_0
              replace hx934_1 := (HB.out.cell (World.block_lt_of_cell? w _ hx934_1)).trans hx934_1
              replace hx934_2 := (HB.out.cell (World.block_lt_of_cell? w _ hx934_2)).trans hx934_2
              replace hx934_3 := (HB.out.cell (World.block_lt_of_cell? w _ hx934_3)).trans hx934_3
              replace hx934_4 := (HB.out.cell (World.block_lt_of_cell? w _ hx934_4)).trans hx934_4
              replace p934 := eq_true p934
              replace q934 := eq_true q934
              have p936 : 0 ≤ ((ji15) : Int) := of_decide_eq_true (by first | (with_reducible assumption) | assumption)
              have q936 : (ji15) < (l0_2.length : Int) := of_decide_eq_true (by first | (with_reducible assumption) | assumption)
              obtain ⟨ad936, e936, hx936_0, hx936_1, hx936_2, hx936_3, hx936_4⟩ := at_Item HR0_2.out (ji15) p936 q936
              have hw936_4 := hx936_4
              have hw936_3 := hx936_3
              have hw936_2 := hx936_2
              have hw936_1 := hx936_1
              have hw936_0 := hx936_0
              obtain rfl : ad932 = ad936 := (by injection e936)
              replace hx936_0 := (HB.out.cell (World.block_lt_of_cell? w _ hx936_0)).trans hx936_0
              replace hx936_1 := (HB.out.cell (World.block_lt_of_cell? w _ hx936_1)).trans hx936_1
              replace hx936_2 := (HB.out.cell (World.block_lt_of_cell? w _ hx936_2)).trans hx936_2
              replace hx936_3 := (HB.out.cell (World.block_lt_of_cell? w _ hx936_3)).trans hx936_3
              replace hx936_4 := (HB.out.cell (World.block_lt_of_cell? w _ hx936_4)).trans hx936_4
              replace p936 := eq_true p936
              replace q936 := eq_true q936
              have p937 : 0 ≤ (x3_1 : Int) := of_decide_eq_true (by first | (with_reducible assumption) | assumption)
              have q937 : x3_1 < (l0_2.length : Int) := of_decide_eq_true (by first | (with_reducible assumption) | assumption)
              obtain ⟨ad937, e937, hx937_0, hx937_1, hx937_2, hx937_3, hx937_4⟩ := at_Item HR0_2.out x3_1 p937 q937
              have hw937_4 := hx937_4
              have hw937_3 := hx937_3
              have hw937_2 := hx937_2
              have hw937_1 := hx937_1
              have hw937_0 := hx937_0
              obtain rfl : ad932 = ad937 := (by injection e937)
              replace hx937_0 := (HB.out.cell (World.block_lt_of_cell? w _ hx937_0)).trans hx937_0
              replace hx937_1 := (HB.out.cell (World.block_lt_of_cell? w _ hx937_1)).trans hx937_1
              replace hx937_2 := (HB.out.cell (World.block_lt_of_cell? w _ hx937_2)).trans hx937_2
              replace hx937_3 := (HB.out.cell (World.block_lt_of_cell? w _ hx937_3)).trans hx937_3
              replace hx937_4 := (HB.out.cell (World.block_lt_of_cell? w _ hx937_4)).trans hx937_4
              replace p937 := eq_true p937
              replace q937 := eq_true q937
              refine start_ (n := 42) (S := fun w' => w'.cell? ⟨gb931, 0, none⟩ = some (.int .i64 a0_0) ∧ w'.cell? ⟨gb931, 1, none⟩ = some (.int .i64 a0_1) ∧ w'.cell? ⟨gb931, 2, none⟩ = some (.slice (some ad932) l0_2.length c0_2) ∧ w'.cell? (ad932.add ((x3_1).toNat * 5)) = some (.int .i64 ((rd_Item l0_2 x3_1).f0)) ∧ w'.cell? ⟨(ad932.add ((x3_1).toNat * 5)).block, (ad932.add ((x3_1).toNat * 5)).off + 1, none⟩ = some (.string ((rd_Item l0_2 x3_1).f1)) ∧ w'.cell? ⟨(ad932.add ((x3_1).toNat * 5)).block, (ad932.add ((x3_1).toNat * 5)).off + 2, none⟩ = some (.string ((rd_Item l0_2 x3_1).f2)) ∧ w'.cell? ⟨(ad932.add ((x3_1).toNat * 5)).block, (ad932.add ((x3_1).toNat * 5)).off + 3, none⟩ = some (.int .i64 ((rd_Item l0_2 x3_1).f3)) ∧ w'.cell? ⟨(ad932.add ((x3_1).toNat * 5)).block, (ad932.add ((x3_1).toNat * 5)).off + 4, none⟩ = some (.int .i64 ((rd_Item l0_2 x3_1).f4)) ∧ w'.cell? (ad932.add ((x3_1).toNat * 5)) = some (.int .i64 ((rd_Item l0_2 x3_1).f0)) ∧ w'.cell? ⟨(ad932.add ((x3_1).toNat * 5)).block, (ad932.add ((x3_1).toNat * 5)).off + 1, none⟩ = some (.string ((rd_Item l0_2 x3_1).f1)) ∧ w'.cell? ⟨(ad932.add ((x3_1).toNat * 5)).block, (ad932.add ((x3_1).toNat * 5)).off + 2, none⟩ = some (.string ((rd_Item l0_2 x3_1).f2)) ∧ w'.cell? ⟨(ad932.add ((x3_1).toNat * 5)).block, (ad932.add ((x3_1).toNat * 5)).off + 3, none⟩ = some (.int .i64 ((rd_Item l0_2 x3_1).f3)) ∧ w'.cell? ⟨(ad932.add ((x3_1).toNat * 5)).block, (ad932.add ((x3_1).toNat * 5)).off + 4, none⟩ = some (.int .i64 ((rd_Item l0_2 x3_1).f4)) ∧ w'.cell? (ad932.add (((ji15)).toNat * 5)) = some (.int .i64 ((rd_Item l0_2 (ji15)).f0)) ∧ w'.cell? ⟨(ad932.add (((ji15)).toNat * 5)).block, (ad932.add (((ji15)).toNat * 5)).off + 1, none⟩ = some (.string ((rd_Item l0_2 (ji15)).f1)) ∧ w'.cell? ⟨(ad932.add (((ji15)).toNat * 5)).block, (ad932.add (((ji15)).toNat * 5)).off + 2, none⟩ = some (.string ((rd_Item l0_2 (ji15)).f2)) ∧ w'.cell? ⟨(ad932.add (((ji15)).toNat * 5)).block, (ad932.add (((ji15)).toNat * 5)).off + 3, none⟩ = some (.int .i64 ((rd_Item l0_2 (ji15)).f3)) ∧ w'.cell? ⟨(ad932.add (((ji15)).toNat * 5)).block, (ad932.add (((ji15)).toNat * 5)).off + 4, none⟩ = some (.int .i64 ((rd_Item l0_2 (ji15)).f4)) ∧ w'.cell? (ad932.add ((x3_1).toNat * 5)) = some (.int .i64 ((rd_Item l0_2 x3_1).f0)) ∧ w'.cell? ⟨(ad932.add ((x3_1).toNat * 5)).block, (ad932.add ((x3_1).toNat * 5)).off + 1, none⟩ = some (.string ((rd_Item l0_2 x3_1).f1)) ∧ w'.cell? ⟨(ad932.add ((x3_1).toNat * 5)).block, (ad932.add ((x3_1).toNat * 5)).off + 2, none⟩ = some (.string ((rd_Item l0_2 x3_1).f2)) ∧ w'.cell? ⟨(ad932.add ((x3_1).toNat * 5)).block, (ad932.add ((x3_1).toNat * 5)).off + 3, none⟩ = some (.int .i64 ((rd_Item l0_2 x3_1).f3)) ∧ w'.cell? ⟨(ad932.add ((x3_1).toNat * 5)).block, (ad932.add ((x3_1).toNat * 5)).off + 4, none⟩ = some (.int .i64 ((rd_Item l0_2 x3_1).f4))) (ds := []) spec_RowOk.m0 (by kernel_rfl) rfl rfl ⟨(blk_cell BK931.out 0).trans rfl, (blk_cell BK931.out 1).trans rfl, (blk_cell BK931.out 2).trans rfl, ((HB.out.cell (World.block_lt_of_cell? w _ hw932_0)).trans hw932_0), ((HB.out.cell (World.block_lt_of_cell? w _ hw932_1)).trans hw932_1), ((HB.out.cell (World.block_lt_of_cell? w _ hw932_2)).trans hw932_2), ((HB.out.cell (World.block_lt_of_cell? w _ hw932_3)).trans hw932_3), ((HB.out.cell (World.block_lt_of_cell? w _ hw932_4)).trans hw932_4), ((HB.out.cell (World.block_lt_of_cell? w _ hw934_0)).trans hw934_0), ((HB.out.cell (World.block_lt_of_cell? w _ hw934_1)).trans hw934_1), ((HB.out.cell (World.block_lt_of_cell? w _ hw934_2)).trans hw934_2), ((HB.out.cell (World.block_lt_of_cell? w _ hw934_3)).trans hw934_3), ((HB.out.cell (World.block_lt_of_cell? w _ hw934_4)).trans hw934_4), ((HB.out.cell (World.block_lt_of_cell? w _ hw936_0)).trans hw936_0), ((HB.out.cell (World.block_lt_of_cell? w _ hw936_1)).trans hw936_1), ((HB.out.cell (World.block_lt_of_cell? w _ hw936_2)).trans hw936_2), ((HB.out.cell (World.block_lt_of_cell? w _ hw936_3)).trans hw936_3), ((HB.out.cell (World.block_lt_of_cell? w _ hw936_4)).trans hw936_4), ((HB.out.cell (World.block_lt_of_cell? w _ hw937_0)).trans hw937_0), ((HB.out.cell (World.block_lt_of_cell? w _ hw937_1)).trans hw937_1), ((HB.out.cell (World.block_lt_of_cell? w _ hw937_2)).trans hw937_2), ((HB.out.cell (World.block_lt_of_cell? w _ hw937_3)).trans hw937_3), ((HB.out.cell (World.block_lt_of_cell? w _ hw937_4)).trans hw937_4)⟩ (fun hHeld => ?_); refine with_tabW spec_RowOk.tab4 spec_RowOk.bits4 (fun HT_ HW_ => ?_)
              generalize wc.drew = w18 at BK931 HB hx932_0 hx932_1 hx932_2 hx932_3 hx932_4 hx934_0 hx934_1 hx934_2 hx934_3 hx934_4 hx936_0 hx936_1 hx936_2 hx936_3 hx936_4 hx937_0 hx937_1 hx937_2 hx937_3 hx937_4 hHeld ⊢
              refine pI_ 0 11 HT_ spec_RowOk.m1 rfl rfl ?_
              refine pI_ 2 13 HT_ spec_RowOk.m2 rfl rfl ?_
              refine take_ (i := 1) (N := some 12) (v := ?_) (a' := ?_) spec_RowOk.m3 rfl rfl (take_ofW HT_.out HW_.out (by kernel_rfl)) (fun _ _ _ h => h) (Or.inl ⟨by rfl, ?_⟩) hHeld ?_ ?_
              rotate_left
              ·
               rintro w' ⟨s0, s1, s2, s3, s4, s5, s6, s7, s8, s9, s10, s11, s12, s13, s14, s15, s16, s17, s18, s19, s20, s21, s22⟩
               go_simp
               with_reducible rfl
              rotate_left; (focus simp only [Act.put, List.setIfInBounds_toArray, List.set_cons_zero, List.set_cons_succ, i64_w, i32_w]; rfl)
              refine pI_ 3 14 HT_ spec_RowOk.m4 rfl rfl ?_
              refine take_ (i := 4) (N := some 15) (v := ?_) (a' := ?_) spec_RowOk.m5 rfl rfl (take_ofW HT_.out HW_.out (by kernel_rfl)) (fun _ _ _ h => h) (Or.inl ⟨by rfl, ?_⟩) hHeld ?_ ?_
              rotate_left
              ·
               rintro w' ⟨s0, s1, s2, s3, s4, s5, s6, s7, s8, s9, s10, s11, s12, s13, s14, s15, s16, s17, s18, s19, s20, s21, s22⟩
               go_simp
               with_reducible rfl
              rotate_left; (focus simp only [Act.put, List.setIfInBounds_toArray, List.set_cons_zero, List.set_cons_succ, i64_w, i32_w]; rfl)
              refine one_ (i := 5) (N := some 16) spec_RowOk.m6 rfl rfl (one_of HT_.out (by kernel_rfl)) (by decide) (fun K hK => ?_)
              refine goes_ Try.func107 (by kernel_rfl) rfl #[.agg #[.int .i64 ((rd_Item l0_2 x3_1).f0), .string ((rd_Item l0_2 x3_1).f1), .string ((rd_Item l0_2 x3_1).f2), .int .i64 ((rd_Item l0_2 x3_1).f3), .int .i64 ((rd_Item l0_2 x3_1).f4)]] (by rfl) rfl rfl sm_ ?_
              with_reducible refine (spec_l3Item.calls kj3 ((rd_Item l0_2 x3_1).f0) ((rd_Item l0_2 x3_1).f1) ((rd_Item l0_2 x3_1).f2) ((rd_Item l0_2 x3_1).f3) ((rd_Item l0_2 x3_1).f4) true _ A10.out).mono ?_
              rintro e w19 ⟨rfl, hb⟩
              refine ⟨_, rfl, ?_⟩
              have n0_ := Aside0.mk (bb_ BK931.out hb)
              have n1_ := Aside0.mk (below_step (hb_ HB.out) hb)
              clear BK931; clear HB
              have BK931 := n0_
              have HB := n1_
              clear n0_ n1_
              (try clear hb)
              (try clear hb2)
              (try clear hk)
              (try clear hi)
              refine hK.out _ _ ⟨(blk_cell BK931.out 0).trans rfl, (blk_cell BK931.out 1).trans rfl, (blk_cell BK931.out 2).trans rfl, ((HB.out.cell (World.block_lt_of_cell? w _ hw932_0)).trans hw932_0), ((HB.out.cell (World.block_lt_of_cell? w _ hw932_1)).trans hw932_1), ((HB.out.cell (World.block_lt_of_cell? w _ hw932_2)).trans hw932_2), ((HB.out.cell (World.block_lt_of_cell? w _ hw932_3)).trans hw932_3), ((HB.out.cell (World.block_lt_of_cell? w _ hw932_4)).trans hw932_4), ((HB.out.cell (World.block_lt_of_cell? w _ hw934_0)).trans hw934_0), ((HB.out.cell (World.block_lt_of_cell? w _ hw934_1)).trans hw934_1), ((HB.out.cell (World.block_lt_of_cell? w _ hw934_2)).trans hw934_2), ((HB.out.cell (World.block_lt_of_cell? w _ hw934_3)).trans hw934_3), ((HB.out.cell (World.block_lt_of_cell? w _ hw934_4)).trans hw934_4), ((HB.out.cell (World.block_lt_of_cell? w _ hw936_0)).trans hw936_0), ((HB.out.cell (World.block_lt_of_cell? w _ hw936_1)).trans hw936_1), ((HB.out.cell (World.block_lt_of_cell? w _ hw936_2)).trans hw936_2), ((HB.out.cell (World.block_lt_of_cell? w _ hw936_3)).trans hw936_3), ((HB.out.cell (World.block_lt_of_cell? w _ hw936_4)).trans hw936_4), ((HB.out.cell (World.block_lt_of_cell? w _ hw937_0)).trans hw937_0), ((HB.out.cell (World.block_lt_of_cell? w _ hw937_1)).trans hw937_1), ((HB.out.cell (World.block_lt_of_cell? w _ hw937_2)).trans hw937_2), ((HB.out.cell (World.block_lt_of_cell? w _ hw937_3)).trans hw937_3), ((HB.out.cell (World.block_lt_of_cell? w _ hw937_4)).trans hw937_4)⟩ (fun hHeld => ?_)
              clear hK K
              refine norm_ (a' := ?_) ?_ ?_
              rotate_left
              ·
               show Act.put _ (some 16) _ = _
               simp only [Act.put, List.setIfInBounds_toArray, List.set_cons_zero, List.set_cons_succ, i64_w, i32_w]
               rfl
              refine pI_ 6 17 HT_ spec_RowOk.m7 rfl rfl ?_
              refine pI_ 7 18 HT_ spec_RowOk.m8 rfl rfl ?_
              refine pI_ 8 19 HT_ spec_RowOk.m9 rfl rfl ?_
              refine pI_ 10 21 HT_ spec_RowOk.m10 rfl rfl ?_
              refine pI_ 14 25 HT_ spec_RowOk.m11 rfl rfl ?_
              refine pI_ 16 27 HT_ spec_RowOk.m12 rfl rfl ?_
              refine take_ (i := 9) (N := some 20) (v := ?_) (a' := ?_) spec_RowOk.m13 rfl rfl (take_ofW HT_.out HW_.out (by kernel_rfl)) (fun _ _ _ h => h) (Or.inl ⟨by rfl, ?_⟩) hHeld ?_ ?_
              rotate_left
              ·
               rintro w' ⟨s0, s1, s2, s3, s4, s5, s6, s7, s8, s9, s10, s11, s12, s13, s14, s15, s16, s17, s18, s19, s20, s21, s22⟩
               go_simp
               with_reducible rfl
              rotate_left; (focus simp only [Act.put, List.setIfInBounds_toArray, List.set_cons_zero, List.set_cons_succ, i64_w, i32_w]; rfl)
              refine pI_ 11 22 HT_ spec_RowOk.m14 rfl rfl ?_
              refine pI_ 12 23 HT_ spec_RowOk.m15 rfl rfl ?_
              refine take_ (i := 13) (N := some 24) (v := ?_) (a' := ?_) spec_RowOk.m16 rfl rfl (take_ofW HT_.out HW_.out (by kernel_rfl)) (fun _ _ _ h => h) (Or.inl ⟨by rfl, ?_⟩) hHeld ?_ ?_
              rotate_left
              ·
               rintro w' ⟨s0, s1, s2, s3, s4, s5, s6, s7, s8, s9, s10, s11, s12, s13, s14, s15, s16, s17, s18, s19, s20, s21, s22⟩
               go_simp
               with_reducible rfl
              rotate_left; (focus simp only [Act.put, List.setIfInBounds_toArray, List.set_cons_zero, List.set_cons_succ, i64_w, i32_w]; rfl)
              refine take_ (i := 15) (N := some 26) (v := ?_) (a' := ?_) spec_RowOk.m17 rfl rfl (take_ofW HT_.out HW_.out (by kernel_rfl)) (fun _ _ _ h => h) (Or.inl ⟨by rfl, ?_⟩) hHeld ?_ ?_
              rotate_left
              ·
               rintro w' ⟨s0, s1, s2, s3, s4, s5, s6, s7, s8, s9, s10, s11, s12, s13, s14, s15, s16, s17, s18, s19, s20, s21, s22⟩
               go_simp
               with_reducible rfl
              rotate_left; (focus simp only [Act.put, List.setIfInBounds_toArray, List.set_cons_zero, List.set_cons_succ, i64_w, i32_w]; rfl)
              refine take_ (i := 17) (N := some 28) (v := ?_) (a' := ?_) spec_RowOk.m18 rfl rfl (take_ofW HT_.out HW_.out (by kernel_rfl)) (fun _ _ _ h => h) (Or.inl ⟨by rfl, ?_⟩) hHeld ?_ ?_
              rotate_left
              ·
               rintro w' ⟨s0, s1, s2, s3, s4, s5, s6, s7, s8, s9, s10, s11, s12, s13, s14, s15, s16, s17, s18, s19, s20, s21, s22⟩
               go_simp
               with_reducible rfl
              rotate_left; (focus simp only [Act.put, List.setIfInBounds_toArray, List.set_cons_zero, List.set_cons_succ, i64_w, i32_w]; rfl)
              refine pI_ 18 29 HT_ spec_RowOk.m19 rfl rfl ?_
              refine one_ (i := 19) (N := some 30) spec_RowOk.m20 rfl rfl (one_of HT_.out (by kernel_rfl)) (by decide) (fun K hK => ?_)
              refine goes_ Try.func84 (by kernel_rfl) rfl #[.int .i64 ((rd_Item l0_2 x3_1).f0), .int .i64 a0_0, .int .i64 (wrap64 (a0_1 - 1))] (by rfl) rfl rfl sm_ ?_
              with_reducible refine (spec_l1In.calls ((rd_Item l0_2 x3_1).f0) a0_0 (wrap64 (a0_1 - 1)) true _ A12.out).mono ?_
              rintro e w' ⟨rfl, ⟨nd, rfl⟩⟩
              refine ⟨_, rfl, ?_⟩
              refine hK.out _ _ ⟨(blk_cell BK931.out 0).trans rfl, (blk_cell BK931.out 1).trans rfl, (blk_cell BK931.out 2).trans rfl, ((HB.out.cell (World.block_lt_of_cell? w _ hw932_0)).trans hw932_0), ((HB.out.cell (World.block_lt_of_cell? w _ hw932_1)).trans hw932_1), ((HB.out.cell (World.block_lt_of_cell? w _ hw932_2)).trans hw932_2), ((HB.out.cell (World.block_lt_of_cell? w _ hw932_3)).trans hw932_3), ((HB.out.cell (World.block_lt_of_cell? w _ hw932_4)).trans hw932_4), ((HB.out.cell (World.block_lt_of_cell? w _ hw934_0)).trans hw934_0), ((HB.out.cell (World.block_lt_of_cell? w _ hw934_1)).trans hw934_1), ((HB.out.cell (World.block_lt_of_cell? w _ hw934_2)).trans hw934_2), ((HB.out.cell (World.block_lt_of_cell? w _ hw934_3)).trans hw934_3), ((HB.out.cell (World.block_lt_of_cell? w _ hw934_4)).trans hw934_4), ((HB.out.cell (World.block_lt_of_cell? w _ hw936_0)).trans hw936_0), ((HB.out.cell (World.block_lt_of_cell? w _ hw936_1)).trans hw936_1), ((HB.out.cell (World.block_lt_of_cell? w _ hw936_2)).trans hw936_2), ((HB.out.cell (World.block_lt_of_cell? w _ hw936_3)).trans hw936_3), ((HB.out.cell (World.block_lt_of_cell? w _ hw936_4)).trans hw936_4), ((HB.out.cell (World.block_lt_of_cell? w _ hw937_0)).trans hw937_0), ((HB.out.cell (World.block_lt_of_cell? w _ hw937_1)).trans hw937_1), ((HB.out.cell (World.block_lt_of_cell? w _ hw937_2)).trans hw937_2), ((HB.out.cell (World.block_lt_of_cell? w _ hw937_3)).trans hw937_3), ((HB.out.cell (World.block_lt_of_cell? w _ hw937_4)).trans hw937_4)⟩ (fun hHeld => ?_)
              clear hK K
              refine norm_ (a' := ?_) ?_ ?_
              rotate_left
              ·
               show Act.put _ (some 30) _ = _
               simp only [Act.put, List.setIfInBounds_toArray, List.set_cons_zero, List.set_cons_succ, i64_w, i32_w]
               rfl
              refine pI_ 20 31 HT_ spec_RowOk.m21 rfl rfl ?_
              refine pI_ 21 32 HT_ spec_RowOk.m22 rfl rfl ?_
              refine pI_ 22 33 HT_ spec_RowOk.m23 rfl rfl ?_
              refine pI_ 23 34 HT_ spec_RowOk.m24 rfl rfl ?_
              refine pI_ 24 35 HT_ spec_RowOk.m25 rfl rfl ?_
              refine pI_ 25 36 HT_ spec_RowOk.m26 rfl rfl ?_
              refine pI_ 26 37 HT_ spec_RowOk.m27 rfl rfl ?_
              refine pI_ 28 39 HT_ #[true, true, true, true, true, true, true, true, true, true, true, true, true, true, true, true, true, true, true, true, true, true, true, true, true, true, true, false, true, false, false, false, false, false, false, false, false, false, false, false, false, false] rfl rfl ?_
              refine pI_ 29 40 HT_ #[true, true, true, true, true, true, true, true, true, true, true, true, true, true, true, true, true, true, true, true, true, true, true, true, true, true, true, false, true, true, false, false, false, false, false, false, false, false, false, false, false, false] rfl rfl ?_
              refine pI_ 33 44 HT_ #[true, true, true, true, true, true, true, true, true, true, true, true, true, true, true, true, true, true, true, true, true, true, true, true, true, true, true, false, true, true, false, false, false, true, false, false, false, false, false, false, false, false] rfl rfl ?_
              refine pI_ 35 46 HT_ #[true, true, true, true, true, true, true, true, true, true, true, true, true, true, true, true, true, true, true, true, true, true, true, true, true, true, true, false, true, true, false, false, false, true, false, true, false, false, false, false, false, false] rfl rfl ?_
              refine take_ (i := 27) (N := some 38) (v := ?_) (a' := ?_) #[true, true, true, true, true, true, true, true, true, true, true, true, true, true, true, true, true, true, true, true, true, true, true, true, true, true, true, true, true, true, false, false, false, true, false, true, false, false, false, false, false, false] rfl rfl (take_ofW HT_.out HW_.out (by kernel_rfl)) (fun _ _ _ h => h) (Or.inl ⟨by rfl, ?_⟩) hHeld ?_ ?_
              rotate_left
              ·
               rintro w' ⟨s0, s1, s2, s3, s4, s5, s6, s7, s8, s9, s10, s11, s12, s13, s14, s15, s16, s17, s18, s19, s20, s21, s22⟩
               go_simp
               with_reducible rfl
              rotate_left; (focus simp only [Act.put, List.setIfInBounds_toArray, List.set_cons_zero, List.set_cons_succ, i64_w, i32_w]; rfl)
              refine pI_ 30 41 HT_ #[true, true, true, true, true, true, true, true, true, true, true, true, true, true, true, true, true, true, true, true, true, true, true, true, true, true, true, true, true, true, true, false, false, true, false, true, false, false, false, false, false, false] rfl rfl ?_
              refine pI_ 31 42 HT_ #[true, true, true, true, true, true, true, true, true, true, true, true, true, true, true, true, true, true, true, true, true, true, true, true, true, true, true, true, true, true, true, true, false, true, false, true, false, false, false, false, false, false] rfl rfl ?_
              refine take_ (i := 32) (N := some 43) (v := ?_) (a' := ?_) #[true, true, true, true, true, true, true, true, true, true, true, true, true, true, true, true, true, true, true, true, true, true, true, true, true, true, true, true, true, true, true, true, true, true, false, true, false, false, false, false, false, false] rfl rfl (take_ofW HT_.out HW_.out (by kernel_rfl)) (fun _ _ _ h => h) (Or.inl ⟨by rfl, ?_⟩) hHeld ?_ ?_
              rotate_left
              ·
               rintro w' ⟨s0, s1, s2, s3, s4, s5, s6, s7, s8, s9, s10, s11, s12, s13, s14, s15, s16, s17, s18, s19, s20, s21, s22⟩
               go_simp
               with_reducible rfl
              rotate_left; (focus simp only [Act.put, List.setIfInBounds_toArray, List.set_cons_zero, List.set_cons_succ, i64_w, i32_w]; rfl)
              refine take_ (i := 34) (N := some 45) (v := ?_) (a' := ?_) spec_RowOk.m28 rfl rfl (take_ofW HT_.out HW_.out (by kernel_rfl)) (fun _ _ _ h => h) (Or.inl ⟨by rfl, ?_⟩) hHeld ?_ ?_
              rotate_left
              ·
               rintro w' ⟨s0, s1, s2, s3, s4, s5, s6, s7, s8, s9, s10, s11, s12, s13, s14, s15, s16, s17, s18, s19, s20, s21, s22⟩
               go_simp
               with_reducible rfl
              rotate_left; (focus simp only [Act.put, List.setIfInBounds_toArray, List.set_cons_zero, List.set_cons_succ, i64_w, i32_w]; rfl)
              refine pI_ 36 47 HT_ spec_RowOk.m29 rfl rfl ?_
              refine pI_ 37 48 HT_ spec_RowOk.m30 rfl rfl ?_
              refine take_ (i := 38) (N := some 49) (v := ?_) (a' := ?_) spec_RowOk.m31 rfl rfl (take_ofW HT_.out HW_.out (by kernel_rfl)) (fun _ _ _ h => h) (Or.inl ⟨by rfl, ?_⟩) hHeld ?_ ?_
              rotate_left
              ·
               rintro w' ⟨s0, s1, s2, s3, s4, s5, s6, s7, s8, s9, s10, s11, s12, s13, s14, s15, s16, s17, s18, s19, s20, s21, s22⟩
               go_simp
               with_reducible rfl
              rotate_left; (focus simp only [Act.put, List.setIfInBounds_toArray, List.set_cons_zero, List.set_cons_succ, i64_w, i32_w]; rfl)
              refine pI_ 39 50 HT_ spec_RowOk.m32 rfl rfl ?_
              refine pI_ 40 51 HT_ spec_RowOk.m33 rfl rfl ?_
              refine pI_ 41 52 HT_ spec_RowOk.m34 rfl rfl ?_
              refine done_ (done_of HT_.out (by kernel_rfl)) ?_
              try go_wp2
              go_meet
              case rel => exact ⟨_, (decide (((rd_Item l0_2 (ji15)).f0) ≥ ((rd_Item l0_2 x3_1).f0))), (by first | rfl | (simp; done) | (simp only [← hji15] <;> (first | rfl | simp)) | (simp [*]; done)), H', ⟨by have := HK1.out; have := HJ3.out; first | omega | exact Nat.le_refl _⟩, ⟨bq_ BK931.out⟩, ⟨hb_ HB.out⟩⟩
             ·
              rw [if_neg c17] at H
              exact absurd H (by simp)
            ·
             rw [if_neg c16] at H
             exact absurd H (by simp)
           ·
            rw [if_neg c14] at H
            have c14b0 : decide (0 < x3_1) = false := decide_eq_false c14
            clear c14
            have H' := Aside0.mk H
            clear H
            try go_wp2
            have n0_ := Aside0.mk (blk_drew BK931.out)
            have n1_ := Aside0.mk (below_drew1 HB.out)
            clear BK931; clear HB
            have BK931 := n0_
            have HB := n1_
            clear n0_ n1_
            have p932 : 0 ≤ (x3_1 : Int) := of_decide_eq_true (by first | (with_reducible assumption) | assumption)
            have q932 : x3_1 < (l0_2.length : Int) := of_decide_eq_true (by first | (with_reducible assumption) | assumption)
            obtain ⟨ad932, e932, hx932_0, hx932_1, hx932_2, hx932_3, hx932_4⟩ := at_Item HR0_2.out x3_1 p932 q932
            have hw932_4 := hx932_4
            have hw932_3 := hx932_3
            have hw932_2 := hx932_2
            have hw932_1 := hx932_1
            have hw932_0 := hx932_0
            cases e932
            replace hx932_0 := (HB.out.cell (World.block_lt_of_cell? w _ hx932_0)).trans hx932_0
            replace hx932_1 := (HB.out.cell (World.block_lt_of_cell? w _ hx932_1)).trans hx932_1
            replace hx932_2 := (HB.out.cell (World.block_lt_of_cell? w _ hx932_2)).trans hx932_2
            replace hx932_3 := (HB.out.cell (World.block_lt_of_cell? w _ hx932_3)).trans hx932_3
            replace hx932_4 := (HB.out.cell (World.block_lt_of_cell? w _ hx932_4)).trans hx932_4
            replace p932 := eq_true p932
            replace q932 := eq_true q932
            have p934 : 0 ≤ (x3_1 : Int) := of_decide_eq_true (by first | (with_reducible assumption) | assumption)
            have q934 : x3_1 < (l0_2.length : Int) := of_decide_eq_true (by first | (with_reducible assumption) | assumption)
            obtain ⟨ad934, e934, hx934_0, hx934_1, hx934_2, hx934_3, hx934_4⟩ := at_Item HR0_2.out x3_1 p934 q934
            have hw934_4 := hx934_4
            have hw934_3 := hx934_3
            have hw934_2 := hx934_2
            have hw934_1 := hx934_1
            have hw934_0 := hx934_0
            obtain rfl : ad932 = ad934 := (by injection e934)
            replace hx934_0 := (HB.out.cell (World.block_lt_of_cell? w _ hx934_0)).trans hx934_0
            replace hx934_1 := (HB.out.cell (World.block_lt_of_cell? w _ hx934_1)).trans hx934_1
            replace hx934_2 := (HB.out.cell (World.block_lt_of_cell? w _ hx934_2)).trans hx934_2
            replace hx934_3 := (HB.out.cell (World.block_lt_of_cell? w _ hx934_3)).trans hx934_3
            replace hx934_4 := (HB.out.cell (World.block_lt_of_cell? w _ hx934_4)).trans hx934_4
            replace p934 := eq_true p934
            replace q934 := eq_true q934
            refine start_ (n := 42) (S := fun w' => w'.cell? ⟨gb931, 0, none⟩ = some (.int .i64 a0_0) ∧ w'.cell? ⟨gb931, 1, none⟩ = some (.int .i64 a0_1) ∧ w'.cell? ⟨gb931, 2, none⟩ = some (.slice (some ad932) l0_2.length c0_2) ∧ w'.cell? (ad932.add ((x3_1).toNat * 5)) = some (.int .i64 ((rd_Item l0_2 x3_1).f0)) ∧ w'.cell? ⟨(ad932.add ((x3_1).toNat * 5)).block, (ad932.add ((x3_1).toNat * 5)).off + 1, none⟩ = some (.string ((rd_Item l0_2 x3_1).f1)) ∧ w'.cell? ⟨(ad932.add ((x3_1).toNat * 5)).block, (ad932.add ((x3_1).toNat * 5)).off + 2, none⟩ = some (.string ((rd_Item l0_2 x3_1).f2)) ∧ w'.cell? ⟨(ad932.add ((x3_1).toNat * 5)).block, (ad932.add ((x3_1).toNat * 5)).off + 3, none⟩ = some (.int .i64 ((rd_Item l0_2 x3_1).f3)) ∧ w'.cell? ⟨(ad932.add ((x3_1).toNat * 5)).block, (ad932.add ((x3_1).toNat * 5)).off + 4, none⟩ = some (.int .i64 ((rd_Item l0_2 x3_1).f4)) ∧ w'.cell? (ad932.add ((x3_1).toNat * 5)) = some (.int .i64 ((rd_Item l0_2 x3_1).f0)) ∧ w'.cell? ⟨(ad932.add ((x3_1).toNat * 5)).block, (ad932.add ((x3_1).toNat * 5)).off + 1, none⟩ = some (.string ((rd_Item l0_2 x3_1).f1)) ∧ w'.cell? ⟨(ad932.add ((x3_1).toNat * 5)).block, (ad932.add ((x3_1).toNat * 5)).off + 2, none⟩ = some (.string ((rd_Item l0_2 x3_1).f2)) ∧ w'.cell? ⟨(ad932.add ((x3_1).toNat * 5)).block, (ad932.add ((x3_1).toNat * 5)).off + 3, none⟩ = some (.int .i64 ((rd_Item l0_2 x3_1).f3)) ∧ w'.cell? ⟨(ad932.add ((x3_1).toNat * 5)).block, (ad932.add ((x3_1).toNat * 5)).off + 4, none⟩ = some (.int .i64 ((rd_Item l0_2 x3_1).f4))) (ds := []) spec_RowOk.m0 (by kernel_rfl) rfl rfl ⟨(blk_cell BK931.out 0).trans rfl, (blk_cell BK931.out 1).trans rfl, (blk_cell BK931.out 2).trans rfl, ((HB.out.cell (World.block_lt_of_cell? w _ hw932_0)).trans hw932_0), ((HB.out.cell (World.block_lt_of_cell? w _ hw932_1)).trans hw932_1), ((HB.out.cell (World.block_lt_of_cell? w _ hw932_2)).trans hw932_2), ((HB.out.cell (World.block_lt_of_cell? w _ hw932_3)).trans hw932_3), ((HB.out.cell (World.block_lt_of_cell? w _ hw932_4)).trans hw932_4), ((HB.out.cell (World.block_lt_of_cell? w _ hw934_0)).trans hw934_0), ((HB.out.cell (World.block_lt_of_cell? w _ hw934_1)).trans hw934_1), ((HB.out.cell (World.block_lt_of_cell? w _ hw934_2)).trans hw934_2), ((HB.out.cell (World.block_lt_of_cell? w _ hw934_3)).trans hw934_3), ((HB.out.cell (World.block_lt_of_cell? w _ hw934_4)).trans hw934_4)⟩ (fun hHeld => ?_); refine with_tabW spec_RowOk.tab4 spec_RowOk.bits4 (fun HT_ HW_ => ?_)
            generalize wc.drew = w20 at BK931 HB hx932_0 hx932_1 hx932_2 hx932_3 hx932_4 hx934_0 hx934_1 hx934_2 hx934_3 hx934_4 hHeld ⊢
            refine pI_ 0 11 HT_ spec_RowOk.m1 rfl rfl ?_
            refine pI_ 2 13 HT_ spec_RowOk.m2 rfl rfl ?_
            refine take_ (i := 1) (N := some 12) (v := ?_) (a' := ?_) spec_RowOk.m3 rfl rfl (take_ofW HT_.out HW_.out (by kernel_rfl)) (fun _ _ _ h => h) (Or.inl ⟨by rfl, ?_⟩) hHeld ?_ ?_
            rotate_left
            ·
             rintro w' ⟨s0, s1, s2, s3, s4, s5, s6, s7, s8, s9, s10, s11, s12⟩
             go_simp
             with_reducible rfl
            rotate_left; (focus simp only [Act.put, List.setIfInBounds_toArray, List.set_cons_zero, List.set_cons_succ, i64_w, i32_w]; rfl)
            refine pI_ 3 14 HT_ spec_RowOk.m4 rfl rfl ?_
            refine take_ (i := 4) (N := some 15) (v := ?_) (a' := ?_) spec_RowOk.m5 rfl rfl (take_ofW HT_.out HW_.out (by kernel_rfl)) (fun _ _ _ h => h) (Or.inl ⟨by rfl, ?_⟩) hHeld ?_ ?_
            rotate_left
            ·
             rintro w' ⟨s0, s1, s2, s3, s4, s5, s6, s7, s8, s9, s10, s11, s12⟩
             go_simp
             with_reducible rfl
            rotate_left; (focus simp only [Act.put, List.setIfInBounds_toArray, List.set_cons_zero, List.set_cons_succ, i64_w, i32_w]; rfl)
            refine one_ (i := 5) (N := some 16) spec_RowOk.m6 rfl rfl (one_of HT_.out (by kernel_rfl)) (by decide) (fun K hK => ?_)
            refine goes_ Try.func107 (by kernel_rfl) rfl #[.agg #[.int .i64 ((rd_Item l0_2 x3_1).f0), .string ((rd_Item l0_2 x3_1).f1), .string ((rd_Item l0_2 x3_1).f2), .int .i64 ((rd_Item l0_2 x3_1).f3), .int .i64 ((rd_Item l0_2 x3_1).f4)]] (by rfl) rfl rfl sm_ ?_
            with_reducible refine (spec_l3Item.calls kj3 ((rd_Item l0_2 x3_1).f0) ((rd_Item l0_2 x3_1).f1) ((rd_Item l0_2 x3_1).f2) ((rd_Item l0_2 x3_1).f3) ((rd_Item l0_2 x3_1).f4) true _ A10.out).mono ?_
            rintro e w21 ⟨rfl, hb⟩
            refine ⟨_, rfl, ?_⟩
            have n0_ := Aside0.mk (bb_ BK931.out hb)
            have n1_ := Aside0.mk (below_step (hb_ HB.out) hb)
            clear BK931; clear HB
            have BK931 := n0_
            have HB := n1_
            clear n0_ n1_
            (try clear hb)
            (try clear hb2)
            (try clear hk)
            (try clear hi)
            refine hK.out _ _ ⟨(blk_cell BK931.out 0).trans rfl, (blk_cell BK931.out 1).trans rfl, (blk_cell BK931.out 2).trans rfl, ((HB.out.cell (World.block_lt_of_cell? w _ hw932_0)).trans hw932_0), ((HB.out.cell (World.block_lt_of_cell? w _ hw932_1)).trans hw932_1), ((HB.out.cell (World.block_lt_of_cell? w _ hw932_2)).trans hw932_2), ((HB.out.cell (World.block_lt_of_cell? w _ hw932_3)).trans hw932_3), ((HB.out.cell (World.block_lt_of_cell? w _ hw932_4)).trans hw932_4), ((HB.out.cell (World.block_lt_of_cell? w _ hw934_0)).trans hw934_0), ((HB.out.cell (World.block_lt_of_cell? w _ hw934_1)).trans hw934_1), ((HB.out.cell (World.block_lt_of_cell? w _ hw934_2)).trans hw934_2), ((HB.out.cell (World.block_lt_of_cell? w _ hw934_3)).trans hw934_3), ((HB.out.cell (World.block_lt_of_cell? w _ hw934_4)).trans hw934_4)⟩ (fun hHeld => ?_)
            clear hK K
            refine norm_ (a' := ?_) ?_ ?_
            rotate_left
            ·
             show Act.put _ (some 16) _ = _
             simp only [Act.put, List.setIfInBounds_toArray, List.set_cons_zero, List.set_cons_succ, i64_w, i32_w]
             rfl
            refine pI_ 6 17 HT_ spec_RowOk.m7 rfl rfl ?_
            refine pI_ 7 18 HT_ spec_RowOk.m8 rfl rfl ?_
            refine pI_ 8 19 HT_ spec_RowOk.m9 rfl rfl ?_
            refine pI_ 10 21 HT_ spec_RowOk.m10 rfl rfl ?_
            refine pI_ 14 25 HT_ spec_RowOk.m11 rfl rfl ?_
            refine pI_ 16 27 HT_ spec_RowOk.m12 rfl rfl ?_
            refine take_ (i := 9) (N := some 20) (v := ?_) (a' := ?_) spec_RowOk.m13 rfl rfl (take_ofW HT_.out HW_.out (by kernel_rfl)) (fun _ _ _ h => h) (Or.inl ⟨by rfl, ?_⟩) hHeld ?_ ?_
            rotate_left
            ·
             rintro w' ⟨s0, s1, s2, s3, s4, s5, s6, s7, s8, s9, s10, s11, s12⟩
             go_simp
             with_reducible rfl
            rotate_left; (focus simp only [Act.put, List.setIfInBounds_toArray, List.set_cons_zero, List.set_cons_succ, i64_w, i32_w]; rfl)
            refine pI_ 11 22 HT_ spec_RowOk.m14 rfl rfl ?_
            refine pI_ 12 23 HT_ spec_RowOk.m15 rfl rfl ?_
            refine take_ (i := 13) (N := some 24) (v := ?_) (a' := ?_) spec_RowOk.m16 rfl rfl (take_ofW HT_.out HW_.out (by kernel_rfl)) (fun _ _ _ h => h) (Or.inl ⟨by rfl, ?_⟩) hHeld ?_ ?_
            rotate_left
            ·
             rintro w' ⟨s0, s1, s2, s3, s4, s5, s6, s7, s8, s9, s10, s11, s12⟩
             go_simp
             with_reducible rfl
            rotate_left; (focus simp only [Act.put, List.setIfInBounds_toArray, List.set_cons_zero, List.set_cons_succ, i64_w, i32_w]; rfl)
            refine take_ (i := 15) (N := some 26) (v := ?_) (a' := ?_) spec_RowOk.m17 rfl rfl (take_ofW HT_.out HW_.out (by kernel_rfl)) (fun _ _ _ h => h) (Or.inl ⟨by rfl, ?_⟩) hHeld ?_ ?_
            rotate_left
            ·
             rintro w' ⟨s0, s1, s2, s3, s4, s5, s6, s7, s8, s9, s10, s11, s12⟩
             go_simp
             with_reducible rfl
            rotate_left; (focus simp only [Act.put, List.setIfInBounds_toArray, List.set_cons_zero, List.set_cons_succ, i64_w, i32_w]; rfl)
            refine take_ (i := 17) (N := some 28) (v := ?_) (a' := ?_) spec_RowOk.m18 rfl rfl (take_ofW HT_.out HW_.out (by kernel_rfl)) (fun _ _ _ h => h) (Or.inl ⟨by rfl, ?_⟩) hHeld ?_ ?_
            rotate_left
            ·
             rintro w' ⟨s0, s1, s2, s3, s4, s5, s6, s7, s8, s9, s10, s11, s12⟩
             go_simp
             with_reducible rfl
            rotate_left; (focus simp only [Act.put, List.setIfInBounds_toArray, List.set_cons_zero, List.set_cons_succ, i64_w, i32_w]; rfl)
            refine pI_ 18 29 HT_ spec_RowOk.m19 rfl rfl ?_
            refine one_ (i := 19) (N := some 30) spec_RowOk.m20 rfl rfl (one_of HT_.out (by kernel_rfl)) (by decide) (fun K hK => ?_)
            refine goes_ Try.func84 (by kernel_rfl) rfl #[.int .i64 ((rd_Item l0_2 x3_1).f0), .int .i64 a0_0, .int .i64 (wrap64 (a0_1 - 1))] (by rfl) rfl rfl sm_ ?_
            with_reducible refine (spec_l1In.calls ((rd_Item l0_2 x3_1).f0) a0_0 (wrap64 (a0_1 - 1)) true _ A12.out).mono ?_
            rintro e w' ⟨rfl, ⟨nd, rfl⟩⟩
            refine ⟨_, rfl, ?_⟩
            refine hK.out _ _ ⟨(blk_cell BK931.out 0).trans rfl, (blk_cell BK931.out 1).trans rfl, (blk_cell BK931.out 2).trans rfl, ((HB.out.cell (World.block_lt_of_cell? w _ hw932_0)).trans hw932_0), ((HB.out.cell (World.block_lt_of_cell? w _ hw932_1)).trans hw932_1), ((HB.out.cell (World.block_lt_of_cell? w _ hw932_2)).trans hw932_2), ((HB.out.cell (World.block_lt_of_cell? w _ hw932_3)).trans hw932_3), ((HB.out.cell (World.block_lt_of_cell? w _ hw932_4)).trans hw932_4), ((HB.out.cell (World.block_lt_of_cell? w _ hw934_0)).trans hw934_0), ((HB.out.cell (World.block_lt_of_cell? w _ hw934_1)).trans hw934_1), ((HB.out.cell (World.block_lt_of_cell? w _ hw934_2)).trans hw934_2), ((HB.out.cell (World.block_lt_of_cell? w _ hw934_3)).trans hw934_3), ((HB.out.cell (World.block_lt_of_cell? w _ hw934_4)).trans hw934_4)⟩ (fun hHeld => ?_)
            clear hK K
            refine norm_ (a' := ?_) ?_ ?_
            rotate_left
            ·
             show Act.put _ (some 30) _ = _
             simp only [Act.put, List.setIfInBounds_toArray, List.set_cons_zero, List.set_cons_succ, i64_w, i32_w]
             rfl
            refine pI_ 20 31 HT_ spec_RowOk.m21 rfl rfl ?_
            refine pI_ 21 32 HT_ spec_RowOk.m22 rfl rfl ?_
            refine pI_ 22 33 HT_ spec_RowOk.m23 rfl rfl ?_
            refine pI_ 23 34 HT_ spec_RowOk.m24 rfl rfl ?_
            refine pI_ 24 35 HT_ spec_RowOk.m25 rfl rfl ?_
            refine pI_ 25 36 HT_ spec_RowOk.m26 rfl rfl ?_
            refine pU_ 26 37 HT_ spec_RowOk.m27 rfl rfl ?_
            refine pU_ 27 38 HT_ spec_RowOk.m35 rfl rfl ?_
            refine pU_ 28 39 HT_ spec_RowOk.m36 rfl rfl ?_
            refine pU_ 29 40 HT_ spec_RowOk.m37 rfl rfl ?_
            refine pU_ 30 41 HT_ spec_RowOk.m38 rfl rfl ?_
            refine pU_ 31 42 HT_ spec_RowOk.m39 rfl rfl ?_
            refine pU_ 32 43 HT_ spec_RowOk.m40 rfl rfl ?_
            refine pU_ 33 44 HT_ spec_RowOk.m41 rfl rfl ?_
            refine pU_ 34 45 HT_ spec_RowOk.m42 rfl rfl ?_
            refine pU_ 35 46 HT_ spec_RowOk.m28 rfl rfl ?_
            refine pU_ 36 47 HT_ spec_RowOk.m29 rfl rfl ?_
            refine pU_ 37 48 HT_ spec_RowOk.m30 rfl rfl ?_
            refine pU_ 38 49 HT_ spec_RowOk.m31 rfl rfl ?_
            refine pU_ 39 50 HT_ spec_RowOk.m32 rfl rfl ?_
            refine pI_ 40 51 HT_ spec_RowOk.m33 rfl rfl ?_
            refine pI_ 41 52 HT_ spec_RowOk.m34 rfl rfl ?_
            refine done_ (done_of HT_.out (by kernel_rfl)) ?_
            try go_wp2
            go_meet
            case rel => exact ⟨_, (false), (by first | rfl | (simp; done) | (simp [*]; done)), H', ⟨by have := HK1.out; have := HJ3.out; first | omega | exact Nat.le_refl _⟩, ⟨bq_ BK931.out⟩, ⟨hb_ HB.out⟩⟩
          ·
           replace c13 := Bool.eq_false_iff.mpr c13
           subst c13
           have H1 : (spec_RowOk.j2 kj3 x3_1 true a0_0 a0_1 l0_2) = some r := by rw [if_neg (show ¬ (false = true) by decide)] at H; exact H
           clear H
           have H := H1
           clear H1
           have H' := Aside0.mk H
           clear H
           try go_wp2
           have n0_ := Aside0.mk (blk_drew BK931.out)
           have n1_ := Aside0.mk (below_drew1 HB.out)
           clear BK931; clear HB
           have BK931 := n0_
           have HB := n1_
           clear n0_ n1_
           have p932 : 0 ≤ (x3_1 : Int) := of_decide_eq_true (by first | (with_reducible assumption) | assumption)
           have q932 : x3_1 < (l0_2.length : Int) := of_decide_eq_true (by first | (with_reducible assumption) | assumption)
           obtain ⟨ad932, e932, hx932_0, hx932_1, hx932_2, hx932_3, hx932_4⟩ := at_Item HR0_2.out x3_1 p932 q932
           have hw932_4 := hx932_4
           have hw932_3 := hx932_3
           have hw932_2 := hx932_2
           have hw932_1 := hx932_1
           have hw932_0 := hx932_0
           cases e932
           replace hx932_0 := (HB.out.cell (World.block_lt_of_cell? w _ hx932_0)).trans hx932_0
           replace hx932_1 := (HB.out.cell (World.block_lt_of_cell? w _ hx932_1)).trans hx932_1
           replace hx932_2 := (HB.out.cell (World.block_lt_of_cell? w _ hx932_2)).trans hx932_2
           replace hx932_3 := (HB.out.cell (World.block_lt_of_cell? w _ hx932_3)).trans hx932_3
           replace hx932_4 := (HB.out.cell (World.block_lt_of_cell? w _ hx932_4)).trans hx932_4
           replace p932 := eq_true p932
           replace q932 := eq_true q932
           have p934 : 0 ≤ (x3_1 : Int) := of_decide_eq_true (by first | (with_reducible assumption) | assumption)
           have q934 : x3_1 < (l0_2.length : Int) := of_decide_eq_true (by first | (with_reducible assumption) | assumption)
           obtain ⟨ad934, e934, hx934_0, hx934_1, hx934_2, hx934_3, hx934_4⟩ := at_Item HR0_2.out x3_1 p934 q934
           have hw934_4 := hx934_4
           have hw934_3 := hx934_3
           have hw934_2 := hx934_2
           have hw934_1 := hx934_1
           have hw934_0 := hx934_0
           obtain rfl : ad932 = ad934 := (by injection e934)
           replace hx934_0 := (HB.out.cell (World.block_lt_of_cell? w _ hx934_0)).trans hx934_0
           replace hx934_1 := (HB.out.cell (World.block_lt_of_cell? w _ hx934_1)).trans hx934_1
           replace hx934_2 := (HB.out.cell (World.block_lt_of_cell? w _ hx934_2)).trans hx934_2
           replace hx934_3 := (HB.out.cell (World.block_lt_of_cell? w _ hx934_3)).trans hx934_3
           replace hx934_4 := (HB.out.cell (World.block_lt_of_cell? w _ hx934_4)).trans hx934_4
           replace p934 := eq_true p934
           replace q934 := eq_true q934
           refine start_ (n := 42) (S := fun w' => w'.cell? ⟨gb931, 0, none⟩ = some (.int .i64 a0_0) ∧ w'.cell? ⟨gb931, 1, none⟩ = some (.int .i64 a0_1) ∧ w'.cell? ⟨gb931, 2, none⟩ = some (.slice (some ad932) l0_2.length c0_2) ∧ w'.cell? (ad932.add ((x3_1).toNat * 5)) = some (.int .i64 ((rd_Item l0_2 x3_1).f0)) ∧ w'.cell? ⟨(ad932.add ((x3_1).toNat * 5)).block, (ad932.add ((x3_1).toNat * 5)).off + 1, none⟩ = some (.string ((rd_Item l0_2 x3_1).f1)) ∧ w'.cell? ⟨(ad932.add ((x3_1).toNat * 5)).block, (ad932.add ((x3_1).toNat * 5)).off + 2, none⟩ = some (.string ((rd_Item l0_2 x3_1).f2)) ∧ w'.cell? ⟨(ad932.add ((x3_1).toNat * 5)).block, (ad932.add ((x3_1).toNat * 5)).off + 3, none⟩ = some (.int .i64 ((rd_Item l0_2 x3_1).f3)) ∧ w'.cell? ⟨(ad932.add ((x3_1).toNat * 5)).block, (ad932.add ((x3_1).toNat * 5)).off + 4, none⟩ = some (.int .i64 ((rd_Item l0_2 x3_1).f4)) ∧ w'.cell? (ad932.add ((x3_1).toNat * 5)) = some (.int .i64 ((rd_Item l0_2 x3_1).f0)) ∧ w'.cell? ⟨(ad932.add ((x3_1).toNat * 5)).block, (ad932.add ((x3_1).toNat * 5)).off + 1, none⟩ = some (.string ((rd_Item l0_2 x3_1).f1)) ∧ w'.cell? ⟨(ad932.add ((x3_1).toNat * 5)).block, (ad932.add ((x3_1).toNat * 5)).off + 2, none⟩ = some (.string ((rd_Item l0_2 x3_1).f2)) ∧ w'.cell? ⟨(ad932.add ((x3_1).toNat * 5)).block, (ad932.add ((x3_1).toNat * 5)).off + 3, none⟩ = some (.int .i64 ((rd_Item l0_2 x3_1).f3)) ∧ w'.cell? ⟨(ad932.add ((x3_1).toNat * 5)).block, (ad932.add ((x3_1).toNat * 5)).off + 4, none⟩ = some (.int .i64 ((rd_Item l0_2 x3_1).f4))) (ds := []) spec_RowOk.m0 (by kernel_rfl) rfl rfl ⟨(blk_cell BK931.out 0).trans rfl, (blk_cell BK931.out 1).trans rfl, (blk_cell BK931.out 2).trans rfl, ((HB.out.cell (World.block_lt_of_cell? w _ hw932_0)).trans hw932_0), ((HB.out.cell (World.block_lt_of_cell? w _ hw932_1)).trans hw932_1), ((HB.out.cell (World.block_lt_of_cell? w _ hw932_2)).trans hw932_2), ((HB.out.cell (World.block_lt_of_cell? w _ hw932_3)).trans hw932_3), ((HB.out.cell (World.block_lt_of_cell? w _ hw932_4)).trans hw932_4), ((HB.out.cell (World.block_lt_of_cell? w _ hw934_0)).trans hw934_0), ((HB.out.cell (World.block_lt_of_cell? w _ hw934_1)).trans hw934_1), ((HB.out.cell (World.block_lt_of_cell? w _ hw934_2)).trans hw934_2), ((HB.out.cell (World.block_lt_of_cell? w _ hw934_3)).trans hw934_3), ((HB.out.cell (World.block_lt_of_cell? w _ hw934_4)).trans hw934_4)⟩ (fun hHeld => ?_); refine with_tabW spec_RowOk.tab4 spec_RowOk.bits4 (fun HT_ HW_ => ?_)
           generalize wc.drew = w22 at BK931 HB hx932_0 hx932_1 hx932_2 hx932_3 hx932_4 hx934_0 hx934_1 hx934_2 hx934_3 hx934_4 hHeld ⊢
           refine pI_ 0 11 HT_ spec_RowOk.m1 rfl rfl ?_
           refine pI_ 2 13 HT_ spec_RowOk.m2 rfl rfl ?_
           refine take_ (i := 1) (N := some 12) (v := ?_) (a' := ?_) spec_RowOk.m3 rfl rfl (take_ofW HT_.out HW_.out (by kernel_rfl)) (fun _ _ _ h => h) (Or.inl ⟨by rfl, ?_⟩) hHeld ?_ ?_
           rotate_left
           ·
            rintro w' ⟨s0, s1, s2, s3, s4, s5, s6, s7, s8, s9, s10, s11, s12⟩
            go_simp
            with_reducible rfl
           rotate_left; (focus simp only [Act.put, List.setIfInBounds_toArray, List.set_cons_zero, List.set_cons_succ, i64_w, i32_w]; rfl)
           refine pI_ 3 14 HT_ spec_RowOk.m4 rfl rfl ?_
           refine take_ (i := 4) (N := some 15) (v := ?_) (a' := ?_) spec_RowOk.m5 rfl rfl (take_ofW HT_.out HW_.out (by kernel_rfl)) (fun _ _ _ h => h) (Or.inl ⟨by rfl, ?_⟩) hHeld ?_ ?_
           rotate_left
           ·
            rintro w' ⟨s0, s1, s2, s3, s4, s5, s6, s7, s8, s9, s10, s11, s12⟩
            go_simp
            with_reducible rfl
           rotate_left; (focus simp only [Act.put, List.setIfInBounds_toArray, List.set_cons_zero, List.set_cons_succ, i64_w, i32_w]; rfl)
           refine one_ (i := 5) (N := some 16) spec_RowOk.m6 rfl rfl (one_of HT_.out (by kernel_rfl)) (by decide) (fun K hK => ?_)
           refine goes_ Try.func107 (by kernel_rfl) rfl #[.agg #[.int .i64 ((rd_Item l0_2 x3_1).f0), .string ((rd_Item l0_2 x3_1).f1), .string ((rd_Item l0_2 x3_1).f2), .int .i64 ((rd_Item l0_2 x3_1).f3), .int .i64 ((rd_Item l0_2 x3_1).f4)]] (by rfl) rfl rfl sm_ ?_
           with_reducible refine (spec_l3Item.calls kj3 ((rd_Item l0_2 x3_1).f0) ((rd_Item l0_2 x3_1).f1) ((rd_Item l0_2 x3_1).f2) ((rd_Item l0_2 x3_1).f3) ((rd_Item l0_2 x3_1).f4) true _ A10.out).mono ?_
           rintro e w23 ⟨rfl, hb⟩
           refine ⟨_, rfl, ?_⟩
           have n0_ := Aside0.mk (bb_ BK931.out hb)
           have n1_ := Aside0.mk (below_step (hb_ HB.out) hb)
           clear BK931; clear HB
           have BK931 := n0_
           have HB := n1_
           clear n0_ n1_
           (try clear hb)
           (try clear hb2)
           (try clear hk)
           (try clear hi)
           refine hK.out _ _ ⟨(blk_cell BK931.out 0).trans rfl, (blk_cell BK931.out 1).trans rfl, (blk_cell BK931.out 2).trans rfl, ((HB.out.cell (World.block_lt_of_cell? w _ hw932_0)).trans hw932_0), ((HB.out.cell (World.block_lt_of_cell? w _ hw932_1)).trans hw932_1), ((HB.out.cell (World.block_lt_of_cell? w _ hw932_2)).trans hw932_2), ((HB.out.cell (World.block_lt_of_cell? w _ hw932_3)).trans hw932_3), ((HB.out.cell (World.block_lt_of_cell? w _ hw932_4)).trans hw932_4), ((HB.out.cell (World.block_lt_of_cell? w _ hw934_0)).trans hw934_0), ((HB.out.cell (World.block_lt_of_cell? w _ hw934_1)).trans hw934_1), ((HB.out.cell (World.block_lt_of_cell? w _ hw934_2)).trans hw934_2), ((HB.out.cell (World.block_lt_of_cell? w _ hw934_3)).trans hw934_3), ((HB.out.cell (World.block_lt_of_cell? w _ hw934_4)).trans hw934_4)⟩ (fun hHeld => ?_)
           clear hK K
           refine norm_ (a' := ?_) ?_ ?_
           rotate_left
           ·
            show Act.put _ (some 16) _ = _
            simp only [Act.put, List.setIfInBounds_toArray, List.set_cons_zero, List.set_cons_succ, i64_w, i32_w]
            rfl
           refine pI_ 6 17 HT_ spec_RowOk.m7 rfl rfl ?_
           refine pI_ 7 18 HT_ spec_RowOk.m8 rfl rfl ?_
           refine pI_ 8 19 HT_ spec_RowOk.m9 rfl rfl ?_
           refine pI_ 10 21 HT_ spec_RowOk.m10 rfl rfl ?_
           refine pI_ 14 25 HT_ spec_RowOk.m11 rfl rfl ?_
           refine pI_ 16 27 HT_ spec_RowOk.m12 rfl rfl ?_
           refine take_ (i := 9) (N := some 20) (v := ?_) (a' := ?_) spec_RowOk.m13 rfl rfl (take_ofW HT_.out HW_.out (by kernel_rfl)) (fun _ _ _ h => h) (Or.inl ⟨by rfl, ?_⟩) hHeld ?_ ?_
           rotate_left
           ·
            rintro w' ⟨s0, s1, s2, s3, s4, s5, s6, s7, s8, s9, s10, s11, s12⟩
            go_simp
            with_reducible rfl
           rotate_left; (focus simp only [Act.put, List.setIfInBounds_toArray, List.set_cons_zero, List.set_cons_succ, i64_w, i32_w]; rfl)
           refine pI_ 11 22 HT_ spec_RowOk.m14 rfl rfl ?_
           refine pI_ 12 23 HT_ spec_RowOk.m15 rfl rfl ?_
           refine take_ (i := 13) (N := some 24) (v := ?_) (a' := ?_) spec_RowOk.m16 rfl rfl (take_ofW HT_.out HW_.out (by kernel_rfl)) (fun _ _ _ h => h) (Or.inl ⟨by rfl, ?_⟩) hHeld ?_ ?_
           rotate_left
           ·
            rintro w' ⟨s0, s1, s2, s3, s4, s5, s6, s7, s8, s9, s10, s11, s12⟩
            go_simp
            with_reducible rfl
           rotate_left; (focus simp only [Act.put, List.setIfInBounds_toArray, List.set_cons_zero, List.set_cons_succ, i64_w, i32_w]; rfl)
           refine take_ (i := 15) (N := some 26) (v := ?_) (a' := ?_) spec_RowOk.m17 rfl rfl (take_ofW HT_.out HW_.out (by kernel_rfl)) (fun _ _ _ h => h) (Or.inl ⟨by rfl, ?_⟩) hHeld ?_ ?_
           rotate_left
           ·
            rintro w' ⟨s0, s1, s2, s3, s4, s5, s6, s7, s8, s9, s10, s11, s12⟩
            go_simp
            with_reducible rfl
           rotate_left; (focus simp only [Act.put, List.setIfInBounds_toArray, List.set_cons_zero, List.set_cons_succ, i64_w, i32_w]; rfl)
           refine take_ (i := 17) (N := some 28) (v := ?_) (a' := ?_) spec_RowOk.m18 rfl rfl (take_ofW HT_.out HW_.out (by kernel_rfl)) (fun _ _ _ h => h) (Or.inl ⟨by rfl, ?_⟩) hHeld ?_ ?_
           rotate_left
           ·
            rintro w' ⟨s0, s1, s2, s3, s4, s5, s6, s7, s8, s9, s10, s11, s12⟩
            go_simp
            with_reducible rfl
           rotate_left; (focus simp only [Act.put, List.setIfInBounds_toArray, List.set_cons_zero, List.set_cons_succ, i64_w, i32_w]; rfl)
           refine pI_ 18 29 HT_ spec_RowOk.m19 rfl rfl ?_
           refine one_ (i := 19) (N := some 30) spec_RowOk.m20 rfl rfl (one_of HT_.out (by kernel_rfl)) (by decide) (fun K hK => ?_)
           refine goes_ Try.func84 (by kernel_rfl) rfl #[.int .i64 ((rd_Item l0_2 x3_1).f0), .int .i64 a0_0, .int .i64 (wrap64 (a0_1 - 1))] (by rfl) rfl rfl sm_ ?_
           with_reducible refine (spec_l1In.calls ((rd_Item l0_2 x3_1).f0) a0_0 (wrap64 (a0_1 - 1)) false _ A12.out).mono ?_
           rintro e w' ⟨rfl, ⟨nd, rfl⟩⟩
           refine ⟨_, rfl, ?_⟩
           refine hK.out _ _ ⟨(blk_cell BK931.out 0).trans rfl, (blk_cell BK931.out 1).trans rfl, (blk_cell BK931.out 2).trans rfl, ((HB.out.cell (World.block_lt_of_cell? w _ hw932_0)).trans hw932_0), ((HB.out.cell (World.block_lt_of_cell? w _ hw932_1)).trans hw932_1), ((HB.out.cell (World.block_lt_of_cell? w _ hw932_2)).trans hw932_2), ((HB.out.cell (World.block_lt_of_cell? w _ hw932_3)).trans hw932_3), ((HB.out.cell (World.block_lt_of_cell? w _ hw932_4)).trans hw932_4), ((HB.out.cell (World.block_lt_of_cell? w _ hw934_0)).trans hw934_0), ((HB.out.cell (World.block_lt_of_cell? w _ hw934_1)).trans hw934_1), ((HB.out.cell (World.block_lt_of_cell? w _ hw934_2)).trans hw934_2), ((HB.out.cell (World.block_lt_of_cell? w _ hw934_3)).trans hw934_3), ((HB.out.cell (World.block_lt_of_cell? w _ hw934_4)).trans hw934_4)⟩ (fun hHeld => ?_)
           clear hK K
           refine norm_ (a' := ?_) ?_ ?_
           rotate_left
           ·
            show Act.put _ (some 30) _ = _
            simp only [Act.put, List.setIfInBounds_toArray, List.set_cons_zero, List.set_cons_succ, i64_w, i32_w]
            rfl
           refine pI_ 20 31 HT_ spec_RowOk.m21 rfl rfl ?_
           refine pI_ 21 32 HT_ spec_RowOk.m22 rfl rfl ?_
           refine pI_ 22 33 HT_ spec_RowOk.m23 rfl rfl ?_
           refine pU_ 23 34 HT_ spec_RowOk.m24 rfl rfl ?_
           refine pU_ 24 35 HT_ spec_RowOk.m25 rfl rfl ?_
           refine pU_ 25 36 HT_ spec_RowOk.m26 rfl rfl ?_
           refine pU_ 26 37 HT_ spec_RowOk.m27 rfl rfl ?_
           refine pU_ 27 38 HT_ spec_RowOk.m35 rfl rfl ?_
           refine pU_ 28 39 HT_ spec_RowOk.m36 rfl rfl ?_
           refine pU_ 29 40 HT_ spec_RowOk.m37 rfl rfl ?_
           refine pU_ 30 41 HT_ spec_RowOk.m38 rfl rfl ?_
           refine pU_ 31 42 HT_ spec_RowOk.m39 rfl rfl ?_
           refine pU_ 32 43 HT_ spec_RowOk.m40 rfl rfl ?_
           refine pU_ 33 44 HT_ spec_RowOk.m41 rfl rfl ?_
           refine pU_ 34 45 HT_ spec_RowOk.m42 rfl rfl ?_
           refine pU_ 35 46 HT_ spec_RowOk.m28 rfl rfl ?_
           refine pU_ 36 47 HT_ spec_RowOk.m29 rfl rfl ?_
           refine pU_ 37 48 HT_ spec_RowOk.m30 rfl rfl ?_
           refine pU_ 38 49 HT_ spec_RowOk.m31 rfl rfl ?_
           refine pU_ 39 50 HT_ spec_RowOk.m32 rfl rfl ?_
           refine pU_ 40 51 HT_ spec_RowOk.m33 rfl rfl ?_
           refine pI_ 41 52 HT_ spec_RowOk.m34 rfl rfl ?_
           refine done_ (done_of HT_.out (by kernel_rfl)) ?_
           try go_wp2
           go_meet
           case rel => exact ⟨_, (true), (by first | rfl | (simp; done) | (simp [*]; done)), H', ⟨by have := HK1.out; have := HJ3.out; first | omega | exact Nat.le_refl _⟩, ⟨bq_ BK931.out⟩, ⟨hb_ HB.out⟩⟩
         ·
          replace c11 := Bool.eq_false_iff.mpr c11
          subst c11
          have H1 : (spec_RowOk.j2 kj3 x3_1 true a0_0 a0_1 l0_2) = some r := by rw [if_neg (show ¬ (false = true) by decide)] at H; exact H
          clear H
          have H := H1
          clear H1
          have H' := Aside0.mk H
          clear H
          try go_wp2
          have n0_ := Aside0.mk (blk_drew BK931.out)
          have n1_ := Aside0.mk (below_drew1 HB.out)
          clear BK931; clear HB
          have BK931 := n0_
          have HB := n1_
          clear n0_ n1_
          have p932 : 0 ≤ (x3_1 : Int) := of_decide_eq_true (by first | (with_reducible assumption) | assumption)
          have q932 : x3_1 < (l0_2.length : Int) := of_decide_eq_true (by first | (with_reducible assumption) | assumption)
          obtain ⟨ad932, e932, hx932_0, hx932_1, hx932_2, hx932_3, hx932_4⟩ := at_Item HR0_2.out x3_1 p932 q932
          have hw932_4 := hx932_4
          have hw932_3 := hx932_3
          have hw932_2 := hx932_2
          have hw932_1 := hx932_1
          have hw932_0 := hx932_0
          cases e932
          replace hx932_0 := (HB.out.cell (World.block_lt_of_cell? w _ hx932_0)).trans hx932_0
          replace hx932_1 := (HB.out.cell (World.block_lt_of_cell? w _ hx932_1)).trans hx932_1
          replace hx932_2 := (HB.out.cell (World.block_lt_of_cell? w _ hx932_2)).trans hx932_2
          replace hx932_3 := (HB.out.cell (World.block_lt_of_cell? w _ hx932_3)).trans hx932_3
          replace hx932_4 := (HB.out.cell (World.block_lt_of_cell? w _ hx932_4)).trans hx932_4
          replace p932 := eq_true p932
          replace q932 := eq_true q932
          refine start_ (n := 42) (S := fun w' => w'.cell? ⟨gb931, 0, none⟩ = some (.int .i64 a0_0) ∧ w'.cell? ⟨gb931, 1, none⟩ = some (.int .i64 a0_1) ∧ w'.cell? ⟨gb931, 2, none⟩ = some (.slice (some ad932) l0_2.length c0_2) ∧ w'.cell? (ad932.add ((x3_1).toNat * 5)) = some (.int .i64 ((rd_Item l0_2 x3_1).f0)) ∧ w'.cell? ⟨(ad932.add ((x3_1).toNat * 5)).block, (ad932.add ((x3_1).toNat * 5)).off + 1, none⟩ = some (.string ((rd_Item l0_2 x3_1).f1)) ∧ w'.cell? ⟨(ad932.add ((x3_1).toNat * 5)).block, (ad932.add ((x3_1).toNat * 5)).off + 2, none⟩ = some (.string ((rd_Item l0_2 x3_1).f2)) ∧ w'.cell? ⟨(ad932.add ((x3_1).toNat * 5)).block, (ad932.add ((x3_1).toNat * 5)).off + 3, none⟩ = some (.int .i64 ((rd_Item l0_2 x3_1).f3)) ∧ w'.cell? ⟨(ad932.add ((x3_1).toNat * 5)).block, (ad932.add ((x3_1).toNat * 5)).off + 4, none⟩ = some (.int .i64 ((rd_Item l0_2 x3_1).f4))) (ds := []) spec_RowOk.m0 (by kernel_rfl) rfl rfl ⟨(blk_cell BK931.out 0).trans rfl, (blk_cell BK931.out 1).trans rfl, (blk_cell BK931.out 2).trans rfl, ((HB.out.cell (World.block_lt_of_cell? w _ hw932_0)).trans hw932_0), ((HB.out.cell (World.block_lt_of_cell? w _ hw932_1)).trans hw932_1), ((HB.out.cell (World.block_lt_of_cell? w _ hw932_2)).trans hw932_2), ((HB.out.cell (World.block_lt_of_cell? w _ hw932_3)).trans hw932_3), ((HB.out.cell (World.block_lt_of_cell? w _ hw932_4)).trans hw932_4)⟩ (fun hHeld => ?_); refine with_tabW spec_RowOk.tab4 spec_RowOk.bits4 (fun HT_ HW_ => ?_)
          generalize wc.drew = w24 at BK931 HB hx932_0 hx932_1 hx932_2 hx932_3 hx932_4 hHeld ⊢
          refine pI_ 0 11 HT_ spec_RowOk.m1 rfl rfl ?_
          refine pI_ 2 13 HT_ spec_RowOk.m2 rfl rfl ?_
          refine take_ (i := 1) (N := some 12) (v := ?_) (a' := ?_) spec_RowOk.m3 rfl rfl (take_ofW HT_.out HW_.out (by kernel_rfl)) (fun _ _ _ h => h) (Or.inl ⟨by rfl, ?_⟩) hHeld ?_ ?_
          rotate_left
          ·
           rintro w' ⟨s0, s1, s2, s3, s4, s5, s6, s7⟩
           go_simp
           with_reducible rfl
          rotate_left; (focus simp only [Act.put, List.setIfInBounds_toArray, List.set_cons_zero, List.set_cons_succ, i64_w, i32_w]; rfl)
          refine pI_ 3 14 HT_ spec_RowOk.m4 rfl rfl ?_
          refine take_ (i := 4) (N := some 15) (v := ?_) (a' := ?_) spec_RowOk.m5 rfl rfl (take_ofW HT_.out HW_.out (by kernel_rfl)) (fun _ _ _ h => h) (Or.inl ⟨by rfl, ?_⟩) hHeld ?_ ?_
          rotate_left
          ·
           rintro w' ⟨s0, s1, s2, s3, s4, s5, s6, s7⟩
           go_simp
           with_reducible rfl
          rotate_left; (focus simp only [Act.put, List.setIfInBounds_toArray, List.set_cons_zero, List.set_cons_succ, i64_w, i32_w]; rfl)
          refine one_ (i := 5) (N := some 16) spec_RowOk.m6 rfl rfl (one_of HT_.out (by kernel_rfl)) (by decide) (fun K hK => ?_)
          refine goes_ Try.func107 (by kernel_rfl) rfl #[.agg #[.int .i64 ((rd_Item l0_2 x3_1).f0), .string ((rd_Item l0_2 x3_1).f1), .string ((rd_Item l0_2 x3_1).f2), .int .i64 ((rd_Item l0_2 x3_1).f3), .int .i64 ((rd_Item l0_2 x3_1).f4)]] (by rfl) rfl rfl sm_ ?_
          with_reducible refine (spec_l3Item.calls kj3 ((rd_Item l0_2 x3_1).f0) ((rd_Item l0_2 x3_1).f1) ((rd_Item l0_2 x3_1).f2) ((rd_Item l0_2 x3_1).f3) ((rd_Item l0_2 x3_1).f4) false _ A10.out).mono ?_
          rintro e w25 ⟨rfl, hb⟩
          refine ⟨_, rfl, ?_⟩
          have n0_ := Aside0.mk (bb_ BK931.out hb)
          have n1_ := Aside0.mk (below_step (hb_ HB.out) hb)
          clear BK931; clear HB
          have BK931 := n0_
          have HB := n1_
          clear n0_ n1_
          (try clear hb)
          (try clear hb2)
          (try clear hk)
          (try clear hi)
          refine hK.out _ _ ⟨(blk_cell BK931.out 0).trans rfl, (blk_cell BK931.out 1).trans rfl, (blk_cell BK931.out 2).trans rfl, ((HB.out.cell (World.block_lt_of_cell? w _ hw932_0)).trans hw932_0), ((HB.out.cell (World.block_lt_of_cell? w _ hw932_1)).trans hw932_1), ((HB.out.cell (World.block_lt_of_cell? w _ hw932_2)).trans hw932_2), ((HB.out.cell (World.block_lt_of_cell? w _ hw932_3)).trans hw932_3), ((HB.out.cell (World.block_lt_of_cell? w _ hw932_4)).trans hw932_4)⟩ (fun hHeld => ?_)
          clear hK K
          refine norm_ (a' := ?_) ?_ ?_
          rotate_left
          ·
           show Act.put _ (some 16) _ = _
           simp only [Act.put, List.setIfInBounds_toArray, List.set_cons_zero, List.set_cons_succ, i64_w, i32_w]
           rfl
          refine pI_ 6 17 HT_ spec_RowOk.m7 rfl rfl ?_
          refine pI_ 7 18 HT_ spec_RowOk.m8 rfl rfl ?_
          refine pU_ 8 19 HT_ spec_RowOk.m9 rfl rfl ?_
          refine pU_ 9 20 HT_ #[true, true, true, true, true, true, true, true, true, true, false, false, false, false, false, false, false, false, false, false, false, false, false, false, false, false, false, false, false, false, false, false, false, false, false, false, false, false, false, false, false, false] rfl rfl ?_
          refine pU_ 10 21 HT_ #[true, true, true, true, true, true, true, true, true, true, true, false, false, false, false, false, false, false, false, false, false, false, false, false, false, false, false, false, false, false, false, false, false, false, false, false, false, false, false, false, false, false] rfl rfl ?_
          refine pU_ 11 22 HT_ #[true, true, true, true, true, true, true, true, true, true, true, true, false, false, false, false, false, false, false, false, false, false, false, false, false, false, false, false, false, false, false, false, false, false, false, false, false, false, false, false, false, false] rfl rfl ?_
          refine pU_ 12 23 HT_ #[true, true, true, true, true, true, true, true, true, true, true, true, true, false, false, false, false, false, false, false, false, false, false, false, false, false, false, false, false, false, false, false, false, false, false, false, false, false, false, false, false, false] rfl rfl ?_
          refine pU_ 13 24 HT_ #[true, true, true, true, true, true, true, true, true, true, true, true, true, true, false, false, false, false, false, false, false, false, false, false, false, false, false, false, false, false, false, false, false, false, false, false, false, false, false, false, false, false] rfl rfl ?_
          refine pU_ 14 25 HT_ #[true, true, true, true, true, true, true, true, true, true, true, true, true, true, true, false, false, false, false, false, false, false, false, false, false, false, false, false, false, false, false, false, false, false, false, false, false, false, false, false, false, false] rfl rfl ?_
          refine pU_ 15 26 HT_ #[true, true, true, true, true, true, true, true, true, true, true, true, true, true, true, true, false, false, false, false, false, false, false, false, false, false, false, false, false, false, false, false, false, false, false, false, false, false, false, false, false, false] rfl rfl ?_
          refine pU_ 16 27 HT_ spec_RowOk.m17 rfl rfl ?_
          refine pU_ 17 28 HT_ spec_RowOk.m18 rfl rfl ?_
          refine pU_ 18 29 HT_ spec_RowOk.m19 rfl rfl ?_
          refine pU_ 19 30 HT_ spec_RowOk.m20 rfl rfl ?_
          refine pU_ 20 31 HT_ spec_RowOk.m21 rfl rfl ?_
          refine pI_ 21 32 HT_ spec_RowOk.m22 rfl rfl ?_
          refine pI_ 22 33 HT_ spec_RowOk.m23 rfl rfl ?_
          refine pU_ 23 34 HT_ spec_RowOk.m24 rfl rfl ?_
          refine pU_ 24 35 HT_ spec_RowOk.m25 rfl rfl ?_
          refine pU_ 25 36 HT_ spec_RowOk.m26 rfl rfl ?_
          refine pU_ 26 37 HT_ spec_RowOk.m27 rfl rfl ?_
          refine pU_ 27 38 HT_ spec_RowOk.m35 rfl rfl ?_
          refine pU_ 28 39 HT_ spec_RowOk.m36 rfl rfl ?_
          refine pU_ 29 40 HT_ spec_RowOk.m37 rfl rfl ?_
          refine pU_ 30 41 HT_ spec_RowOk.m38 rfl rfl ?_
          refine pU_ 31 42 HT_ spec_RowOk.m39 rfl rfl ?_
          refine pU_ 32 43 HT_ spec_RowOk.m40 rfl rfl ?_
          refine pU_ 33 44 HT_ spec_RowOk.m41 rfl rfl ?_
          refine pU_ 34 45 HT_ spec_RowOk.m42 rfl rfl ?_
          refine pU_ 35 46 HT_ spec_RowOk.m28 rfl rfl ?_
          refine pU_ 36 47 HT_ spec_RowOk.m29 rfl rfl ?_
          refine pU_ 37 48 HT_ spec_RowOk.m30 rfl rfl ?_
          refine pU_ 38 49 HT_ spec_RowOk.m31 rfl rfl ?_
          refine pU_ 39 50 HT_ spec_RowOk.m32 rfl rfl ?_
          refine pU_ 40 51 HT_ spec_RowOk.m33 rfl rfl ?_
          refine pI_ 41 52 HT_ spec_RowOk.m34 rfl rfl ?_
          refine done_ (done_of HT_.out (by kernel_rfl)) ?_
          try go_wp2
          go_meet
          case rel => exact ⟨_, (true), (by first | rfl | (simp; done) | (simp [*]; done)), H', ⟨by have := HK1.out; have := HJ3.out; first | omega | exact Nat.le_refl _⟩, ⟨bq_ BK931.out⟩, ⟨hb_ HB.out⟩⟩
        ·
         rw [if_neg c9] at H
         exact absurd H (by simp)
       ·
        rw [if_neg c8] at H
        exact absurd H (by simp)
      case rest =>
       clear HC7
       (try clear c1); (try clear p2); (try clear p6); (try clear c8); (try clear c9); (try clear p9); (try clear q9); (try clear hx9); (try clear c10); (try clear c11); (try clear hx932_0); (try clear hx932_1); (try clear hx932_2); (try clear hx932_3); (try clear hx932_4); (try clear hx934_0); (try clear hx934_1); (try clear hx934_2); (try clear hx934_3); (try clear hx934_4); (try clear p932); (try clear p934); (try clear q932); (try clear q934)
       obtain ⟨kq, x52_6, rfl, HA, HJ6, BK931, HB⟩ := hcut
       cases kq with
       | zero => exact absurd HA.out (by simp [spec_RowOk.j2])
       | succ kj6 =>
        have H := HA.out
        clear HA
        simp only [spec_RowOk.j2] at H
        by_cases c26 : x52_6 = true
        ·
         subst c26
         have H1 : (some false) = some r := by rw [if_pos rfl] at H; exact H
         clear H
         have H := H1
         clear H1
         obtain rfl := Option.some.inj H
         go_wp2
         go_ret
         exact ⟨by first | rfl | (simp [errW_none, errW_some] <;> rfl) | (simp [*, errW_none, errW_some] <;> rfl), hb_ HB.out⟩
        ·
         replace c26 := Bool.eq_false_iff.mpr c26
         subst c26
         have H1 : (spec_RowOk.l0 kj6 (wrap64 (x3_1 + 1)) a0_0 a0_1 l0_2) = some r := by rw [if_neg (show ¬ (false = true) by decide)] at H; exact H
         clear H
         have H := H1
         clear H1
         have H' := Aside0.mk H
         clear H
         go_wp2
         go_roundg kj6
         case measure => have := HK1.out; have := HJ3.out; have := HJ6.out; omega
         case rel => exact ⟨(wrap64 (x3_1 + 1)), (by first | rfl | (simp; done) | (simp [*]; done)), H', ⟨by have := HK1.out; have := HJ3.out; have := HJ6.out; omega⟩, ⟨bq_ BK931.out⟩, ⟨hb_ HB.out⟩⟩
 case rest =>
  clear HC2
  (try clear c1); (try clear c2); (try clear p2); (try clear p6); (try clear c8); (try clear c9); (try clear p9); (try clear q9); (try clear hx9); (try clear c10); (try clear c11); (try clear c26); (try clear hx932_0); (try clear hx932_1); (try clear hx932_2); (try clear hx932_3); (try clear hx932_4); (try clear hx934_0); (try clear hx934_1); (try clear hx934_2); (try clear hx934_3); (try clear hx934_4); (try clear p2); (try clear p6); (try clear p9); (try clear p932); (try clear p934); (try clear q9); (try clear q932); (try clear q934)
  obtain ⟨kq, HA, HJ1, BK931, HB⟩ := hcut
  cases kq with
  | zero => exact absurd HA.out (by simp [spec_RowOk.j3])
  | succ kj1 =>
   have H := HA.out
   clear HA
   simp only [spec_RowOk.j3] at H
   replace H := Option.bind_eq_some_iff.mp H
   obtain ⟨t938, A270, H⟩ := H
   replace H : (if t938 = true then (if a0_1 ≤ 100000 then (some (decide ((l0_2.length : Int) ≤ 80))) else (some false)) else (some false)) = some r := H
   have A27 := Aside0.mk A270
   clear A270
   by_cases c28 : t938 = true
   ·
    subst c28
    have H1 : (if a0_1 ≤ 100000 then (some (decide ((l0_2.length : Int) ≤ 80))) else (some false)) = some r := by rw [if_pos rfl] at H; exact H
    clear H
    have H := H1
    clear H1
    by_cases c29 : a0_1 ≤ 100000
    ·
     rw [if_pos c29] at H
     have c29b0 : decide (a0_1 ≤ 100000) = true := decide_eq_true c29
     clear c29
     obtain rfl := Option.some.inj H
     have hcz30_0 : wc.cell? ⟨gb931, 0, none⟩ = some (.int .i64 a0_0) := (blk_cell BK931.out 0).trans rfl
     have hcz30_1 : wc.cell? ⟨gb931, 1, none⟩ = some (.int .i64 a0_1) := (blk_cell BK931.out 1).trans rfl
     have hcz30_2 : wc.cell? ⟨gb931, 2, none⟩ = some (.slice A0_2 l0_2.length c0_2) := (blk_cell BK931.out 2).trans rfl
     have hfz30_0 := blk_frozen BK931.out 0
     have hfz30_1 := blk_frozen BK931.out 1
     have hfz30_2 := blk_frozen BK931.out 2
     go_wp2_with (first | ((with_reducible refine gate_callee (f := 84) rfl ?_); refine goesL_ (some 57) rfl rfl Try.func84 (by kernel_rfl) rfl #[.int .i64 a0_0, .int .i64 0, .int .i64 a0_1] rfl sm_ ?_; (with_reducible refine (spec_l1In.calls a0_0 0 a0_1 true _ A27.out).mono ?_); rintro e w' ⟨rfl, ⟨nd, rfl⟩⟩; refine ⟨_, rfl, ?_⟩))
     go_ret
     exact ⟨by first | rfl | (simp [errW_none, errW_some] <;> rfl) | (simp [*, errW_none, errW_some] <;> rfl), hb_ HB.out⟩
    ·
     rw [if_neg c29] at H
     have c29b0 : decide (a0_1 ≤ 100000) = false := decide_eq_false c29
     clear c29
     obtain rfl := Option.some.inj H
     have hcz31_0 : wc.cell? ⟨gb931, 0, none⟩ = some (.int .i64 a0_0) := (blk_cell BK931.out 0).trans rfl
     have hcz31_1 : wc.cell? ⟨gb931, 1, none⟩ = some (.int .i64 a0_1) := (blk_cell BK931.out 1).trans rfl
     have hcz31_2 : wc.cell? ⟨gb931, 2, none⟩ = some (.slice A0_2 l0_2.length c0_2) := (blk_cell BK931.out 2).trans rfl
     have hfz31_0 := blk_frozen BK931.out 0
     have hfz31_1 := blk_frozen BK931.out 1
     have hfz31_2 := blk_frozen BK931.out 2
     go_wp2_with (first | ((with_reducible refine gate_callee (f := 84) rfl ?_); refine goesL_ (some 57) rfl rfl Try.func84 (by kernel_rfl) rfl #[.int .i64 a0_0, .int .i64 0, .int .i64 a0_1] rfl sm_ ?_; (with_reducible refine (spec_l1In.calls a0_0 0 a0_1 true _ A27.out).mono ?_); rintro e w' ⟨rfl, ⟨nd, rfl⟩⟩; refine ⟨_, rfl, ?_⟩))
     go_ret
     exact ⟨by first | rfl | (simp [errW_none, errW_some] <;> rfl) | (simp [*, errW_none, errW_some] <;> rfl), hb_ HB.out⟩
   ·
    replace c28 := Bool.eq_false_iff.mpr c28
    subst c28
    have H1 : (some false) = some r := by rw [if_neg (show ¬ (false = true) by decide)] at H; exact H
    clear H
    have H := H1
    clear H1
    obtain rfl := Option.some.inj H
    have hcz32_0 : wc.cell? ⟨gb931, 0, none⟩ = some (.int .i64 a0_0) := (blk_cell BK931.out 0).trans rfl
    have hcz32_1 : wc.cell? ⟨gb931, 1, none⟩ = some (.int .i64 a0_1) := (blk_cell BK931.out 1).trans rfl
    have hcz32_2 : wc.cell? ⟨gb931, 2, none⟩ = some (.slice A0_2 l0_2.length c0_2) := (blk_cell BK931.out 2).trans rfl
    have hfz32_0 := blk_frozen BK931.out 0
    have hfz32_1 := blk_frozen BK931.out 1
    have hfz32_2 := blk_frozen BK931.out 2
    go_wp2_with (first | ((with_reducible refine gate_callee (f := 84) rfl ?_); refine goesL_ (some 57) rfl rfl Try.func84 (by kernel_rfl) rfl #[.int .i64 a0_0, .int .i64 0, .int .i64 a0_1] rfl sm_ ?_; (with_reducible refine (spec_l1In.calls a0_0 0 a0_1 false _ A27.out).mono ?_); rintro e w' ⟨rfl, ⟨nd, rfl⟩⟩; refine ⟨_, rfl, ?_⟩))
    go_ret
    exact ⟨by first | rfl | (simp [errW_none, errW_some] <;> rfl) | (simp [*, errW_none, errW_some] <;> rfl), hb_ HB.out⟩
/-! ### spec_l3Copy: function 95 -/
def spec_l3Copy.f (a0_0 : Int) (a0_1 : Int) (l0_2 : List (S_Item)) : Option (Int × Int × (List (S_Item))) := (some (([] : List (S_Item)) : List (S_Item))).bind fun y941 => (if y941.length + l0_2.length < 2513169434916 then (some (a0_0, a0_1, (y941 ++ l0_2))) else (none))
def spec_l3Copy.T1 : Bool × List (List Nat × List Nat) := (true, [([], []), ([0], [0]), ([], []), ([2], [2]), ([], []), ([], []), ([5], [5]), ([4, 6], [4, 6]), ([1, 3, 7], [1, 3, 7]), ([8, 7, 0, 1, 2, 3, 4, 5, 6, 7, 8], [8])])
def spec_l3Copy.B1 : List Nat := [0, 1, 0, 4, 0, 0, 32, 112, 255, 511]
theorem spec_l3Copy.tab1 : rtab .any (opsOf Try.f95 1) = spec_l3Copy.T1 := by kernel_rfl
theorem spec_l3Copy.bits1 : waitsOk spec_l3Copy.T1.2 spec_l3Copy.B1 = true := by kernel_rfl
set_option maxHeartbeats 8000000 in
set_option maxRecDepth 100000 in
theorem spec_l3Copy.calls (a0_0 : Int) (a0_1 : Int) (A0_2 : Option Addr) (c0_2 : Nat) (l0_2 : List (S_Item)) (r1 : Int) (r2 : Int) (r3 : List (S_Item)) (w : World) (hr0_2 : Kd.C k_Item w A0_2 l0_2.length l0_2) (hc0_2 : l0_2.length ≤ c0_2) (h : spec_l3Copy.f a0_0 a0_1 l0_2 = some (r1, r2, r3)) :
 Calls Try.prog 95 #[.agg #[.int .i64 a0_0, .int .i64 a0_1, .slice A0_2 l0_2.length c0_2]] w fun e w' => ∃ v2_ : Value, e = .returned (.agg #[.int .i64 r1, .int .i64 r2, v2_]) ∧ Kd.R k_Item 69 w' w.heap.size (fun _ => True) v2_ r3 ∧ Below w.heap.size w w' := by
 have hu57 := Try.underlying57
 have HR0_2 := Aside0.mk hr0_2
 have HC0_2 := Aside0.mk hc0_2
 clear hr0_2 hc0_2
 have HB := Aside0.mk (Below.refl w.heap.size w)
 have H : ((some (([] : List (S_Item)) : List (S_Item))).bind fun y941 => (if y941.length + l0_2.length < 2513169434916 then (some (a0_0, a0_1, (y941 ++ l0_2))) else (none))) = some (r1, r2, r3) := h
 clear h
 obtain ⟨y941, hy941⟩ : ∃ y_ : List (S_Item), y_ = (([] : List (S_Item))) := ⟨_, rfl⟩
 replace H : (if y941.length + l0_2.length < 2513169434916 then (some (a0_0, a0_1, (y941 ++ l0_2))) else (none)) = some (r1, r2, r3) := by first | (rw [hy941]; with_reducible exact H) | (have H2_ := (Option.bind_some _ _).symm.trans H; rw [hy941]; with_reducible exact H2_) | (have H2_ := (Option.bind_some _ _).symm.trans H; with_reducible exact H2_) | with_reducible exact H | (rw [hy941]; exact H) | exact H
 have Ny941 := Aside0.mk hy941
 clear hy941
 by_cases c2 : y941.length + l0_2.length < 2513169434916
 ·
  rw [if_pos c2] at H
  have LMc2 := Aside0.mk c2
  clear c2
  obtain ⟨y944, hy944⟩ : ∃ y_ : List (S_Item), y_ = (y941 ++ l0_2) := ⟨_, rfl⟩
  replace H : (some (a0_0, a0_1, y944)) = some (r1, r2, r3) := by first | (rw [hy944]; with_reducible exact H) | (have H2_ := (Option.bind_some _ _).symm.trans H; rw [hy944]; with_reducible exact H2_) | (have H2_ := (Option.bind_some _ _).symm.trans H; with_reducible exact H2_) | with_reducible exact H | (rw [hy944]; exact H) | exact H
  have Ny944 := Aside0.mk hy944
  clear hy944
  simp only [Option.some.injEq, Prod.mk.injEq] at H
  obtain ⟨rfl, rfl, rfl⟩ := H
  go_enter Try.func95, Try.ntmps95
  try go_wp2_with (first | ((with_reducible refine gate_dst (N := 1) rfl ?_); refine box_event ?hg (N := 1) ?hd (cs := #[.int .i64 a0_0, .int .i64 a0_1, .slice A0_2 l0_2.length c0_2]) (t := 57) ?hr ?_; (case hd => rfl); (case hg => rfl); (case hr => first | (go_simp; done) | (go_simp; rfl)); intro gb939 hg w3 hbox hb; have n0_ := Aside0.mk (below_step (hb_ HB.out) hb); have n1_ := Aside0.mk (hbox); have n2_ := Aside0.mk ((by rw [hg]; exact (below_size (hb_ HB.out)) : w.heap.size ≤ gb939)); have n3_ := Aside0.mk ((by rw [hg]; exact (below_size (hb_ HB.out)) : w.heap.size ≤ gb939)); clear HB; have HB := n0_; have BK939 := n1_; have GW939 := n2_; have GE939 := n3_; clear n0_ n1_ n2_ n3_; clear hb hbox hg) | ((with_reducible refine gate_dst (N := 2) rfl ?_); refine box_event ?hg (N := 2) ?hd (cs := #[.int .i64 0, .int .i64 0, .slice none 0 0]) (t := 57) ?hr ?_; (case hd => rfl); (case hg => rfl); (case hr => first | (go_simp; done) | (go_simp; rfl)); intro gb940 hg w4 hbox hb; have n0_ := Aside0.mk (bb_ BK939.out hb); have n1_ := Aside0.mk (below_step (hb_ HB.out) hb); have n2_ := Aside0.mk (hbox); have n3_ := Aside0.mk ((by rw [hg]; exact (below_size (hb_ HB.out)) : w.heap.size ≤ gb940)); have n4_ := Aside0.mk ((by rw [hg]; exact (below_size (hb_ HB.out)) : w.heap.size ≤ gb940)); have n5_ := Aside0.mk ((by rw [hg]; exact Nat.ne_of_lt (blk_lt (g := gb939) (o := .cells #[.int .i64 a0_0, .int .i64 a0_1, .slice A0_2 l0_2.length c0_2] 57 (0, 0)) (bq_ BK939.out)) : gb939 ≠ gb940)); have n6_ := Aside0.mk ((by rw [hg]; exact Nat.ne_of_gt (blk_lt (g := gb939) (o := .cells #[.int .i64 a0_0, .int .i64 a0_1, .slice A0_2 l0_2.length c0_2] 57 (0, 0)) (bq_ BK939.out)) : gb940 ≠ gb939)); clear BK939; clear HB; have BK939 := n0_; have HB := n1_; have BK940 := n2_; have GW940 := n3_; have GE940 := n4_; have NB939_940 := n5_; have NB940_939 := n6_; clear n0_ n1_ n2_ n3_ n4_ n5_ n6_; clear hb hbox hg))
  have n0_ := Aside0.mk (blk_drew BK939.out)
  have n1_ := Aside0.mk (blk_drew BK940.out)
  have n2_ := Aside0.mk (below_drew1 HB.out)
  clear BK939; clear BK940
  clear HB
  have BK939 := n0_
  have BK940 := n1_
  have HB := n2_
  clear n0_ n1_ n2_
  refine start_ (n := 10) (S := fun w' => w'.cell? ⟨gb939, 0, none⟩ = some (.int .i64 a0_0) ∧ w'.cell? ⟨gb939, 1, none⟩ = some (.int .i64 a0_1) ∧ w'.cell? ⟨gb939, 2, none⟩ = some (.slice A0_2 l0_2.length c0_2)) (ds := []) #[false, false, false, false, false, false, false, false, false, false] (by kernel_rfl) rfl rfl ⟨(blk_cell BK939.out 0).trans rfl, (blk_cell BK939.out 1).trans rfl, (blk_cell BK939.out 2).trans rfl⟩ (fun hHeld => ?_); refine with_tabW spec_l3Copy.tab1 spec_l3Copy.bits1 (fun HT_ HW_ => ?_)
  generalize w4.drew = w5 at BK939 BK940 HB hHeld ⊢
  refine pI_ 0 3 HT_ #[true, false, false, false, false, false, false, false, false, false] rfl rfl ?_
  refine pI_ 2 5 HT_ #[true, false, true, false, false, false, false, false, false, false] rfl rfl ?_
  refine pI_ 5 8 HT_ #[true, false, true, false, false, true, false, false, false, false] rfl rfl ?_
  refine take_ (i := 1) (N := some 4) (v := ?_) (a' := ?_) #[true, true, true, false, false, true, false, false, false, false] rfl rfl (take_ofW HT_.out HW_.out (by kernel_rfl)) (fun _ _ _ h => h) (Or.inl ⟨by rfl, ?_⟩) hHeld ?_ ?_
  rotate_left
  ·
   rintro w' ⟨s0, s1, s2⟩
   go_simp
   with_reducible rfl
  rotate_left; (focus simp only [Act.put, List.setIfInBounds_toArray, List.set_cons_zero, List.set_cons_succ, i64_w, i32_w]; rfl)
  refine take_ (i := 3) (N := some 6) (v := ?_) (a' := ?_) #[true, true, true, true, false, true, false, false, false, false] rfl rfl (take_ofW HT_.out HW_.out (by kernel_rfl)) (fun _ _ _ h => h) (Or.inl ⟨by rfl, ?_⟩) hHeld ?_ ?_
  rotate_left
  ·
   rintro w' ⟨s0, s1, s2⟩
   go_simp
   with_reducible rfl
  rotate_left; (focus simp only [Act.put, List.setIfInBounds_toArray, List.set_cons_zero, List.set_cons_succ, i64_w, i32_w]; rfl)
  refine take_ (i := 6) (N := some 9) (v := ?_) (a' := ?_) #[true, true, true, true, false, true, true, false, false, false] rfl rfl (take_ofW HT_.out HW_.out (by kernel_rfl)) (fun _ _ _ h => h) (Or.inl ⟨by rfl, ?_⟩) hHeld ?_ ?_
  rotate_left
  ·
   rintro w' ⟨s0, s1, s2⟩
   go_simp
   with_reducible rfl
  rotate_left; (focus simp only [Act.put, List.setIfInBounds_toArray, List.set_cons_zero, List.set_cons_succ, i64_w, i32_w]; rfl)
  refine one_ (i := 4) (N := some 7) #[true, true, true, true, true, true, true, false, false, false] rfl rfl (one_of HT_.out (by kernel_rfl)) (by decide) (fun K hK => ?_)
  refine Kd.R_lit_step k_Item _ 69 ?hg (N := 7) ?hd (xs := ([] : List (S_Item))) (inner := []) (ok := fun _ => True) (okp := fun _ => True) ?hr ?hp (fun _ hk => hk) trivial (Below.refl _ _) (Nat.le_refl _) (by simp) ?_; (case hd => rfl); (case hg => rfl); (case hr => first | (go_simp; done) | (go_simp; rfl)); (case hp => exact (Reps.none _ _))
  intro v942 w6 ho7 hb hg_ hnew_
  clear hg_ hnew_
  (first | rw [← Ny941.out] at ho7 | (simp only [Int.reduceToNat] at ho7; rw [← Ny941.out] at ho7))
  have n0_ := Aside0.mk (Kd.R_lower ho7 (below_size (hb_ HB.out)))
  have n1_ := Aside0.mk (bb_ BK939.out hb)
  have n2_ := Aside0.mk (bb_ BK940.out hb)
  have n3_ := Aside0.mk (below_step (hb_ HB.out) hb)
  clear BK939; clear BK940
  clear HB
  have HO943 := n0_
  have BK939 := n1_
  have BK940 := n2_
  have HB := n3_
  clear n0_ n1_ n2_ n3_; clear hb ho7
  refine hK.out _ _ ⟨(blk_cell BK939.out 0).trans rfl, (blk_cell BK939.out 1).trans rfl, (blk_cell BK939.out 2).trans rfl⟩ (fun hHeld => ?_)
  clear hK K
  refine norm_ (a' := ?_) ?_ ?_
  rotate_left
  ·
   show Act.put _ (some 7) _ = _
   simp only [Act.put, List.setIfInBounds_toArray, List.set_cons_zero, List.set_cons_succ, i64_w, i32_w]
   rfl
  refine one_ (i := 7) (N := some 10) #[true, true, true, true, true, true, true, true, false, false] rfl rfl (one_of HT_.out (by kernel_rfl)) (by decide) (fun K hK => ?_)
  refine Kd.R_append_rows_step k_Item (w0 := w) w.heap.size (by rfl) (.tmp 7) (.tmp 9) 55 69 (.agg #[(.int .i64 0), (.string ⟨#[]⟩), (.string ⟨#[]⟩), (.int .i64 0), (.int .i64 0)]) 56 rfl Try.underlying55 info69 rfl (by decide) (by omega) v942 y941 l0_2 _ _ _ (fun _ => True) (fun _ => False) rfl rfl ?aO ?aR (fun _ _ h => h) (fun _ h => h.elim) ?aF ?aB ?aS ?aL ?_
  (case aR => repeat (first | exact (Kd.C_below HR0_2.out HB.out) | (with_reducible refine Kd.C_alloc ?_ _) | (with_reducible refine Kd.C_drewN ?_ _) | (with_reducible refine Kd.C_drew ?_)))
  (case aB => exact (hb_ HB.out))
  (case aF => exact (fun _ _ => trivial))
  (case aO => exact (rq_ HO943.out))
  (case aS => exact (below_size (hb_ HB.out)))
  (case aL => have := LMc2.out; omega)
  intro v945 w8 ho hb hg hat
  rw [← Ny944.out] at ho
  have n0_ := Aside0.mk (blk_grown (g := gb939) (o := .cells #[.int .i64 a0_0, .int .i64 a0_1, .slice A0_2 l0_2.length c0_2] 57 (0, 0)) (bq_ BK939.out) hg (Kd.R_ne HO943.out BK939.out (by decide)))
  have n1_ := Aside0.mk (blk_grown (g := gb940) (o := .cells #[.int .i64 0, .int .i64 0, .slice none 0 0] 57 (0, 0)) (bq_ BK940.out) hg (Kd.R_ne HO943.out BK940.out (by decide)))
  have n2_ := Aside0.mk (hb)
  have n3_ := Aside0.mk (ho)
  clear BK939; clear BK940
  clear HB; clear HO943
  have BK939 := n0_
  have BK940 := n1_
  have HB := n2_
  have HO946 := n3_
  clear n0_ n1_ n2_ n3_; clear ho hb hg hat
  obtain ⟨Ao9, co9, eo9⟩ := Kd.R_slice HO946.out
  (first | subst eo9 | (injection eo9 with f1_ f2_ f3_; have f4_ := f1_.symm; have f5_ := f3_.symm; clear f1_ f2_ f3_; subst f4_; subst f5_))
  refine hK.out _ _ ⟨(blk_cell BK939.out 0).trans rfl, (blk_cell BK939.out 1).trans rfl, (blk_cell BK939.out 2).trans rfl⟩ (fun hHeld => ?_)
  clear hK K
  refine norm_ (a' := ?_) ?_ ?_
  rotate_left
  ·
   show Act.put _ (some 10) _ = _
   simp only [Act.put, List.setIfInBounds_toArray, List.set_cons_zero, List.set_cons_succ, i64_w, i32_w]
   rfl
  refine pI_ 8 11 HT_ #[true, true, true, true, true, true, true, true, true, false] rfl rfl ?_
  refine one_ (i := 9) (N := none) #[true, true, true, true, true, true, true, true, true, true] rfl rfl (one_of HT_.out (by kernel_rfl)) (by decide) (fun K hK => ?_)
  have hs10 : w8.cell? ⟨gb940, 0, none⟩ = some (.int .i64 0) := (blk_cell BK940.out 0).trans rfl
  have hfs10 := blk_frozen BK940.out 0
  have hns10_0 := NB939_940.out
  have hms10_0 := NB940_939.out
  have hs11 : w8.cell? ⟨gb940, 1, none⟩ = some (.int .i64 0) := (blk_cell BK940.out 1).trans rfl
  have hfs11 := blk_frozen BK940.out 1
  have hns11_0 := NB939_940.out
  have hms11_0 := NB940_939.out
  have hs12 : w8.cell? ⟨gb940, 2, none⟩ = some (.slice none 0 0) := (blk_cell BK940.out 2).trans rfl
  have hfs12 := blk_frozen BK940.out 2
  have hns12_0 := NB939_940.out
  have hms12_0 := NB940_939.out
  refine skip_ (w1 := ?_) (by rfl) rfl ?_ ?_
  rotate_left; (focus go_simp; rfl)
  refine hK.out _ _ ⟨((cell_far (p := ⟨gb940, _, none⟩) NB939_940.out _).trans (((cell_far (p := ⟨gb940, _, none⟩) NB939_940.out _).trans (((cell_far (p := ⟨gb940, _, none⟩) NB939_940.out _).trans (hHeld.1)))))), ((cell_far (p := ⟨gb940, _, none⟩) NB939_940.out _).trans (((cell_far (p := ⟨gb940, _, none⟩) NB939_940.out _).trans (((cell_far (p := ⟨gb940, _, none⟩) NB939_940.out _).trans (hHeld.2.1)))))), ((cell_far (p := ⟨gb940, _, none⟩) NB939_940.out _).trans (((cell_far (p := ⟨gb940, _, none⟩) NB939_940.out _).trans (((cell_far (p := ⟨gb940, _, none⟩) NB939_940.out _).trans (hHeld.2.2))))))⟩ (fun hHeld => ?_)
  clear hK K
  refine done_ (done_of HT_.out (by kernel_rfl)) ?_
  try go_wp2
  refine bodyPost_ret (results_cell_row rfl _ _ gb940 57 #[.int .i64 a0_0, .int .i64 a0_1, .slice Ao9 y944.length co9] (0, 0) _ rfl (bp_ BK940.out) Try.underlying57 rfl (by kernel_rfl)) rfl ?_
  exact ⟨_, by first | rfl | (simp [errW_none, errW_some] <;> rfl) | (simp [*, errW_none, errW_some] <;> rfl), by (with_reducible repeat (first | apply Kd.R_alloc | apply Kd.R_drewN | apply Kd.R_drew)); exact Kd.R_mono (Kd.R_far (p := ⟨gb940, 2, none⟩) (Kd.R_far (p := ⟨gb940, 1, none⟩) (Kd.R_far (p := ⟨gb940, 0, none⟩) (Kd.R_types HO946.out BK940.out (by decide)) (fun _ hk => hk.2) (.int .i64 a0_0)) (fun _ hk => hk.2) (.int .i64 a0_1)) (fun _ hk => hk.2) (.slice Ao9 y944.length co9)) (fun _ hk => trivial), hb_ HB.out⟩
 ·
  rw [if_neg c2] at H
  exact absurd H (by simp)

end Go.Proofs.Ytiknkolclcdajaa.Q
