/- Made by a program of ours out of the print of the loaded functions: for each of some functions a plain function, and the walk that shows that a call comes to what it says. No condition but those of each theorem. -/
import Derived.Test.YthmjhhkheohgfaaZXMakerSet0
import Derived.Test.YthmjhhkheohgfaaZXMakerSeta
import Derived.Test.YthmjhhkheohgfaaZXMakerSetb
namespace Go.Proofs.Ythmjhhkheohgfaa.Q
open Go.RowKit Go.Proofs.YthmjhhkheohgfaaW.PrintWords Go.Proofs.YthmjhhkheohgfaaW.PrintLast Go.Proofs.YthmjhhkheohgfaaW.PrintMore
attribute [local go_sem] max2_int min2_int max_two min_two max_three min_three max_four min_four   -- for this text's walks alone
set_option linter.unusedVariables false
set_option linter.unusedSimpArgs false

/-! ### laws_FnExactMakerSet: function 5 -/
def laws_FnExactMakerSet.f (k : Nat) (l0 : List (S_LMaker)) (a1_0 : Int) (a1_1 : Int) (a1_2 : Int) (a1_3 : Int) (l1_4 : List (S_LMark)) : Option Bool :=
 (laws_szMakerS.f k l0 1048576).bind fun t => if t < 0 then some true else (laws_szMaker.f a1_0 a1_1 a1_2 a1_3 l1_4 t).bind fun u => if u < 0 then some true else
 (laws_toMakerS.f k l0).bind fun x => (laws_toMaker.f k a1_0 a1_1 a1_2 a1_3 l1_4).bind fun m => (spec_MakerSet.f k x m.1 m.2.1 m.2.2.1 m.2.2.2.1 m.2.2.2.2).bind fun w0 => (impl_MakerSet.f k x m.1 m.2.1 m.2.2.1 m.2.2.2.1 m.2.2.2.2).bind fun g0 =>
 (laws_eqMakerS.f k g0 w0).bind fun e1 => (laws_eqMakerS.f k x x).bind fun e2 => (laws_eqMaker.f k m.1 m.2.1 m.2.2.1 m.2.2.2.1 m.2.2.2.2 m.1 m.2.1 m.2.2.1 m.2.2.2.1 m.2.2.2.2).bind fun e3 =>
 (laws_markMakerS.f k x 1).bind fun k1 => (laws_markMaker.f k m.1 m.2.1 m.2.2.1 m.2.2.2.1 m.2.2.2.2 k1.1).bind fun k2 => (laws_markMakerS.f k g0 1).bind fun m1 => (laws_heldMakerS.f k m1.2 1).bind fun q =>
 if ((e1 = true ∧ e2 = true) ∧ e3 = true) ∧ (¬ k2.1 < 0 ∧ ¬ q < 0) ∧ q = m1.1 then some true else none
theorem laws_FnExactMakerSet.mono : ∀ a0 a1 a2 a3 a4 a5 k, LeO (laws_FnExactMakerSet.f k a0 a1 a2 a3 a4 a5) (laws_FnExactMakerSet.f (k + 1) a0 a1 a2 a3 a4 a5) := by
 intro a0 a1 a2 a3 a4 a5 k
 unfold laws_FnExactMakerSet.f
 refine LeO.bind (laws_szMakerS.mono _ _ _) (fun _ => ?_)
 refine LeO.ite (LeO.refl _) ?_
 refine LeO.bind (LeO.refl _) (fun _ => ?_)
 refine LeO.ite (LeO.refl _) ?_
 refine LeO.bind (laws_toMakerS.mono _ _) (fun _ => ?_)
 refine LeO.bind (laws_toMaker.mono _ _ _ _ _ _) (fun _ => ?_)
 refine LeO.bind (spec_MakerSet.mono _ _ _ _ _ _ _) (fun _ => ?_)
 refine LeO.bind (impl_MakerSet.mono _ _ _ _ _ _ _) (fun _ => ?_)
 refine LeO.bind (laws_eqMakerS.mono _ _ _) (fun _ => ?_)
 refine LeO.bind (laws_eqMakerS.mono _ _ _) (fun _ => ?_)
 refine LeO.bind (laws_eqMaker.mono _ _ _ _ _ _ _ _ _ _ _) (fun _ => ?_)
 refine LeO.bind (laws_markMakerS.mono _ _ _) (fun _ => ?_)
 refine LeO.bind (laws_markMaker.mono _ _ _ _ _ _ _) (fun _ => ?_)
 refine LeO.bind (laws_markMakerS.mono _ _ _) (fun _ => ?_)
 refine LeO.bind (laws_heldMakerS.mono _ _ _) (fun _ => ?_)
 exact LeO.refl _
set_option maxHeartbeats 32000000 in
set_option maxRecDepth 100000 in
theorem laws_FnExactMakerSet.calls (k : Nat) (A0 : Option Addr) (c0 : Nat) (l0 : List (S_LMaker)) (a1_0 : Int) (a1_1 : Int) (a1_2 : Int) (a1_3 : Int) (A1_4 : Option Addr) (c1_4 : Nat) (l1_4 : List (S_LMark)) (r : Bool) (w : World) (hr0 : Kd.C k_LMaker w A0 l0.length l0) (hc0 : l0.length ≤ c0) (hr1_4 : Kd.C k_LMark w A1_4 l1_4.length l1_4) (hc1_4 : l1_4.length ≤ c1_4) (h : laws_FnExactMakerSet.f k l0 a1_0 a1_1 a1_2 a1_3 l1_4 = some r) :
 Calls Try.prog 5 #[.slice A0 l0.length c0, .agg #[.int .i64 a1_0, .int .i64 a1_1, .int .i64 a1_2, .int .i64 a1_3, .slice A1_4 l1_4.length c1_4]] w fun e w' => e = .returned (.bool r) ∧ Below w.heap.size w w' := by
 have huL := Try.underlying49
 have HR0 := Aside0.mk hr0
 have HC0 := Aside0.mk hc0
 have HR1 := Aside0.mk hr1_4
 have HC1 := Aside0.mk hc1_4
 clear hr0 hc0 hr1_4 hc1_4
 have B_0 := Aside0.mk (Below.refl w.heap.size w)
 unfold laws_FnExactMakerSet.f at h
 obtain ⟨t, Q1, h1⟩ := Option.bind_eq_some_iff.mp h
 clear h
 have Q1 := Aside0.mk Q1
 by_cases ct : t < 0
 ·
  rw [if_pos ct] at h1
  obtain rfl := Option.some.inj h1
  have cb : decide (t < 0) = true := decide_eq_true ct
  clear h1 ct
  go_enter Try.func5, Try.ntmps5
  go_wp2_with (first | ((with_reducible refine gate_dst (N := 3) rfl ?_); refine box_event ?hg (N := 3) ?hd (cs := #[.int .i64 a1_0, .int .i64 a1_1, .int .i64 a1_2, .int .i64 a1_3, .slice A1_4 l1_4.length c1_4]) (t := 49) ?hr ?_; (case hd => rfl); (case hg => rfl); (case hr => first | (go_simp; done) | (go_simp; rfl)); intro g_am hg w_1 hbox hb; have B_1 := Aside0.mk (below_step B_0.out hb); have K_am_1 := Aside0.mk hbox; have hc_am_0_1 : w_1.cell? ⟨g_am, 0, none⟩ = some (.int .i64 a1_0) := (blk_cell hbox 0).trans rfl; have hc_am_1_1 : w_1.cell? ⟨g_am, 1, none⟩ = some (.int .i64 a1_1) := (blk_cell hbox 1).trans rfl; have hc_am_2_1 : w_1.cell? ⟨g_am, 2, none⟩ = some (.int .i64 a1_2) := (blk_cell hbox 2).trans rfl; have hc_am_3_1 : w_1.cell? ⟨g_am, 3, none⟩ = some (.int .i64 a1_3) := (blk_cell hbox 3).trans rfl; have hc_am_4_1 : w_1.cell? ⟨g_am, 4, none⟩ = some (.slice A1_4 l1_4.length c1_4) := (blk_cell hbox 4).trans rfl; clear hb hbox hg B_0) | (go_at_call 15; refine (laws_szMakerS.calls k A0 c0 l0 1048576 t _ (Kd.C_below HR0.out B_1.out) HC0.out Q1.out).mono ?_; rintro e w_2 ⟨rfl, hb⟩; have K_am_2 := Aside0.mk (blk_below K_am_1.out hb); have hc_am_0_2 : w_2.cell? ⟨g_am, 0, none⟩ = some (.int .i64 a1_0) := (blk_cell K_am_2.out 0).trans rfl; have hc_am_1_2 : w_2.cell? ⟨g_am, 1, none⟩ = some (.int .i64 a1_1) := (blk_cell K_am_2.out 1).trans rfl; have hc_am_2_2 : w_2.cell? ⟨g_am, 2, none⟩ = some (.int .i64 a1_2) := (blk_cell K_am_2.out 2).trans rfl; have hc_am_3_2 : w_2.cell? ⟨g_am, 3, none⟩ = some (.int .i64 a1_3) := (blk_cell K_am_2.out 3).trans rfl; have hc_am_4_2 : w_2.cell? ⟨g_am, 4, none⟩ = some (.slice A1_4 l1_4.length c1_4) := (blk_cell K_am_2.out 4).trans rfl; have B_2 := Aside0.mk (below_step B_1.out hb); clear hb  K_am_1 hc_am_0_1 hc_am_1_1 hc_am_2_1 hc_am_3_1 hc_am_4_1 B_1))
  go_ret
  exact ⟨rfl, B_2.out⟩
 ·
  rw [if_neg ct] at h1
  have cb : decide (t < 0) = false := decide_eq_false ct
  clear ct
  obtain ⟨u, Q2, h2⟩ := Option.bind_eq_some_iff.mp h1
  clear h1
  have Q2 := Aside0.mk Q2
  by_cases cu : u < 0
  ·
   rw [if_pos cu] at h2
   obtain rfl := Option.some.inj h2
   have cub : decide (u < 0) = true := decide_eq_true cu
   clear h2 cu
   go_enter Try.func5, Try.ntmps5
   go_wp2_with (first | ((with_reducible refine gate_dst (N := 3) rfl ?_); refine box_event ?hg (N := 3) ?hd (cs := #[.int .i64 a1_0, .int .i64 a1_1, .int .i64 a1_2, .int .i64 a1_3, .slice A1_4 l1_4.length c1_4]) (t := 49) ?hr ?_; (case hd => rfl); (case hg => rfl); (case hr => first | (go_simp; done) | (go_simp; rfl)); intro g_am hg w_1 hbox hb; have B_1 := Aside0.mk (below_step B_0.out hb); have K_am_1 := Aside0.mk hbox; have hc_am_0_1 : w_1.cell? ⟨g_am, 0, none⟩ = some (.int .i64 a1_0) := (blk_cell hbox 0).trans rfl; have hc_am_1_1 : w_1.cell? ⟨g_am, 1, none⟩ = some (.int .i64 a1_1) := (blk_cell hbox 1).trans rfl; have hc_am_2_1 : w_1.cell? ⟨g_am, 2, none⟩ = some (.int .i64 a1_2) := (blk_cell hbox 2).trans rfl; have hc_am_3_1 : w_1.cell? ⟨g_am, 3, none⟩ = some (.int .i64 a1_3) := (blk_cell hbox 3).trans rfl; have hc_am_4_1 : w_1.cell? ⟨g_am, 4, none⟩ = some (.slice A1_4 l1_4.length c1_4) := (blk_cell hbox 4).trans rfl; clear hb hbox hg B_0) | (go_at_call 15; refine (laws_szMakerS.calls k A0 c0 l0 1048576 t _ (Kd.C_below HR0.out B_1.out) HC0.out Q1.out).mono ?_; rintro e w_2 ⟨rfl, hb⟩; have K_am_2 := Aside0.mk (blk_below K_am_1.out hb); have hc_am_0_2 : w_2.cell? ⟨g_am, 0, none⟩ = some (.int .i64 a1_0) := (blk_cell K_am_2.out 0).trans rfl; have hc_am_1_2 : w_2.cell? ⟨g_am, 1, none⟩ = some (.int .i64 a1_1) := (blk_cell K_am_2.out 1).trans rfl; have hc_am_2_2 : w_2.cell? ⟨g_am, 2, none⟩ = some (.int .i64 a1_2) := (blk_cell K_am_2.out 2).trans rfl; have hc_am_3_2 : w_2.cell? ⟨g_am, 3, none⟩ = some (.int .i64 a1_3) := (blk_cell K_am_2.out 3).trans rfl; have hc_am_4_2 : w_2.cell? ⟨g_am, 4, none⟩ = some (.slice A1_4 l1_4.length c1_4) := (blk_cell K_am_2.out 4).trans rfl; have B_2 := Aside0.mk (below_step B_1.out hb); clear hb  K_am_1 hc_am_0_1 hc_am_1_1 hc_am_2_1 hc_am_3_1 hc_am_4_1 B_1) | (go_at_call 24; refine (laws_szMaker.calls a1_0 a1_1 a1_2 a1_3 A1_4 c1_4 l1_4 t u _ (Kd.C_below HR1.out B_2.out) HC1.out Q2.out).mono ?_; rintro e w_3 ⟨rfl, hb⟩; have K_am_3 := Aside0.mk (blk_below K_am_2.out hb); have hc_am_0_3 : w_3.cell? ⟨g_am, 0, none⟩ = some (.int .i64 a1_0) := (blk_cell K_am_3.out 0).trans rfl; have hc_am_1_3 : w_3.cell? ⟨g_am, 1, none⟩ = some (.int .i64 a1_1) := (blk_cell K_am_3.out 1).trans rfl; have hc_am_2_3 : w_3.cell? ⟨g_am, 2, none⟩ = some (.int .i64 a1_2) := (blk_cell K_am_3.out 2).trans rfl; have hc_am_3_3 : w_3.cell? ⟨g_am, 3, none⟩ = some (.int .i64 a1_3) := (blk_cell K_am_3.out 3).trans rfl; have hc_am_4_3 : w_3.cell? ⟨g_am, 4, none⟩ = some (.slice A1_4 l1_4.length c1_4) := (blk_cell K_am_3.out 4).trans rfl; have B_3 := Aside0.mk (below_step B_2.out hb); clear hb  K_am_2 hc_am_0_2 hc_am_1_2 hc_am_2_2 hc_am_3_2 hc_am_4_2 B_2))
   go_ret
   exact ⟨rfl, B_3.out⟩
  ·
   rw [if_neg cu] at h2
   have cub : decide (u < 0) = false := decide_eq_false cu
   clear cu
   obtain ⟨x, Q3, h3⟩ := Option.bind_eq_some_iff.mp h2
   obtain ⟨⟨m0, m1, m2, m3, m4⟩, Q4, h4⟩ := Option.bind_eq_some_iff.mp h3
   obtain ⟨y, Q5, h5⟩ := Option.bind_eq_some_iff.mp h4
   obtain ⟨z, Q6, h6⟩ := Option.bind_eq_some_iff.mp h5
   obtain ⟨e1, Q7, h7⟩ := Option.bind_eq_some_iff.mp h6
   obtain ⟨e2, Q8, h8⟩ := Option.bind_eq_some_iff.mp h7
   obtain ⟨e3, Q9, h9⟩ := Option.bind_eq_some_iff.mp h8
   obtain ⟨⟨k1, x2⟩, Q10, h10⟩ := Option.bind_eq_some_iff.mp h9
   obtain ⟨⟨k2, m5⟩, Q11, h11⟩ := Option.bind_eq_some_iff.mp h10
   obtain ⟨⟨k3, z2⟩, Q12, h12⟩ := Option.bind_eq_some_iff.mp h11
   obtain ⟨q, Q13, h13⟩ := Option.bind_eq_some_iff.mp h12
   clear h2 h3 h4 h5 h6 h7 h8 h9 h10 h11 h12
   change (if ((e1 = true ∧ e2 = true) ∧ e3 = true) ∧ (¬ k2 < 0 ∧ ¬ q < 0) ∧ q = k3 then some true else none) = some r at h13
   by_cases cc : ((e1 = true ∧ e2 = true) ∧ e3 = true) ∧ (¬ k2 < 0 ∧ ¬ q < 0) ∧ q = k3
   case neg =>
    rw [if_neg cc] at h13
    cases h13
   rw [if_pos cc] at h13
   obtain rfl := Option.some.inj h13
   obtain ⟨⟨⟨rfl, rfl⟩, rfl⟩, ⟨n2, nq⟩, rfl⟩ := cc
   have d2 : decide (k2 < 0) = false := decide_eq_false n2
   have dq : decide (q < 0) = false := decide_eq_false nq
   clear h13 n2 nq
   have q_ := Aside0.mk Q3
   clear Q3
   have Q3 := q_
   clear q_
   have q_ := Aside0.mk Q4
   clear Q4
   have Q4 := q_
   clear q_
   have q_ := Aside0.mk Q5
   clear Q5
   have Q5 := q_
   clear q_
   have q_ := Aside0.mk Q6
   clear Q6
   have Q6 := q_
   clear q_
   have q_ := Aside0.mk Q7
   clear Q7
   have Q7 := q_
   clear q_
   have q_ := Aside0.mk Q8
   clear Q8
   have Q8 := q_
   clear q_
   have q_ := Aside0.mk Q9
   clear Q9
   have Q9 := q_
   clear q_
   have q_ := Aside0.mk Q10
   clear Q10
   have Q10 := q_
   clear q_
   have q_ := Aside0.mk Q11
   clear Q11
   have Q11 := q_
   clear q_
   have q_ := Aside0.mk Q12
   clear Q12
   have Q12 := q_
   clear q_
   have q_ := Aside0.mk Q13
   clear Q13
   have Q13 := q_
   clear q_
   go_enter Try.func5, Try.ntmps5
   go_wp2_with (first | ((with_reducible refine gate_dst (N := 3) rfl ?_); refine box_event ?hg (N := 3) ?hd (cs := #[.int .i64 a1_0, .int .i64 a1_1, .int .i64 a1_2, .int .i64 a1_3, .slice A1_4 l1_4.length c1_4]) (t := 49) ?hr ?_; (case hd => rfl); (case hg => rfl); (case hr => first | (go_simp; done) | (go_simp; rfl)); intro g_am hg w_1 hbox hb; have B_1 := Aside0.mk (below_step B_0.out hb); have K_am_1 := Aside0.mk hbox; have hc_am_0_1 : w_1.cell? ⟨g_am, 0, none⟩ = some (.int .i64 a1_0) := (blk_cell hbox 0).trans rfl; have hc_am_1_1 : w_1.cell? ⟨g_am, 1, none⟩ = some (.int .i64 a1_1) := (blk_cell hbox 1).trans rfl; have hc_am_2_1 : w_1.cell? ⟨g_am, 2, none⟩ = some (.int .i64 a1_2) := (blk_cell hbox 2).trans rfl; have hc_am_3_1 : w_1.cell? ⟨g_am, 3, none⟩ = some (.int .i64 a1_3) := (blk_cell hbox 3).trans rfl; have hc_am_4_1 : w_1.cell? ⟨g_am, 4, none⟩ = some (.slice A1_4 l1_4.length c1_4) := (blk_cell hbox 4).trans rfl; clear hb hbox hg B_0) | (go_at_call 15; refine (laws_szMakerS.calls k A0 c0 l0 1048576 t _ (Kd.C_below HR0.out B_1.out) HC0.out Q1.out).mono ?_; rintro e w_2 ⟨rfl, hb⟩; have K_am_2 := Aside0.mk (blk_below K_am_1.out hb); have hc_am_0_2 : w_2.cell? ⟨g_am, 0, none⟩ = some (.int .i64 a1_0) := (blk_cell K_am_2.out 0).trans rfl; have hc_am_1_2 : w_2.cell? ⟨g_am, 1, none⟩ = some (.int .i64 a1_1) := (blk_cell K_am_2.out 1).trans rfl; have hc_am_2_2 : w_2.cell? ⟨g_am, 2, none⟩ = some (.int .i64 a1_2) := (blk_cell K_am_2.out 2).trans rfl; have hc_am_3_2 : w_2.cell? ⟨g_am, 3, none⟩ = some (.int .i64 a1_3) := (blk_cell K_am_2.out 3).trans rfl; have hc_am_4_2 : w_2.cell? ⟨g_am, 4, none⟩ = some (.slice A1_4 l1_4.length c1_4) := (blk_cell K_am_2.out 4).trans rfl; have B_2 := Aside0.mk (below_step B_1.out hb); clear hb  K_am_1 hc_am_0_1 hc_am_1_1 hc_am_2_1 hc_am_3_1 hc_am_4_1 B_1) | (go_at_call 24; refine (laws_szMaker.calls a1_0 a1_1 a1_2 a1_3 A1_4 c1_4 l1_4 t u _ (Kd.C_below HR1.out B_2.out) HC1.out Q2.out).mono ?_; rintro e w_3 ⟨rfl, hb⟩; have K_am_3 := Aside0.mk (blk_below K_am_2.out hb); have hc_am_0_3 : w_3.cell? ⟨g_am, 0, none⟩ = some (.int .i64 a1_0) := (blk_cell K_am_3.out 0).trans rfl; have hc_am_1_3 : w_3.cell? ⟨g_am, 1, none⟩ = some (.int .i64 a1_1) := (blk_cell K_am_3.out 1).trans rfl; have hc_am_2_3 : w_3.cell? ⟨g_am, 2, none⟩ = some (.int .i64 a1_2) := (blk_cell K_am_3.out 2).trans rfl; have hc_am_3_3 : w_3.cell? ⟨g_am, 3, none⟩ = some (.int .i64 a1_3) := (blk_cell K_am_3.out 3).trans rfl; have hc_am_4_3 : w_3.cell? ⟨g_am, 4, none⟩ = some (.slice A1_4 l1_4.length c1_4) := (blk_cell K_am_3.out 4).trans rfl; have B_3 := Aside0.mk (below_step B_2.out hb); clear hb  K_am_2 hc_am_0_2 hc_am_1_2 hc_am_2_2 hc_am_3_2 hc_am_4_2 B_2))
   have hb : Below w_3.heap.size w_3 w_3.drew := below_drew1 (Below.refl _ _)
   have K_am_4 := Aside0.mk (blk_below K_am_3.out hb)
   have hc_am_0_4 : w_3.drew.cell? ⟨g_am, 0, none⟩ = some (.int .i64 a1_0) := (blk_cell K_am_4.out 0).trans rfl
   have hc_am_1_4 : w_3.drew.cell? ⟨g_am, 1, none⟩ = some (.int .i64 a1_1) := (blk_cell K_am_4.out 1).trans rfl
   have hc_am_2_4 : w_3.drew.cell? ⟨g_am, 2, none⟩ = some (.int .i64 a1_2) := (blk_cell K_am_4.out 2).trans rfl
   have hc_am_3_4 : w_3.drew.cell? ⟨g_am, 3, none⟩ = some (.int .i64 a1_3) := (blk_cell K_am_4.out 3).trans rfl
   have hc_am_4_4 : w_3.drew.cell? ⟨g_am, 4, none⟩ = some (.slice A1_4 l1_4.length c1_4) := (blk_cell K_am_4.out 4).trans rfl
   have B_4 := Aside0.mk (below_step B_3.out hb)
   clear hb K_am_3 hc_am_0_3 hc_am_1_3 hc_am_2_3 hc_am_3_3 hc_am_4_3 B_3
   refine start_ (n := 6) (S := fun w' => w'.cell? ⟨g_am, 0, none⟩ = some (.int .i64 a1_0) ∧ w'.cell? ⟨g_am, 1, none⟩ = some (.int .i64 a1_1) ∧ w'.cell? ⟨g_am, 2, none⟩ = some (.int .i64 a1_2) ∧ w'.cell? ⟨g_am, 3, none⟩ = some (.int .i64 a1_3) ∧ w'.cell? ⟨g_am, 4, none⟩ = some (.slice A1_4 l1_4.length c1_4)) (ds := []) #[false, false, false, false, false, false] (by kernel_rfl) rfl rfl ⟨hc_am_0_4, hc_am_1_4, hc_am_2_4, hc_am_3_4, hc_am_4_4⟩ (fun hHeld => ?_)
   generalize w_3.drew = w_4 at K_am_4 hc_am_0_4 hc_am_1_4 hc_am_2_4 hc_am_3_4 hc_am_4_4 B_4 hHeld ⊢
   refine pure_ (i := 0) (N := some 24) (v := ?_) (a' := ?_) #[true, false, false, false, false, false] rfl rfl (by kernel_rfl) (fun _ _ _ h => h) (Or.inl ⟨by rfl, ?_⟩) ?_ ?_; rotate_left; (focus intro w'; go_simp; with_reducible rfl); rotate_left; (focus simp only [Act.put, List.setIfInBounds_toArray, List.set_cons_zero, List.set_cons_succ, i64_w, i32_w]; rfl)
   refine take_ (i := 2) (N := some 26) (v := ?_) (a' := ?_) #[true, false, true, false, false, false] rfl rfl (by kernel_rfl) (fun _ _ _ h => h) (Or.inl ⟨by rfl, ?_⟩) hHeld ?_ ?_
   rotate_left
   ·
    rintro w' ⟨s0, s1, s2, s3, s4⟩
    go_simp
    with_reducible rfl
   rotate_left; (focus simp only [Act.put, List.setIfInBounds_toArray, List.set_cons_zero, List.set_cons_succ, i64_w, i32_w]; rfl)
   refine one_ (i := 1) (N := some 25) #[true, true, true, false, false, false] rfl rfl (by kernel_rfl) (by decide) (fun K hK => ?_)
   refine goes_ Try.func17 (by kernel_rfl) rfl #[.slice A0 l0.length c0] (by rfl) rfl rfl sm_ ?_
   refine (laws_toMakerS.calls k A0 c0 l0 x _ (Kd.C_below HR0.out B_4.out) HC0.out Q3.out).mono ?_
   rintro e w_5 ⟨v_ta, rfl, ho_ta, hb⟩
   refine ⟨_, rfl, ?_⟩
   have E_ta_am : Aside0 (g_am < w_4.heap.size) := ⟨blk_lt K_am_4.out⟩
   have N_ta := Aside0.mk (Kd.S_lower (Kd.S_mono (Kd.S_bound ho_ta) (fun k_ h_ => (show w_4.heap.size ≤ k_ ∧ k_ < w_5.heap.size from ⟨h_.2.1, h_.2.2.1⟩))) B_4.out.size)
   have K_am_5 := Aside0.mk (blk_below K_am_4.out hb)
   have hc_am_0_5 : w_5.cell? ⟨g_am, 0, none⟩ = some (.int .i64 a1_0) := (blk_cell K_am_5.out 0).trans rfl
   have hc_am_1_5 : w_5.cell? ⟨g_am, 1, none⟩ = some (.int .i64 a1_1) := (blk_cell K_am_5.out 1).trans rfl
   have hc_am_2_5 : w_5.cell? ⟨g_am, 2, none⟩ = some (.int .i64 a1_2) := (blk_cell K_am_5.out 2).trans rfl
   have hc_am_3_5 : w_5.cell? ⟨g_am, 3, none⟩ = some (.int .i64 a1_3) := (blk_cell K_am_5.out 3).trans rfl
   have hc_am_4_5 : w_5.cell? ⟨g_am, 4, none⟩ = some (.slice A1_4 l1_4.length c1_4) := (blk_cell K_am_5.out 4).trans rfl
   have B_5 := Aside0.mk (below_step B_4.out hb)
   obtain ⟨A_ta, c_ta, rfl⟩ := Kd.S_slice ho_ta
   have F_ta_5 := N_ta
   have U_ta_5 : Aside0 (w_5.heap.size ≤ w_5.heap.size) := ⟨Nat.le_refl _⟩
   clear hb K_am_4 hc_am_0_4 hc_am_1_4 hc_am_2_4 hc_am_3_4 hc_am_4_4 B_4 N_ta ho_ta
   refine hK.out _ _ ⟨hc_am_0_5, hc_am_1_5, hc_am_2_5, hc_am_3_5, hc_am_4_5⟩ (fun hHeld => ?_)
   clear hK K
   refine nm_ ?_
   refine one_ (i := 3) (N := some 27) #[true, true, true, true, false, false] rfl rfl (by kernel_rfl) (by decide) (fun K hK => ?_)
   refine goes_ Try.func26 (by kernel_rfl) rfl #[.agg #[.int .i64 a1_0, .int .i64 a1_1, .int .i64 a1_2, .int .i64 a1_3, .slice A1_4 l1_4.length c1_4]] (by rfl) rfl rfl sm_ ?_
   refine (laws_toMaker.calls k a1_0 a1_1 a1_2 a1_3 A1_4 c1_4 l1_4 m0 m1 m2 m3 m4 _ (Kd.C_below HR1.out B_5.out) HC1.out Q4.out).mono ?_
   rintro e w_6 ⟨v_tb, rfl, ho_tb, hb⟩
   refine ⟨_, rfl, ?_⟩
   have D_ta_tb : Aside0 (w_5.heap.size ≤ w_5.heap.size) := ⟨U_ta_5.out⟩
   have E_tb_am : Aside0 (g_am < w_5.heap.size) := ⟨blk_lt K_am_5.out⟩
   have N_tb := Aside0.mk (Kd.R_lower (Kd.R_mono (Kd.R_bound ho_tb) (fun k_ h_ => (show w_5.heap.size ≤ k_ ∧ k_ < w_6.heap.size from ⟨h_.2.1, h_.2.2.1⟩))) B_5.out.size)
   have F_ta_6 := Aside0.mk (Kd.S_below F_ta_5.out hb)
   have U_ta_6 := Aside0.mk (Nat.le_trans U_ta_5.out (Below.size hb))
   have K_am_6 := Aside0.mk (blk_below K_am_5.out hb)
   have hc_am_0_6 : w_6.cell? ⟨g_am, 0, none⟩ = some (.int .i64 a1_0) := (blk_cell K_am_6.out 0).trans rfl
   have hc_am_1_6 : w_6.cell? ⟨g_am, 1, none⟩ = some (.int .i64 a1_1) := (blk_cell K_am_6.out 1).trans rfl
   have hc_am_2_6 : w_6.cell? ⟨g_am, 2, none⟩ = some (.int .i64 a1_2) := (blk_cell K_am_6.out 2).trans rfl
   have hc_am_3_6 : w_6.cell? ⟨g_am, 3, none⟩ = some (.int .i64 a1_3) := (blk_cell K_am_6.out 3).trans rfl
   have hc_am_4_6 : w_6.cell? ⟨g_am, 4, none⟩ = some (.slice A1_4 l1_4.length c1_4) := (blk_cell K_am_6.out 4).trans rfl
   have B_6 := Aside0.mk (below_step B_5.out hb)
   obtain ⟨A_tb, c_tb, rfl⟩ := Kd.R_slice ho_tb
   have F_tb_6 := N_tb
   have U_tb_6 : Aside0 (w_6.heap.size ≤ w_6.heap.size) := ⟨Nat.le_refl _⟩
   clear hb F_ta_5 U_ta_5 K_am_5 hc_am_0_5 hc_am_1_5 hc_am_2_5 hc_am_3_5 hc_am_4_5 B_5 N_tb ho_tb
   refine hK.out _ _ ⟨hc_am_0_6, hc_am_1_6, hc_am_2_6, hc_am_3_6, hc_am_4_6⟩ (fun hHeld => ?_)
   clear hK K
   refine nm_ ?_
   refine one_ (i := 4) (N := some 28) #[true, true, true, true, true, false] rfl rfl (by kernel_rfl) (by decide) (fun K hK => ?_)
   refine goes_ Try.func25 (by kernel_rfl) rfl #[.slice A_ta x.length c_ta, .agg #[.int .i64 m0, .int .i64 m1, .int .i64 m2, .int .i64 m3, .slice A_tb m4.length c_tb]] (by rfl) rfl rfl sm_ ?_
   refine (spec_MakerSet.calls k A_ta c_ta x m0 m1 m2 m3 A_tb c_tb m4 y _ (Kd.S_reads' F_ta_6.out).2.2 (by have q_ := Kd.S_reads' F_ta_6.out; omega) (Kd.R_reads' F_tb_6.out).2.2 (by have q_ := Kd.R_reads' F_tb_6.out; omega) Q5.out).mono ?_
   rintro e w_7 ⟨v_w0, rfl, ho_w0, hb⟩
   refine ⟨_, rfl, ?_⟩
   have D_ta_w0 : Aside0 (w_5.heap.size ≤ w_6.heap.size) := ⟨U_ta_6.out⟩
   have D_tb_w0 : Aside0 (w_6.heap.size ≤ w_6.heap.size) := ⟨U_tb_6.out⟩
   have E_w0_am : Aside0 (g_am < w_6.heap.size) := ⟨blk_lt K_am_6.out⟩
   have N_w0 := Aside0.mk (Kd.S_lower (Kd.S_mono (Kd.S_bound ho_w0) (fun k_ h_ => (show w_6.heap.size ≤ k_ ∧ k_ < w_7.heap.size from ⟨h_.2.1, h_.2.2.1⟩))) B_6.out.size)
   have F_ta_7 := Aside0.mk (Kd.S_below F_ta_6.out hb)
   have U_ta_7 := Aside0.mk (Nat.le_trans U_ta_6.out (Below.size hb))
   have F_tb_7 := Aside0.mk (Kd.R_below F_tb_6.out hb)
   have U_tb_7 := Aside0.mk (Nat.le_trans U_tb_6.out (Below.size hb))
   have K_am_7 := Aside0.mk (blk_below K_am_6.out hb)
   have hc_am_0_7 : w_7.cell? ⟨g_am, 0, none⟩ = some (.int .i64 a1_0) := (blk_cell K_am_7.out 0).trans rfl
   have hc_am_1_7 : w_7.cell? ⟨g_am, 1, none⟩ = some (.int .i64 a1_1) := (blk_cell K_am_7.out 1).trans rfl
   have hc_am_2_7 : w_7.cell? ⟨g_am, 2, none⟩ = some (.int .i64 a1_2) := (blk_cell K_am_7.out 2).trans rfl
   have hc_am_3_7 : w_7.cell? ⟨g_am, 3, none⟩ = some (.int .i64 a1_3) := (blk_cell K_am_7.out 3).trans rfl
   have hc_am_4_7 : w_7.cell? ⟨g_am, 4, none⟩ = some (.slice A1_4 l1_4.length c1_4) := (blk_cell K_am_7.out 4).trans rfl
   have B_7 := Aside0.mk (below_step B_6.out hb)
   obtain ⟨A_w0, c_w0, rfl⟩ := Kd.S_slice ho_w0
   have F_w0_7 := N_w0
   have U_w0_7 : Aside0 (w_7.heap.size ≤ w_7.heap.size) := ⟨Nat.le_refl _⟩
   clear hb F_ta_6 U_ta_6 F_tb_6 U_tb_6 K_am_6 hc_am_0_6 hc_am_1_6 hc_am_2_6 hc_am_3_6 hc_am_4_6 B_6 N_w0 ho_w0
   refine hK.out _ _ ⟨hc_am_0_7, hc_am_1_7, hc_am_2_7, hc_am_3_7, hc_am_4_7⟩ (fun hHeld => ?_)
   clear hK K
   refine nm_ ?_
   refine pure_ (i := 5) (N := some 6) (v := ?_) (a' := ?_) #[true, true, true, true, true, true] rfl rfl (by kernel_rfl) (fun _ _ _ h => h) (Or.inl ⟨by rfl, ?_⟩) ?_ ?_; rotate_left; (focus intro w'; go_simp; with_reducible rfl); rotate_left; (focus simp only [Act.put, List.setIfInBounds_toArray, List.set_cons_zero, List.set_cons_succ, i64_w, i32_w]; rfl)
   refine done_ (by kernel_rfl) ?_
   go_wp2_with (first | (go_at_call 17; refine (laws_toMakerS.calls k A0 c0 l0 x _ (Kd.C_below HR0.out B_7.out) HC0.out Q3.out).mono ?_; rintro e w_8 ⟨v_x0, rfl, ho_x0, hb⟩; have D_w0_x0 : Aside0 (w_7.heap.size ≤ w_7.heap.size) := ⟨U_w0_7.out⟩; have E_x0_am : Aside0 (g_am < w_7.heap.size) := ⟨blk_lt K_am_7.out⟩; have N_x0 := Aside0.mk (Kd.S_lower (Kd.S_mono (Kd.S_bound ho_x0) (fun k_ h_ => (show w_7.heap.size ≤ k_ ∧ k_ < w_8.heap.size from ⟨h_.2.1, h_.2.2.1⟩))) B_7.out.size); have F_w0_8 := Aside0.mk (Kd.S_below F_w0_7.out hb); have U_w0_8 := Aside0.mk (Nat.le_trans U_w0_7.out (Below.size hb)); have K_am_8 := Aside0.mk (blk_below K_am_7.out hb); have hc_am_0_8 : w_8.cell? ⟨g_am, 0, none⟩ = some (.int .i64 a1_0) := (blk_cell K_am_8.out 0).trans rfl; have hc_am_1_8 : w_8.cell? ⟨g_am, 1, none⟩ = some (.int .i64 a1_1) := (blk_cell K_am_8.out 1).trans rfl; have hc_am_2_8 : w_8.cell? ⟨g_am, 2, none⟩ = some (.int .i64 a1_2) := (blk_cell K_am_8.out 2).trans rfl; have hc_am_3_8 : w_8.cell? ⟨g_am, 3, none⟩ = some (.int .i64 a1_3) := (blk_cell K_am_8.out 3).trans rfl; have hc_am_4_8 : w_8.cell? ⟨g_am, 4, none⟩ = some (.slice A1_4 l1_4.length c1_4) := (blk_cell K_am_8.out 4).trans rfl; have B_8 := Aside0.mk (below_step B_7.out hb); obtain ⟨A_x0, c_x0, rfl⟩ := Kd.S_slice ho_x0; have F_x0_8 := N_x0; have U_x0_8 : Aside0 (w_8.heap.size ≤ w_8.heap.size) := ⟨Nat.le_refl _⟩; clear hb  F_w0_7 U_w0_7 K_am_7 hc_am_0_7 hc_am_1_7 hc_am_2_7 hc_am_3_7 hc_am_4_7 B_7 N_x0 ho_x0) | (go_at_call 26; refine (laws_toMaker.calls k a1_0 a1_1 a1_2 a1_3 A1_4 c1_4 l1_4 m0 m1 m2 m3 m4 _ (Kd.C_below HR1.out B_8.out) HC1.out Q4.out).mono ?_; rintro e w_9 ⟨v_x1, rfl, ho_x1, hb⟩; have D_w0_x1 : Aside0 (w_7.heap.size ≤ w_8.heap.size) := ⟨U_w0_8.out⟩; have D_x0_x1 : Aside0 (w_8.heap.size ≤ w_8.heap.size) := ⟨U_x0_8.out⟩; have E_x1_am : Aside0 (g_am < w_8.heap.size) := ⟨blk_lt K_am_8.out⟩; have N_x1 := Aside0.mk (Kd.R_lower (Kd.R_mono (Kd.R_bound ho_x1) (fun k_ h_ => (show w_8.heap.size ≤ k_ ∧ k_ < w_9.heap.size from ⟨h_.2.1, h_.2.2.1⟩))) B_8.out.size); have F_w0_9 := Aside0.mk (Kd.S_below F_w0_8.out hb); have U_w0_9 := Aside0.mk (Nat.le_trans U_w0_8.out (Below.size hb)); have F_x0_9 := Aside0.mk (Kd.S_below F_x0_8.out hb); have U_x0_9 := Aside0.mk (Nat.le_trans U_x0_8.out (Below.size hb)); have K_am_9 := Aside0.mk (blk_below K_am_8.out hb); have hc_am_0_9 : w_9.cell? ⟨g_am, 0, none⟩ = some (.int .i64 a1_0) := (blk_cell K_am_9.out 0).trans rfl; have hc_am_1_9 : w_9.cell? ⟨g_am, 1, none⟩ = some (.int .i64 a1_1) := (blk_cell K_am_9.out 1).trans rfl; have hc_am_2_9 : w_9.cell? ⟨g_am, 2, none⟩ = some (.int .i64 a1_2) := (blk_cell K_am_9.out 2).trans rfl; have hc_am_3_9 : w_9.cell? ⟨g_am, 3, none⟩ = some (.int .i64 a1_3) := (blk_cell K_am_9.out 3).trans rfl; have hc_am_4_9 : w_9.cell? ⟨g_am, 4, none⟩ = some (.slice A1_4 l1_4.length c1_4) := (blk_cell K_am_9.out 4).trans rfl; have B_9 := Aside0.mk (below_step B_8.out hb); obtain ⟨A_x1, c_x1, rfl⟩ := Kd.R_slice ho_x1; have F_x1_9 := N_x1; have U_x1_9 : Aside0 (w_9.heap.size ≤ w_9.heap.size) := ⟨Nat.le_refl _⟩; clear hb  F_w0_8 U_w0_8 F_x0_8 U_x0_8 K_am_8 hc_am_0_8 hc_am_1_8 hc_am_2_8 hc_am_3_8 hc_am_4_8 B_8 N_x1 ho_x1) | ((with_reducible refine gate_dst (N := 8) rfl ?_); refine box_event ?hg (N := 8) ?hd (cs := #[.int .i64 0, .int .i64 0, .int .i64 0, .int .i64 0, .slice none 0 0]) (t := 38) ?hr ?_; (case hd => rfl); (case hg => rfl); (case hr => first | (go_simp; done) | (go_simp; rfl)); intro g_x1b hg wa_9 hbox hb; have GA := Aside0.mk hg; have BA := Aside0.mk hb; have KA := Aside0.mk hbox; have hv_0 : wa_9.cell? ⟨g_x1b, 0, none⟩ = some (.int .i64 0) := (blk_cell hbox 0).trans rfl; have hz_0 := blk_frozen hbox 0; have hv_1 : wa_9.cell? ⟨g_x1b, 1, none⟩ = some (.int .i64 0) := (blk_cell hbox 1).trans rfl; have hz_1 := blk_frozen hbox 1; have hv_2 : wa_9.cell? ⟨g_x1b, 2, none⟩ = some (.int .i64 0) := (blk_cell hbox 2).trans rfl; have hz_2 := blk_frozen hbox 2; have hv_3 : wa_9.cell? ⟨g_x1b, 3, none⟩ = some (.int .i64 0) := (blk_cell hbox 3).trans rfl; have hz_3 := blk_frozen hbox 3; have hv_4 : wa_9.cell? ⟨g_x1b, 4, none⟩ = some (.slice none 0 0) := (blk_cell hbox 4).trans rfl; have hz_4 := blk_frozen hbox 4; clear hb hbox hg) | ((with_reducible refine gate_store (t := 38) (p := 8) rfl ?_); refine store_event (t := 38) (p := 8) (v := ?vo_9) (w1 := (((((wa_9.setCell ⟨g_x1b, 0, none⟩ (.int .i64 m0)).setCell ⟨g_x1b, 1, none⟩ (.int .i64 m1)).setCell ⟨g_x1b, 2, none⟩ (.int .i64 m2)).setCell ⟨g_x1b, 3, none⟩ (.int .i64 m3)).setCell ⟨g_x1b, 4, none⟩ (.slice A_x1 m4.length c_x1))) ?hg ?ho ?hn ?hr ?_; (case ho => rfl); (case hg => rfl); (case hn => rfl); (case hr => first | (go_simp; done) | (go_simp; rfl)); intro w_10 hw; have hg := GA.out; have hb : Below w_9.heap.size w_9 w_10 := (by rw [hw]; exact (below_set (below_set (below_set (below_set (below_set BA.out (Nat.le_of_eq GA.out.symm)) (Nat.le_of_eq GA.out.symm)) (Nat.le_of_eq GA.out.symm)) (Nat.le_of_eq GA.out.symm)) (Nat.le_of_eq GA.out.symm))); have hbox : w_10.heap[g_x1b]? = some (.cells #[.int .i64 m0, .int .i64 m1, .int .i64 m2, .int .i64 m3, .slice A_x1 m4.length c_x1] 38 (0, 0)) := (by rw [hw]; exact (blk_put (blk_put (blk_put (blk_put (blk_put KA.out 0 _ rfl) 1 _ rfl) 2 _ rfl) 3 _ rfl) 4 _ rfl)); have E_w0_x1b : Aside0 (w_7.heap.size ≤ g_x1b) := ⟨by rw [hg]; exact U_w0_9.out⟩; have E_x0_x1b : Aside0 (w_8.heap.size ≤ g_x1b) := ⟨by rw [hg]; exact U_x0_9.out⟩; have E_x1_x1b : Aside0 (w_9.heap.size ≤ g_x1b) := ⟨by rw [hg]; exact U_x1_9.out⟩; have F_w0_10 := Aside0.mk (Kd.S_below F_w0_9.out hb); have U_w0_10 := Aside0.mk (Nat.le_trans U_w0_9.out (Below.size hb)); have F_x0_10 := Aside0.mk (Kd.S_below F_x0_9.out hb); have U_x0_10 := Aside0.mk (Nat.le_trans U_x0_9.out (Below.size hb)); have F_x1_10 := Aside0.mk (Kd.R_below F_x1_9.out hb); have U_x1_10 := Aside0.mk (Nat.le_trans U_x1_9.out (Below.size hb)); have K_am_10 := Aside0.mk (blk_below K_am_9.out hb); have hc_am_0_10 : w_10.cell? ⟨g_am, 0, none⟩ = some (.int .i64 a1_0) := (blk_cell K_am_10.out 0).trans rfl; have hc_am_1_10 : w_10.cell? ⟨g_am, 1, none⟩ = some (.int .i64 a1_1) := (blk_cell K_am_10.out 1).trans rfl; have hc_am_2_10 : w_10.cell? ⟨g_am, 2, none⟩ = some (.int .i64 a1_2) := (blk_cell K_am_10.out 2).trans rfl; have hc_am_3_10 : w_10.cell? ⟨g_am, 3, none⟩ = some (.int .i64 a1_3) := (blk_cell K_am_10.out 3).trans rfl; have hc_am_4_10 : w_10.cell? ⟨g_am, 4, none⟩ = some (.slice A1_4 l1_4.length c1_4) := (blk_cell K_am_10.out 4).trans rfl; have B_10 := Aside0.mk (below_step B_9.out hb); have K_x1b_10 := Aside0.mk hbox; have hc_x1b_0_10 : w_10.cell? ⟨g_x1b, 0, none⟩ = some (.int .i64 m0) := (blk_cell hbox 0).trans rfl; have hc_x1b_1_10 : w_10.cell? ⟨g_x1b, 1, none⟩ = some (.int .i64 m1) := (blk_cell hbox 1).trans rfl; have hc_x1b_2_10 : w_10.cell? ⟨g_x1b, 2, none⟩ = some (.int .i64 m2) := (blk_cell hbox 2).trans rfl; have hc_x1b_3_10 : w_10.cell? ⟨g_x1b, 3, none⟩ = some (.int .i64 m3) := (blk_cell hbox 3).trans rfl; have hc_x1b_4_10 : w_10.cell? ⟨g_x1b, 4, none⟩ = some (.slice A_x1 m4.length c_x1) := (blk_cell hbox 4).trans rfl; clear hw hg hb hbox GA BA KA hv_0 hz_0 hv_1 hz_1 hv_2 hz_2 hv_3 hz_3 hv_4 hz_4 F_w0_9 U_w0_9 F_x0_9 U_x0_9 F_x1_9 U_x1_9 K_am_9 hc_am_0_9 hc_am_1_9 hc_am_2_9 hc_am_3_9 hc_am_4_9 B_9) | (go_at_call 27; refine (impl_MakerSet.calls k A_x0 c_x0 x m0 m1 m2 m3 A_x1 c_x1 m4 z _ (Kd.S_reads' F_x0_10.out).2.2 (by have q_ := Kd.S_reads' F_x0_10.out; omega) (Kd.R_reads' F_x1_10.out).2.2 (by have q_ := Kd.R_reads' F_x1_10.out; omega) Q6.out).mono ?_; rintro e w_11 ⟨v_g0, rfl, ho_g0, hb⟩; have D_w0_g0 : Aside0 (w_7.heap.size ≤ w_10.heap.size) := ⟨U_w0_10.out⟩; have D_x0_g0 : Aside0 (w_8.heap.size ≤ w_10.heap.size) := ⟨U_x0_10.out⟩; have D_x1_g0 : Aside0 (w_9.heap.size ≤ w_10.heap.size) := ⟨U_x1_10.out⟩; have E_g0_am : Aside0 (g_am < w_10.heap.size) := ⟨blk_lt K_am_10.out⟩; have E_g0_x1b : Aside0 (g_x1b < w_10.heap.size) := ⟨blk_lt K_x1b_10.out⟩; have N_g0 := Aside0.mk (Kd.S_lower (Kd.S_mono (Kd.S_bound ho_g0) (fun k_ h_ => (show w_10.heap.size ≤ k_ ∧ k_ < w_11.heap.size from ⟨h_.2.1, h_.2.2.1⟩))) B_10.out.size); have F_w0_11 := Aside0.mk (Kd.S_below F_w0_10.out hb); have U_w0_11 := Aside0.mk (Nat.le_trans U_w0_10.out (Below.size hb)); have F_x0_11 := Aside0.mk (Kd.S_below F_x0_10.out hb); have U_x0_11 := Aside0.mk (Nat.le_trans U_x0_10.out (Below.size hb)); have F_x1_11 := Aside0.mk (Kd.R_below F_x1_10.out hb); have U_x1_11 := Aside0.mk (Nat.le_trans U_x1_10.out (Below.size hb)); have K_am_11 := Aside0.mk (blk_below K_am_10.out hb); have hc_am_0_11 : w_11.cell? ⟨g_am, 0, none⟩ = some (.int .i64 a1_0) := (blk_cell K_am_11.out 0).trans rfl; have hc_am_1_11 : w_11.cell? ⟨g_am, 1, none⟩ = some (.int .i64 a1_1) := (blk_cell K_am_11.out 1).trans rfl; have hc_am_2_11 : w_11.cell? ⟨g_am, 2, none⟩ = some (.int .i64 a1_2) := (blk_cell K_am_11.out 2).trans rfl; have hc_am_3_11 : w_11.cell? ⟨g_am, 3, none⟩ = some (.int .i64 a1_3) := (blk_cell K_am_11.out 3).trans rfl; have hc_am_4_11 : w_11.cell? ⟨g_am, 4, none⟩ = some (.slice A1_4 l1_4.length c1_4) := (blk_cell K_am_11.out 4).trans rfl; have K_x1b_11 := Aside0.mk (blk_below K_x1b_10.out hb); have hc_x1b_0_11 : w_11.cell? ⟨g_x1b, 0, none⟩ = some (.int .i64 m0) := (blk_cell K_x1b_11.out 0).trans rfl; have hc_x1b_1_11 : w_11.cell? ⟨g_x1b, 1, none⟩ = some (.int .i64 m1) := (blk_cell K_x1b_11.out 1).trans rfl; have hc_x1b_2_11 : w_11.cell? ⟨g_x1b, 2, none⟩ = some (.int .i64 m2) := (blk_cell K_x1b_11.out 2).trans rfl; have hc_x1b_3_11 : w_11.cell? ⟨g_x1b, 3, none⟩ = some (.int .i64 m3) := (blk_cell K_x1b_11.out 3).trans rfl; have hc_x1b_4_11 : w_11.cell? ⟨g_x1b, 4, none⟩ = some (.slice A_x1 m4.length c_x1) := (blk_cell K_x1b_11.out 4).trans rfl; have B_11 := Aside0.mk (below_step B_10.out hb); obtain ⟨A_g0, c_g0, rfl⟩ := Kd.S_slice ho_g0; have F_g0_11 := N_g0; have U_g0_11 : Aside0 (w_11.heap.size ≤ w_11.heap.size) := ⟨Nat.le_refl _⟩; clear hb  F_w0_10 U_w0_10 F_x0_10 U_x0_10 F_x1_10 U_x1_10 K_am_10 hc_am_0_10 hc_am_1_10 hc_am_2_10 hc_am_3_10 hc_am_4_10 K_x1b_10 hc_x1b_0_10 hc_x1b_1_10 hc_x1b_2_10 hc_x1b_3_10 hc_x1b_4_10 B_10 N_g0 ho_g0) | (go_at_call 20; refine (laws_eqMakerS.calls k A_g0 c_g0 z A_w0 c_w0 y true _ (Kd.S_reads' F_g0_11.out).2.2 (by have q_ := Kd.S_reads' F_g0_11.out; omega) (Kd.S_reads' F_w0_11.out).2.2 (by have q_ := Kd.S_reads' F_w0_11.out; omega) Q7.out).mono ?_; rintro e w_12 ⟨rfl, hb⟩; have F_w0_12 := Aside0.mk (Kd.S_below F_w0_11.out hb); have U_w0_12 := Aside0.mk (Nat.le_trans U_w0_11.out (Below.size hb)); have F_x0_12 := Aside0.mk (Kd.S_below F_x0_11.out hb); have U_x0_12 := Aside0.mk (Nat.le_trans U_x0_11.out (Below.size hb)); have F_x1_12 := Aside0.mk (Kd.R_below F_x1_11.out hb); have U_x1_12 := Aside0.mk (Nat.le_trans U_x1_11.out (Below.size hb)); have F_g0_12 := Aside0.mk (Kd.S_below F_g0_11.out hb); have U_g0_12 := Aside0.mk (Nat.le_trans U_g0_11.out (Below.size hb)); have K_am_12 := Aside0.mk (blk_below K_am_11.out hb); have hc_am_0_12 : w_12.cell? ⟨g_am, 0, none⟩ = some (.int .i64 a1_0) := (blk_cell K_am_12.out 0).trans rfl; have hc_am_1_12 : w_12.cell? ⟨g_am, 1, none⟩ = some (.int .i64 a1_1) := (blk_cell K_am_12.out 1).trans rfl; have hc_am_2_12 : w_12.cell? ⟨g_am, 2, none⟩ = some (.int .i64 a1_2) := (blk_cell K_am_12.out 2).trans rfl; have hc_am_3_12 : w_12.cell? ⟨g_am, 3, none⟩ = some (.int .i64 a1_3) := (blk_cell K_am_12.out 3).trans rfl; have hc_am_4_12 : w_12.cell? ⟨g_am, 4, none⟩ = some (.slice A1_4 l1_4.length c1_4) := (blk_cell K_am_12.out 4).trans rfl; have K_x1b_12 := Aside0.mk (blk_below K_x1b_11.out hb); have hc_x1b_0_12 : w_12.cell? ⟨g_x1b, 0, none⟩ = some (.int .i64 m0) := (blk_cell K_x1b_12.out 0).trans rfl; have hc_x1b_1_12 : w_12.cell? ⟨g_x1b, 1, none⟩ = some (.int .i64 m1) := (blk_cell K_x1b_12.out 1).trans rfl; have hc_x1b_2_12 : w_12.cell? ⟨g_x1b, 2, none⟩ = some (.int .i64 m2) := (blk_cell K_x1b_12.out 2).trans rfl; have hc_x1b_3_12 : w_12.cell? ⟨g_x1b, 3, none⟩ = some (.int .i64 m3) := (blk_cell K_x1b_12.out 3).trans rfl; have hc_x1b_4_12 : w_12.cell? ⟨g_x1b, 4, none⟩ = some (.slice A_x1 m4.length c_x1) := (blk_cell K_x1b_12.out 4).trans rfl; have B_12 := Aside0.mk (below_step B_11.out hb); clear hb  F_w0_11 U_w0_11 F_x0_11 U_x0_11 F_x1_11 U_x1_11 F_g0_11 U_g0_11 K_am_11 hc_am_0_11 hc_am_1_11 hc_am_2_11 hc_am_3_11 hc_am_4_11 K_x1b_11 hc_x1b_0_11 hc_x1b_1_11 hc_x1b_2_11 hc_x1b_3_11 hc_x1b_4_11 B_11) | (go_at_call 17; refine (laws_toMakerS.calls k A0 c0 l0 x _ (Kd.C_below HR0.out B_12.out) HC0.out Q3.out).mono ?_; rintro e w_13 ⟨v_tc, rfl, ho_tc, hb⟩; have D_w0_tc : Aside0 (w_7.heap.size ≤ w_12.heap.size) := ⟨U_w0_12.out⟩; have D_x0_tc : Aside0 (w_8.heap.size ≤ w_12.heap.size) := ⟨U_x0_12.out⟩; have D_x1_tc : Aside0 (w_9.heap.size ≤ w_12.heap.size) := ⟨U_x1_12.out⟩; have D_g0_tc : Aside0 (w_11.heap.size ≤ w_12.heap.size) := ⟨U_g0_12.out⟩; have E_tc_am : Aside0 (g_am < w_12.heap.size) := ⟨blk_lt K_am_12.out⟩; have E_tc_x1b : Aside0 (g_x1b < w_12.heap.size) := ⟨blk_lt K_x1b_12.out⟩; have N_tc := Aside0.mk (Kd.S_lower (Kd.S_mono (Kd.S_bound ho_tc) (fun k_ h_ => (show w_12.heap.size ≤ k_ ∧ k_ < w_13.heap.size from ⟨h_.2.1, h_.2.2.1⟩))) B_12.out.size); have F_w0_13 := Aside0.mk (Kd.S_below F_w0_12.out hb); have U_w0_13 := Aside0.mk (Nat.le_trans U_w0_12.out (Below.size hb)); have F_x0_13 := Aside0.mk (Kd.S_below F_x0_12.out hb); have U_x0_13 := Aside0.mk (Nat.le_trans U_x0_12.out (Below.size hb)); have F_x1_13 := Aside0.mk (Kd.R_below F_x1_12.out hb); have U_x1_13 := Aside0.mk (Nat.le_trans U_x1_12.out (Below.size hb)); have F_g0_13 := Aside0.mk (Kd.S_below F_g0_12.out hb); have U_g0_13 := Aside0.mk (Nat.le_trans U_g0_12.out (Below.size hb)); have K_am_13 := Aside0.mk (blk_below K_am_12.out hb); have hc_am_0_13 : w_13.cell? ⟨g_am, 0, none⟩ = some (.int .i64 a1_0) := (blk_cell K_am_13.out 0).trans rfl; have hc_am_1_13 : w_13.cell? ⟨g_am, 1, none⟩ = some (.int .i64 a1_1) := (blk_cell K_am_13.out 1).trans rfl; have hc_am_2_13 : w_13.cell? ⟨g_am, 2, none⟩ = some (.int .i64 a1_2) := (blk_cell K_am_13.out 2).trans rfl; have hc_am_3_13 : w_13.cell? ⟨g_am, 3, none⟩ = some (.int .i64 a1_3) := (blk_cell K_am_13.out 3).trans rfl; have hc_am_4_13 : w_13.cell? ⟨g_am, 4, none⟩ = some (.slice A1_4 l1_4.length c1_4) := (blk_cell K_am_13.out 4).trans rfl; have K_x1b_13 := Aside0.mk (blk_below K_x1b_12.out hb); have hc_x1b_0_13 : w_13.cell? ⟨g_x1b, 0, none⟩ = some (.int .i64 m0) := (blk_cell K_x1b_13.out 0).trans rfl; have hc_x1b_1_13 : w_13.cell? ⟨g_x1b, 1, none⟩ = some (.int .i64 m1) := (blk_cell K_x1b_13.out 1).trans rfl; have hc_x1b_2_13 : w_13.cell? ⟨g_x1b, 2, none⟩ = some (.int .i64 m2) := (blk_cell K_x1b_13.out 2).trans rfl; have hc_x1b_3_13 : w_13.cell? ⟨g_x1b, 3, none⟩ = some (.int .i64 m3) := (blk_cell K_x1b_13.out 3).trans rfl; have hc_x1b_4_13 : w_13.cell? ⟨g_x1b, 4, none⟩ = some (.slice A_x1 m4.length c_x1) := (blk_cell K_x1b_13.out 4).trans rfl; have B_13 := Aside0.mk (below_step B_12.out hb); obtain ⟨A_tc, c_tc, rfl⟩ := Kd.S_slice ho_tc; have F_tc_13 := N_tc; have U_tc_13 : Aside0 (w_13.heap.size ≤ w_13.heap.size) := ⟨Nat.le_refl _⟩; clear hb  F_w0_12 U_w0_12 F_x0_12 U_x0_12 F_x1_12 U_x1_12 F_g0_12 U_g0_12 K_am_12 hc_am_0_12 hc_am_1_12 hc_am_2_12 hc_am_3_12 hc_am_4_12 K_x1b_12 hc_x1b_0_12 hc_x1b_1_12 hc_x1b_2_12 hc_x1b_3_12 hc_x1b_4_12 B_12 N_tc ho_tc) | (go_at_call 20; refine (laws_eqMakerS.calls k A_x0 c_x0 x A_tc c_tc x true _ (Kd.S_reads' F_x0_13.out).2.2 (by have q_ := Kd.S_reads' F_x0_13.out; omega) (Kd.S_reads' F_tc_13.out).2.2 (by have q_ := Kd.S_reads' F_tc_13.out; omega) Q8.out).mono ?_; rintro e w_14 ⟨rfl, hb⟩; have F_w0_14 := Aside0.mk (Kd.S_below F_w0_13.out hb); have U_w0_14 := Aside0.mk (Nat.le_trans U_w0_13.out (Below.size hb)); have F_x0_14 := Aside0.mk (Kd.S_below F_x0_13.out hb); have U_x0_14 := Aside0.mk (Nat.le_trans U_x0_13.out (Below.size hb)); have F_x1_14 := Aside0.mk (Kd.R_below F_x1_13.out hb); have U_x1_14 := Aside0.mk (Nat.le_trans U_x1_13.out (Below.size hb)); have F_g0_14 := Aside0.mk (Kd.S_below F_g0_13.out hb); have U_g0_14 := Aside0.mk (Nat.le_trans U_g0_13.out (Below.size hb)); have F_tc_14 := Aside0.mk (Kd.S_below F_tc_13.out hb); have U_tc_14 := Aside0.mk (Nat.le_trans U_tc_13.out (Below.size hb)); have K_am_14 := Aside0.mk (blk_below K_am_13.out hb); have hc_am_0_14 : w_14.cell? ⟨g_am, 0, none⟩ = some (.int .i64 a1_0) := (blk_cell K_am_14.out 0).trans rfl; have hc_am_1_14 : w_14.cell? ⟨g_am, 1, none⟩ = some (.int .i64 a1_1) := (blk_cell K_am_14.out 1).trans rfl; have hc_am_2_14 : w_14.cell? ⟨g_am, 2, none⟩ = some (.int .i64 a1_2) := (blk_cell K_am_14.out 2).trans rfl; have hc_am_3_14 : w_14.cell? ⟨g_am, 3, none⟩ = some (.int .i64 a1_3) := (blk_cell K_am_14.out 3).trans rfl; have hc_am_4_14 : w_14.cell? ⟨g_am, 4, none⟩ = some (.slice A1_4 l1_4.length c1_4) := (blk_cell K_am_14.out 4).trans rfl; have K_x1b_14 := Aside0.mk (blk_below K_x1b_13.out hb); have hc_x1b_0_14 : w_14.cell? ⟨g_x1b, 0, none⟩ = some (.int .i64 m0) := (blk_cell K_x1b_14.out 0).trans rfl; have hc_x1b_1_14 : w_14.cell? ⟨g_x1b, 1, none⟩ = some (.int .i64 m1) := (blk_cell K_x1b_14.out 1).trans rfl; have hc_x1b_2_14 : w_14.cell? ⟨g_x1b, 2, none⟩ = some (.int .i64 m2) := (blk_cell K_x1b_14.out 2).trans rfl; have hc_x1b_3_14 : w_14.cell? ⟨g_x1b, 3, none⟩ = some (.int .i64 m3) := (blk_cell K_x1b_14.out 3).trans rfl; have hc_x1b_4_14 : w_14.cell? ⟨g_x1b, 4, none⟩ = some (.slice A_x1 m4.length c_x1) := (blk_cell K_x1b_14.out 4).trans rfl; have B_14 := Aside0.mk (below_step B_13.out hb); clear hb  F_w0_13 U_w0_13 F_x0_13 U_x0_13 F_x1_13 U_x1_13 F_g0_13 U_g0_13 F_tc_13 U_tc_13 K_am_13 hc_am_0_13 hc_am_1_13 hc_am_2_13 hc_am_3_13 hc_am_4_13 K_x1b_13 hc_x1b_0_13 hc_x1b_1_13 hc_x1b_2_13 hc_x1b_3_13 hc_x1b_4_13 B_13))
   have hb : Below w_14.heap.size w_14 w_14.drew := below_drew1 (Below.refl _ _)
   have F_w0_15 := Aside0.mk (Kd.S_below F_w0_14.out hb)
   have U_w0_15 := Aside0.mk (Nat.le_trans U_w0_14.out (Below.size hb))
   have F_x0_15 := Aside0.mk (Kd.S_below F_x0_14.out hb)
   have U_x0_15 := Aside0.mk (Nat.le_trans U_x0_14.out (Below.size hb))
   have F_x1_15 := Aside0.mk (Kd.R_below F_x1_14.out hb)
   have U_x1_15 := Aside0.mk (Nat.le_trans U_x1_14.out (Below.size hb))
   have F_g0_15 := Aside0.mk (Kd.S_below F_g0_14.out hb)
   have U_g0_15 := Aside0.mk (Nat.le_trans U_g0_14.out (Below.size hb))
   have K_am_15 := Aside0.mk (blk_below K_am_14.out hb)
   have hc_am_0_15 : w_14.drew.cell? ⟨g_am, 0, none⟩ = some (.int .i64 a1_0) := (blk_cell K_am_15.out 0).trans rfl
   have hc_am_1_15 : w_14.drew.cell? ⟨g_am, 1, none⟩ = some (.int .i64 a1_1) := (blk_cell K_am_15.out 1).trans rfl
   have hc_am_2_15 : w_14.drew.cell? ⟨g_am, 2, none⟩ = some (.int .i64 a1_2) := (blk_cell K_am_15.out 2).trans rfl
   have hc_am_3_15 : w_14.drew.cell? ⟨g_am, 3, none⟩ = some (.int .i64 a1_3) := (blk_cell K_am_15.out 3).trans rfl
   have hc_am_4_15 : w_14.drew.cell? ⟨g_am, 4, none⟩ = some (.slice A1_4 l1_4.length c1_4) := (blk_cell K_am_15.out 4).trans rfl
   have K_x1b_15 := Aside0.mk (blk_below K_x1b_14.out hb)
   have hc_x1b_0_15 : w_14.drew.cell? ⟨g_x1b, 0, none⟩ = some (.int .i64 m0) := (blk_cell K_x1b_15.out 0).trans rfl
   have hc_x1b_1_15 : w_14.drew.cell? ⟨g_x1b, 1, none⟩ = some (.int .i64 m1) := (blk_cell K_x1b_15.out 1).trans rfl
   have hc_x1b_2_15 : w_14.drew.cell? ⟨g_x1b, 2, none⟩ = some (.int .i64 m2) := (blk_cell K_x1b_15.out 2).trans rfl
   have hc_x1b_3_15 : w_14.drew.cell? ⟨g_x1b, 3, none⟩ = some (.int .i64 m3) := (blk_cell K_x1b_15.out 3).trans rfl
   have hc_x1b_4_15 : w_14.drew.cell? ⟨g_x1b, 4, none⟩ = some (.slice A_x1 m4.length c_x1) := (blk_cell K_x1b_15.out 4).trans rfl
   have B_15 := Aside0.mk (below_step B_14.out hb)
   clear hb F_w0_14 U_w0_14 F_x0_14 U_x0_14 F_x1_14 U_x1_14 F_g0_14 U_g0_14 K_am_14 hc_am_0_14 hc_am_1_14 hc_am_2_14 hc_am_3_14 hc_am_4_14 K_x1b_14 hc_x1b_0_14 hc_x1b_1_14 hc_x1b_2_14 hc_x1b_3_14 hc_x1b_4_14 B_14
   refine start_ (n := 5) (S := fun w' => w'.cell? ⟨g_x1b, 0, none⟩ = some (.int .i64 m0) ∧ w'.cell? ⟨g_x1b, 1, none⟩ = some (.int .i64 m1) ∧ w'.cell? ⟨g_x1b, 2, none⟩ = some (.int .i64 m2) ∧ w'.cell? ⟨g_x1b, 3, none⟩ = some (.int .i64 m3) ∧ w'.cell? ⟨g_x1b, 4, none⟩ = some (.slice A_x1 m4.length c_x1) ∧ w'.cell? ⟨g_am, 0, none⟩ = some (.int .i64 a1_0) ∧ w'.cell? ⟨g_am, 1, none⟩ = some (.int .i64 a1_1) ∧ w'.cell? ⟨g_am, 2, none⟩ = some (.int .i64 a1_2) ∧ w'.cell? ⟨g_am, 3, none⟩ = some (.int .i64 a1_3) ∧ w'.cell? ⟨g_am, 4, none⟩ = some (.slice A1_4 l1_4.length c1_4)) (ds := []) #[false, false, false, false, false] (by kernel_rfl) rfl rfl ⟨hc_x1b_0_15, hc_x1b_1_15, hc_x1b_2_15, hc_x1b_3_15, hc_x1b_4_15, hc_am_0_15, hc_am_1_15, hc_am_2_15, hc_am_3_15, hc_am_4_15⟩ (fun hHeld => ?_)
   generalize w_14.drew = w_15 at F_w0_15 F_x0_15 F_x1_15 F_g0_15 U_w0_15 U_x0_15 U_x1_15 U_g0_15 K_am_15 K_x1b_15 hc_am_0_15 hc_am_1_15 hc_am_2_15 hc_am_3_15 hc_am_4_15 hc_x1b_0_15 hc_x1b_1_15 hc_x1b_2_15 hc_x1b_3_15 hc_x1b_4_15 B_15 hHeld ⊢
   refine take_ (i := 0) (N := some 45) (v := ?_) (a' := ?_) #[true, false, false, false, false] rfl rfl (by kernel_rfl) (fun _ _ _ h => h) (Or.inl ⟨by rfl, ?_⟩) hHeld ?_ ?_
   rotate_left
   ·
    rintro w' ⟨s0, s1, s2, s3, s4, s5, s6, s7, s8, s9⟩
    go_simp
    with_reducible rfl
   rotate_left; (focus simp only [Act.put, List.setIfInBounds_toArray, List.set_cons_zero, List.set_cons_succ, i64_w, i32_w]; rfl)
   refine take_ (i := 1) (N := some 46) (v := ?_) (a' := ?_) #[true, true, false, false, false] rfl rfl (by kernel_rfl) (fun _ _ _ h => h) (Or.inl ⟨by rfl, ?_⟩) hHeld ?_ ?_
   rotate_left
   ·
    rintro w' ⟨s0, s1, s2, s3, s4, s5, s6, s7, s8, s9⟩
    go_simp
    with_reducible rfl
   rotate_left; (focus simp only [Act.put, List.setIfInBounds_toArray, List.set_cons_zero, List.set_cons_succ, i64_w, i32_w]; rfl)
   refine one_ (i := 2) (N := some 47) #[true, true, true, false, false] rfl rfl (by kernel_rfl) (by decide) (fun K hK => ?_)
   refine goes_ Try.func26 (by kernel_rfl) rfl #[.agg #[.int .i64 a1_0, .int .i64 a1_1, .int .i64 a1_2, .int .i64 a1_3, .slice A1_4 l1_4.length c1_4]] (by rfl) rfl rfl sm_ ?_
   refine (laws_toMaker.calls k a1_0 a1_1 a1_2 a1_3 A1_4 c1_4 l1_4 m0 m1 m2 m3 m4 _ (Kd.C_below HR1.out B_15.out) HC1.out Q4.out).mono ?_
   rintro e w_16 ⟨v_td, rfl, ho_td, hb⟩
   refine ⟨_, rfl, ?_⟩
   have D_w0_td : Aside0 (w_7.heap.size ≤ w_15.heap.size) := ⟨U_w0_15.out⟩
   have D_x0_td : Aside0 (w_8.heap.size ≤ w_15.heap.size) := ⟨U_x0_15.out⟩
   have D_x1_td : Aside0 (w_9.heap.size ≤ w_15.heap.size) := ⟨U_x1_15.out⟩
   have D_g0_td : Aside0 (w_11.heap.size ≤ w_15.heap.size) := ⟨U_g0_15.out⟩
   have E_td_am : Aside0 (g_am < w_15.heap.size) := ⟨blk_lt K_am_15.out⟩
   have E_td_x1b : Aside0 (g_x1b < w_15.heap.size) := ⟨blk_lt K_x1b_15.out⟩
   have N_td := Aside0.mk (Kd.R_lower (Kd.R_mono (Kd.R_bound ho_td) (fun k_ h_ => (show w_15.heap.size ≤ k_ ∧ k_ < w_16.heap.size from ⟨h_.2.1, h_.2.2.1⟩))) B_15.out.size)
   have F_w0_16 := Aside0.mk (Kd.S_below F_w0_15.out hb)
   have U_w0_16 := Aside0.mk (Nat.le_trans U_w0_15.out (Below.size hb))
   have F_x0_16 := Aside0.mk (Kd.S_below F_x0_15.out hb)
   have U_x0_16 := Aside0.mk (Nat.le_trans U_x0_15.out (Below.size hb))
   have F_x1_16 := Aside0.mk (Kd.R_below F_x1_15.out hb)
   have U_x1_16 := Aside0.mk (Nat.le_trans U_x1_15.out (Below.size hb))
   have F_g0_16 := Aside0.mk (Kd.S_below F_g0_15.out hb)
   have U_g0_16 := Aside0.mk (Nat.le_trans U_g0_15.out (Below.size hb))
   have K_am_16 := Aside0.mk (blk_below K_am_15.out hb)
   have hc_am_0_16 : w_16.cell? ⟨g_am, 0, none⟩ = some (.int .i64 a1_0) := (blk_cell K_am_16.out 0).trans rfl
   have hc_am_1_16 : w_16.cell? ⟨g_am, 1, none⟩ = some (.int .i64 a1_1) := (blk_cell K_am_16.out 1).trans rfl
   have hc_am_2_16 : w_16.cell? ⟨g_am, 2, none⟩ = some (.int .i64 a1_2) := (blk_cell K_am_16.out 2).trans rfl
   have hc_am_3_16 : w_16.cell? ⟨g_am, 3, none⟩ = some (.int .i64 a1_3) := (blk_cell K_am_16.out 3).trans rfl
   have hc_am_4_16 : w_16.cell? ⟨g_am, 4, none⟩ = some (.slice A1_4 l1_4.length c1_4) := (blk_cell K_am_16.out 4).trans rfl
   have K_x1b_16 := Aside0.mk (blk_below K_x1b_15.out hb)
   have hc_x1b_0_16 : w_16.cell? ⟨g_x1b, 0, none⟩ = some (.int .i64 m0) := (blk_cell K_x1b_16.out 0).trans rfl
   have hc_x1b_1_16 : w_16.cell? ⟨g_x1b, 1, none⟩ = some (.int .i64 m1) := (blk_cell K_x1b_16.out 1).trans rfl
   have hc_x1b_2_16 : w_16.cell? ⟨g_x1b, 2, none⟩ = some (.int .i64 m2) := (blk_cell K_x1b_16.out 2).trans rfl
   have hc_x1b_3_16 : w_16.cell? ⟨g_x1b, 3, none⟩ = some (.int .i64 m3) := (blk_cell K_x1b_16.out 3).trans rfl
   have hc_x1b_4_16 : w_16.cell? ⟨g_x1b, 4, none⟩ = some (.slice A_x1 m4.length c_x1) := (blk_cell K_x1b_16.out 4).trans rfl
   have B_16 := Aside0.mk (below_step B_15.out hb)
   obtain ⟨A_td, c_td, rfl⟩ := Kd.R_slice ho_td
   have F_td_16 := N_td
   have U_td_16 : Aside0 (w_16.heap.size ≤ w_16.heap.size) := ⟨Nat.le_refl _⟩
   clear hb F_w0_15 U_w0_15 F_x0_15 U_x0_15 F_x1_15 U_x1_15 F_g0_15 U_g0_15 K_am_15 hc_am_0_15 hc_am_1_15 hc_am_2_15 hc_am_3_15 hc_am_4_15 K_x1b_15 hc_x1b_0_15 hc_x1b_1_15 hc_x1b_2_15 hc_x1b_3_15 hc_x1b_4_15 B_15 N_td ho_td
   refine hK.out _ _ ⟨hc_x1b_0_16, hc_x1b_1_16, hc_x1b_2_16, hc_x1b_3_16, hc_x1b_4_16, hc_am_0_16, hc_am_1_16, hc_am_2_16, hc_am_3_16, hc_am_4_16⟩ (fun hHeld => ?_)
   clear hK K
   refine nm_ ?_
   refine one_ (i := 3) (N := some 48) #[true, true, true, true, false] rfl rfl (by kernel_rfl) (by decide) (fun K hK => ?_)
   refine goes_ Try.func19 (by kernel_rfl) rfl #[.agg #[.int .i64 m0, .int .i64 m1, .int .i64 m2, .int .i64 m3, .slice A_x1 m4.length c_x1], .agg #[.int .i64 m0, .int .i64 m1, .int .i64 m2, .int .i64 m3, .slice A_td m4.length c_td]] (by rfl) rfl rfl sm_ ?_
   refine (laws_eqMaker.calls k m0 m1 m2 m3 A_x1 c_x1 m4 m0 m1 m2 m3 A_td c_td m4 true _ (Kd.R_reads' F_x1_16.out).2.2 (by have q_ := Kd.R_reads' F_x1_16.out; omega) (Kd.R_reads' F_td_16.out).2.2 (by have q_ := Kd.R_reads' F_td_16.out; omega) Q9.out).mono ?_
   rintro e w_17 ⟨rfl, hb⟩
   refine ⟨_, rfl, ?_⟩
   have F_w0_17 := Aside0.mk (Kd.S_below F_w0_16.out hb)
   have U_w0_17 := Aside0.mk (Nat.le_trans U_w0_16.out (Below.size hb))
   have F_x0_17 := Aside0.mk (Kd.S_below F_x0_16.out hb)
   have U_x0_17 := Aside0.mk (Nat.le_trans U_x0_16.out (Below.size hb))
   have F_x1_17 := Aside0.mk (Kd.R_below F_x1_16.out hb)
   have U_x1_17 := Aside0.mk (Nat.le_trans U_x1_16.out (Below.size hb))
   have F_g0_17 := Aside0.mk (Kd.S_below F_g0_16.out hb)
   have U_g0_17 := Aside0.mk (Nat.le_trans U_g0_16.out (Below.size hb))
   have F_td_17 := Aside0.mk (Kd.R_below F_td_16.out hb)
   have U_td_17 := Aside0.mk (Nat.le_trans U_td_16.out (Below.size hb))
   have K_am_17 := Aside0.mk (blk_below K_am_16.out hb)
   have hc_am_0_17 : w_17.cell? ⟨g_am, 0, none⟩ = some (.int .i64 a1_0) := (blk_cell K_am_17.out 0).trans rfl
   have hc_am_1_17 : w_17.cell? ⟨g_am, 1, none⟩ = some (.int .i64 a1_1) := (blk_cell K_am_17.out 1).trans rfl
   have hc_am_2_17 : w_17.cell? ⟨g_am, 2, none⟩ = some (.int .i64 a1_2) := (blk_cell K_am_17.out 2).trans rfl
   have hc_am_3_17 : w_17.cell? ⟨g_am, 3, none⟩ = some (.int .i64 a1_3) := (blk_cell K_am_17.out 3).trans rfl
   have hc_am_4_17 : w_17.cell? ⟨g_am, 4, none⟩ = some (.slice A1_4 l1_4.length c1_4) := (blk_cell K_am_17.out 4).trans rfl
   have K_x1b_17 := Aside0.mk (blk_below K_x1b_16.out hb)
   have hc_x1b_0_17 : w_17.cell? ⟨g_x1b, 0, none⟩ = some (.int .i64 m0) := (blk_cell K_x1b_17.out 0).trans rfl
   have hc_x1b_1_17 : w_17.cell? ⟨g_x1b, 1, none⟩ = some (.int .i64 m1) := (blk_cell K_x1b_17.out 1).trans rfl
   have hc_x1b_2_17 : w_17.cell? ⟨g_x1b, 2, none⟩ = some (.int .i64 m2) := (blk_cell K_x1b_17.out 2).trans rfl
   have hc_x1b_3_17 : w_17.cell? ⟨g_x1b, 3, none⟩ = some (.int .i64 m3) := (blk_cell K_x1b_17.out 3).trans rfl
   have hc_x1b_4_17 : w_17.cell? ⟨g_x1b, 4, none⟩ = some (.slice A_x1 m4.length c_x1) := (blk_cell K_x1b_17.out 4).trans rfl
   have B_17 := Aside0.mk (below_step B_16.out hb)
   clear hb F_w0_16 U_w0_16 F_x0_16 U_x0_16 F_x1_16 U_x1_16 F_g0_16 U_g0_16 F_td_16 U_td_16 K_am_16 hc_am_0_16 hc_am_1_16 hc_am_2_16 hc_am_3_16 hc_am_4_16 K_x1b_16 hc_x1b_0_16 hc_x1b_1_16 hc_x1b_2_16 hc_x1b_3_16 hc_x1b_4_16 B_16
   refine hK.out _ _ ⟨hc_x1b_0_17, hc_x1b_1_17, hc_x1b_2_17, hc_x1b_3_17, hc_x1b_4_17, hc_am_0_17, hc_am_1_17, hc_am_2_17, hc_am_3_17, hc_am_4_17⟩ (fun hHeld => ?_)
   clear hK K
   refine nm_ ?_
   refine pure_ (i := 4) (N := some 49) (v := ?_) (a' := ?_) #[true, true, true, true, true] rfl rfl (by kernel_rfl) (fun _ _ _ h => h) (Or.inl ⟨by rfl, ?_⟩) ?_ ?_; rotate_left; (focus intro w'; go_simp; with_reducible rfl); rotate_left; (focus simp only [Act.put, List.setIfInBounds_toArray, List.set_cons_zero, List.set_cons_succ, i64_w, i32_w]; rfl)
   refine done_ (by kernel_rfl) ?_
   go_wp2_with (first | (go_at_call 21; refine (laws_markMakerS.calls0 k (fun k_ => w_7.heap.size ≤ k_ ∧ k_ < w_8.heap.size) (.slice A_x0 x.length c_x0) x 1 k1 x2 w _ B_17.out F_x0_17.out Q10.out).mono ?_; rintro e w_18 ⟨rfl, ho, hb, hk⟩; have F_w0_18 := Aside0.mk (Kd.S_kept F_w0_17.out hk (fun k_ h_ h2_ => by have := D_w0_x0.out; omega)); have U_w0_18 := Aside0.mk (Nat.le_trans U_w0_17.out hk.1); have F_x0_18 := Aside0.mk (ho); have U_x0_18 := Aside0.mk (Nat.le_trans U_x0_17.out hk.1); have F_x1_18 := Aside0.mk (Kd.R_kept F_x1_17.out hk (fun k_ h_ h2_ => by have := D_x0_x1.out; omega)); have U_x1_18 := Aside0.mk (Nat.le_trans U_x1_17.out hk.1); have F_g0_18 := Aside0.mk (Kd.S_kept F_g0_17.out hk (fun k_ h_ h2_ => by have := D_x0_g0.out; omega)); have U_g0_18 := Aside0.mk (Nat.le_trans U_g0_17.out hk.1); have K_am_18 := Aside0.mk (blk_kept K_am_17.out hk (fun h_ => by have := E_x0_am.out; omega)); have hc_am_0_18 : w_18.cell? ⟨g_am, 0, none⟩ = some (.int .i64 a1_0) := (blk_cell K_am_18.out 0).trans rfl; have hc_am_1_18 : w_18.cell? ⟨g_am, 1, none⟩ = some (.int .i64 a1_1) := (blk_cell K_am_18.out 1).trans rfl; have hc_am_2_18 : w_18.cell? ⟨g_am, 2, none⟩ = some (.int .i64 a1_2) := (blk_cell K_am_18.out 2).trans rfl; have hc_am_3_18 : w_18.cell? ⟨g_am, 3, none⟩ = some (.int .i64 a1_3) := (blk_cell K_am_18.out 3).trans rfl; have hc_am_4_18 : w_18.cell? ⟨g_am, 4, none⟩ = some (.slice A1_4 l1_4.length c1_4) := (blk_cell K_am_18.out 4).trans rfl; have K_x1b_18 := Aside0.mk (blk_kept K_x1b_17.out hk (fun h_ => by have := E_x0_x1b.out; omega)); have hc_x1b_0_18 : w_18.cell? ⟨g_x1b, 0, none⟩ = some (.int .i64 m0) := (blk_cell K_x1b_18.out 0).trans rfl; have hc_x1b_1_18 : w_18.cell? ⟨g_x1b, 1, none⟩ = some (.int .i64 m1) := (blk_cell K_x1b_18.out 1).trans rfl; have hc_x1b_2_18 : w_18.cell? ⟨g_x1b, 2, none⟩ = some (.int .i64 m2) := (blk_cell K_x1b_18.out 2).trans rfl; have hc_x1b_3_18 : w_18.cell? ⟨g_x1b, 3, none⟩ = some (.int .i64 m3) := (blk_cell K_x1b_18.out 3).trans rfl; have hc_x1b_4_18 : w_18.cell? ⟨g_x1b, 4, none⟩ = some (.slice A_x1 m4.length c_x1) := (blk_cell K_x1b_18.out 4).trans rfl; have B_18 := Aside0.mk (hb); clear ho hb hk F_w0_17 U_w0_17 F_x0_17 U_x0_17 F_x1_17 U_x1_17 F_g0_17 U_g0_17 K_am_17 hc_am_0_17 hc_am_1_17 hc_am_2_17 hc_am_3_17 hc_am_4_17 K_x1b_17 hc_x1b_0_17 hc_x1b_1_17 hc_x1b_2_17 hc_x1b_3_17 hc_x1b_4_17 B_17) | (go_at_call 22; refine (laws_markMaker.calls k m0 m1 m2 m3 (fun k_ => w_8.heap.size ≤ k_ ∧ k_ < w_9.heap.size) (.slice A_x1 m4.length c_x1) m4 k1 k2 m5 w _ B_18.out F_x1_18.out Q11.out).mono ?_; rintro e w_19 ⟨rfl, ho, hb, hk⟩; have F_w0_19 := Aside0.mk (Kd.S_kept F_w0_18.out hk (fun k_ h_ h2_ => by have := D_w0_x1.out; omega)); have U_w0_19 := Aside0.mk (Nat.le_trans U_w0_18.out hk.1); have F_x0_19 := Aside0.mk (Kd.S_kept F_x0_18.out hk (fun k_ h_ h2_ => by have := D_x0_x1.out; omega)); have U_x0_19 := Aside0.mk (Nat.le_trans U_x0_18.out hk.1); have F_x1_19 := Aside0.mk (Kd.R_mono (Kd.R_tight rfl ho) (fun k_ hk_ => F_x1_18.out.1 k_ hk_.symm)); have U_x1_19 := Aside0.mk (Nat.le_trans U_x1_18.out hk.1); have F_g0_19 := Aside0.mk (Kd.S_kept F_g0_18.out hk (fun k_ h_ h2_ => by have := D_x1_g0.out; omega)); have U_g0_19 := Aside0.mk (Nat.le_trans U_g0_18.out hk.1); have K_am_19 := Aside0.mk (blk_kept K_am_18.out hk (fun h_ => by have := E_x1_am.out; omega)); have hc_am_0_19 : w_19.cell? ⟨g_am, 0, none⟩ = some (.int .i64 a1_0) := (blk_cell K_am_19.out 0).trans rfl; have hc_am_1_19 : w_19.cell? ⟨g_am, 1, none⟩ = some (.int .i64 a1_1) := (blk_cell K_am_19.out 1).trans rfl; have hc_am_2_19 : w_19.cell? ⟨g_am, 2, none⟩ = some (.int .i64 a1_2) := (blk_cell K_am_19.out 2).trans rfl; have hc_am_3_19 : w_19.cell? ⟨g_am, 3, none⟩ = some (.int .i64 a1_3) := (blk_cell K_am_19.out 3).trans rfl; have hc_am_4_19 : w_19.cell? ⟨g_am, 4, none⟩ = some (.slice A1_4 l1_4.length c1_4) := (blk_cell K_am_19.out 4).trans rfl; have K_x1b_19 := Aside0.mk (blk_kept K_x1b_18.out hk (fun h_ => by have := E_x1_x1b.out; omega)); have hc_x1b_0_19 : w_19.cell? ⟨g_x1b, 0, none⟩ = some (.int .i64 m0) := (blk_cell K_x1b_19.out 0).trans rfl; have hc_x1b_1_19 : w_19.cell? ⟨g_x1b, 1, none⟩ = some (.int .i64 m1) := (blk_cell K_x1b_19.out 1).trans rfl; have hc_x1b_2_19 : w_19.cell? ⟨g_x1b, 2, none⟩ = some (.int .i64 m2) := (blk_cell K_x1b_19.out 2).trans rfl; have hc_x1b_3_19 : w_19.cell? ⟨g_x1b, 3, none⟩ = some (.int .i64 m3) := (blk_cell K_x1b_19.out 3).trans rfl; have hc_x1b_4_19 : w_19.cell? ⟨g_x1b, 4, none⟩ = some (.slice A_x1 m4.length c_x1) := (blk_cell K_x1b_19.out 4).trans rfl; have B_19 := Aside0.mk (hb); clear ho hb hk F_w0_18 U_w0_18 F_x0_18 U_x0_18 F_x1_18 U_x1_18 F_g0_18 U_g0_18 K_am_18 hc_am_0_18 hc_am_1_18 hc_am_2_18 hc_am_3_18 hc_am_4_18 K_x1b_18 hc_x1b_0_18 hc_x1b_1_18 hc_x1b_2_18 hc_x1b_3_18 hc_x1b_4_18 B_18) | (go_at_call 20; refine (laws_eqMakerS.calls k A_g0 c_g0 z A_w0 c_w0 y true _ (Kd.S_reads' F_g0_19.out).2.2 (by have q_ := Kd.S_reads' F_g0_19.out; omega) (Kd.S_reads' F_w0_19.out).2.2 (by have q_ := Kd.S_reads' F_w0_19.out; omega) Q7.out).mono ?_; rintro e w_20 ⟨rfl, hb⟩; have F_w0_20 := Aside0.mk (Kd.S_below F_w0_19.out hb); have U_w0_20 := Aside0.mk (Nat.le_trans U_w0_19.out (Below.size hb)); have F_g0_20 := Aside0.mk (Kd.S_below F_g0_19.out hb); have U_g0_20 := Aside0.mk (Nat.le_trans U_g0_19.out (Below.size hb)); have K_am_20 := Aside0.mk (blk_below K_am_19.out hb); have hc_am_0_20 : w_20.cell? ⟨g_am, 0, none⟩ = some (.int .i64 a1_0) := (blk_cell K_am_20.out 0).trans rfl; have hc_am_1_20 : w_20.cell? ⟨g_am, 1, none⟩ = some (.int .i64 a1_1) := (blk_cell K_am_20.out 1).trans rfl; have hc_am_2_20 : w_20.cell? ⟨g_am, 2, none⟩ = some (.int .i64 a1_2) := (blk_cell K_am_20.out 2).trans rfl; have hc_am_3_20 : w_20.cell? ⟨g_am, 3, none⟩ = some (.int .i64 a1_3) := (blk_cell K_am_20.out 3).trans rfl; have hc_am_4_20 : w_20.cell? ⟨g_am, 4, none⟩ = some (.slice A1_4 l1_4.length c1_4) := (blk_cell K_am_20.out 4).trans rfl; have B_20 := Aside0.mk (below_step B_19.out hb); clear hb  F_w0_19 U_w0_19 F_g0_19 U_g0_19 K_am_19 hc_am_0_19 hc_am_1_19 hc_am_2_19 hc_am_3_19 hc_am_4_19 B_19) | (go_at_call 21; refine (laws_markMakerS.calls0 k (fun k_ => w_10.heap.size ≤ k_ ∧ k_ < w_11.heap.size) (.slice A_g0 z.length c_g0) z 1 q z2 w _ B_20.out F_g0_20.out Q12.out).mono ?_; rintro e w_21 ⟨rfl, ho, hb, hk⟩; have F_w0_21 := Aside0.mk (Kd.S_kept F_w0_20.out hk (fun k_ h_ h2_ => by have := D_w0_g0.out; omega)); have U_w0_21 := Aside0.mk (Nat.le_trans U_w0_20.out hk.1); have F_g0_21 := Aside0.mk (ho); have U_g0_21 := Aside0.mk (Nat.le_trans U_g0_20.out hk.1); have K_am_21 := Aside0.mk (blk_kept K_am_20.out hk (fun h_ => by have := E_g0_am.out; omega)); have hc_am_0_21 : w_21.cell? ⟨g_am, 0, none⟩ = some (.int .i64 a1_0) := (blk_cell K_am_21.out 0).trans rfl; have hc_am_1_21 : w_21.cell? ⟨g_am, 1, none⟩ = some (.int .i64 a1_1) := (blk_cell K_am_21.out 1).trans rfl; have hc_am_2_21 : w_21.cell? ⟨g_am, 2, none⟩ = some (.int .i64 a1_2) := (blk_cell K_am_21.out 2).trans rfl; have hc_am_3_21 : w_21.cell? ⟨g_am, 3, none⟩ = some (.int .i64 a1_3) := (blk_cell K_am_21.out 3).trans rfl; have hc_am_4_21 : w_21.cell? ⟨g_am, 4, none⟩ = some (.slice A1_4 l1_4.length c1_4) := (blk_cell K_am_21.out 4).trans rfl; have B_21 := Aside0.mk (hb); clear ho hb hk F_w0_20 U_w0_20 F_g0_20 U_g0_20 K_am_20 hc_am_0_20 hc_am_1_20 hc_am_2_20 hc_am_3_20 hc_am_4_20 B_20) | (go_at_call 28; refine (calls_of_args (args' := #[.slice A_g0 z2.length c_g0, .int .i64 1]) (by rw [show z.length = z2.length from (Kd.S_reads' F_g0_21.out).1]) (laws_heldMakerS.calls k A_g0 c_g0 z2 1 q _ ((Kd.S_reads' F_g0_21.out).1 ▸ (Kd.S_reads' F_g0_21.out).2.2) (by have q_ := Kd.S_reads' F_g0_21.out; omega) Q13.out)).mono ?_; rintro e w_22 ⟨rfl, hd⟩; have hb : Below w_21.heap.size w_21 w_22 := (by obtain ⟨m_, hm_⟩ := hd.out; rw [hm_]; exact pw_below_drewN (Below.refl _ _) m_); have F_w0_22 := Aside0.mk (Kd.S_below F_w0_21.out hb); have U_w0_22 := Aside0.mk (Nat.le_trans U_w0_21.out (Below.size hb)); have F_g0_22 := Aside0.mk (Kd.S_below F_g0_21.out hb); have U_g0_22 := Aside0.mk (Nat.le_trans U_g0_21.out (Below.size hb)); have K_am_22 := Aside0.mk (blk_below K_am_21.out hb); have hc_am_0_22 : w_22.cell? ⟨g_am, 0, none⟩ = some (.int .i64 a1_0) := (blk_cell K_am_22.out 0).trans rfl; have hc_am_1_22 : w_22.cell? ⟨g_am, 1, none⟩ = some (.int .i64 a1_1) := (blk_cell K_am_22.out 1).trans rfl; have hc_am_2_22 : w_22.cell? ⟨g_am, 2, none⟩ = some (.int .i64 a1_2) := (blk_cell K_am_22.out 2).trans rfl; have hc_am_3_22 : w_22.cell? ⟨g_am, 3, none⟩ = some (.int .i64 a1_3) := (blk_cell K_am_22.out 3).trans rfl; have hc_am_4_22 : w_22.cell? ⟨g_am, 4, none⟩ = some (.slice A1_4 l1_4.length c1_4) := (blk_cell K_am_22.out 4).trans rfl; have B_22 := Aside0.mk (below_step B_21.out hb); clear hb hd F_w0_21 U_w0_21 F_g0_21 U_g0_21 K_am_21 hc_am_0_21 hc_am_1_21 hc_am_2_21 hc_am_3_21 hc_am_4_21 B_21))
   have hb : Below w_22.heap.size w_22 w_22.drew := below_drew1 (Below.refl _ _)
   have F_w0_23 := Aside0.mk (Kd.S_below F_w0_22.out hb)
   have U_w0_23 := Aside0.mk (Nat.le_trans U_w0_22.out (Below.size hb))
   have F_g0_23 := Aside0.mk (Kd.S_below F_g0_22.out hb)
   have U_g0_23 := Aside0.mk (Nat.le_trans U_g0_22.out (Below.size hb))
   have K_am_23 := Aside0.mk (blk_below K_am_22.out hb)
   have hc_am_0_23 : w_22.drew.cell? ⟨g_am, 0, none⟩ = some (.int .i64 a1_0) := (blk_cell K_am_23.out 0).trans rfl
   have hc_am_1_23 : w_22.drew.cell? ⟨g_am, 1, none⟩ = some (.int .i64 a1_1) := (blk_cell K_am_23.out 1).trans rfl
   have hc_am_2_23 : w_22.drew.cell? ⟨g_am, 2, none⟩ = some (.int .i64 a1_2) := (blk_cell K_am_23.out 2).trans rfl
   have hc_am_3_23 : w_22.drew.cell? ⟨g_am, 3, none⟩ = some (.int .i64 a1_3) := (blk_cell K_am_23.out 3).trans rfl
   have hc_am_4_23 : w_22.drew.cell? ⟨g_am, 4, none⟩ = some (.slice A1_4 l1_4.length c1_4) := (blk_cell K_am_23.out 4).trans rfl
   have B_23 := Aside0.mk (below_step B_22.out hb)
   clear hb F_w0_22 U_w0_22 F_g0_22 U_g0_22 K_am_22 hc_am_0_22 hc_am_1_22 hc_am_2_22 hc_am_3_22 hc_am_4_22 B_22
   refine start_ (n := 6) (S := fun w' => w'.cell? ⟨g_am, 0, none⟩ = some (.int .i64 a1_0) ∧ w'.cell? ⟨g_am, 1, none⟩ = some (.int .i64 a1_1) ∧ w'.cell? ⟨g_am, 2, none⟩ = some (.int .i64 a1_2) ∧ w'.cell? ⟨g_am, 3, none⟩ = some (.int .i64 a1_3) ∧ w'.cell? ⟨g_am, 4, none⟩ = some (.slice A1_4 l1_4.length c1_4)) (ds := []) #[false, false, false, false, false, false] (by kernel_rfl) rfl rfl ⟨hc_am_0_23, hc_am_1_23, hc_am_2_23, hc_am_3_23, hc_am_4_23⟩ (fun hHeld => ?_)
   generalize w_22.drew = w_23 at F_w0_23 F_g0_23 U_w0_23 U_g0_23 K_am_23 hc_am_0_23 hc_am_1_23 hc_am_2_23 hc_am_3_23 hc_am_4_23 B_23 hHeld ⊢
   refine pure_ (i := 0) (N := some 75) (v := ?_) (a' := ?_) #[true, false, false, false, false, false] rfl rfl (by kernel_rfl) (fun _ _ _ h => h) (Or.inl ⟨by rfl, ?_⟩) ?_ ?_; rotate_left; (focus intro w'; go_simp; with_reducible rfl); rotate_left; (focus simp only [Act.put, List.setIfInBounds_toArray, List.set_cons_zero, List.set_cons_succ, i64_w, i32_w]; rfl)
   refine take_ (i := 2) (N := some 77) (v := ?_) (a' := ?_) #[true, false, true, false, false, false] rfl rfl (by kernel_rfl) (fun _ _ _ h => h) (Or.inl ⟨by rfl, ?_⟩) hHeld ?_ ?_
   rotate_left
   ·
    rintro w' ⟨s0, s1, s2, s3, s4⟩
    go_simp
    with_reducible rfl
   rotate_left; (focus simp only [Act.put, List.setIfInBounds_toArray, List.set_cons_zero, List.set_cons_succ, i64_w, i32_w]; rfl)
   refine one_ (i := 1) (N := some 76) #[true, true, true, false, false, false] rfl rfl (by kernel_rfl) (by decide) (fun K hK => ?_)
   refine goes_ Try.func17 (by kernel_rfl) rfl #[.slice A0 l0.length c0] (by rfl) rfl rfl sm_ ?_
   refine (laws_toMakerS.calls k A0 c0 l0 x _ (Kd.C_below HR0.out B_23.out) HC0.out Q3.out).mono ?_
   rintro e w_24 ⟨v_te, rfl, ho_te, hb⟩
   refine ⟨_, rfl, ?_⟩
   have D_w0_te : Aside0 (w_7.heap.size ≤ w_23.heap.size) := ⟨U_w0_23.out⟩
   have D_g0_te : Aside0 (w_11.heap.size ≤ w_23.heap.size) := ⟨U_g0_23.out⟩
   have E_te_am : Aside0 (g_am < w_23.heap.size) := ⟨blk_lt K_am_23.out⟩
   have N_te := Aside0.mk (Kd.S_lower (Kd.S_mono (Kd.S_bound ho_te) (fun k_ h_ => (show w_23.heap.size ≤ k_ ∧ k_ < w_24.heap.size from ⟨h_.2.1, h_.2.2.1⟩))) B_23.out.size)
   have F_w0_24 := Aside0.mk (Kd.S_below F_w0_23.out hb)
   have U_w0_24 := Aside0.mk (Nat.le_trans U_w0_23.out (Below.size hb))
   have F_g0_24 := Aside0.mk (Kd.S_below F_g0_23.out hb)
   have U_g0_24 := Aside0.mk (Nat.le_trans U_g0_23.out (Below.size hb))
   have K_am_24 := Aside0.mk (blk_below K_am_23.out hb)
   have hc_am_0_24 : w_24.cell? ⟨g_am, 0, none⟩ = some (.int .i64 a1_0) := (blk_cell K_am_24.out 0).trans rfl
   have hc_am_1_24 : w_24.cell? ⟨g_am, 1, none⟩ = some (.int .i64 a1_1) := (blk_cell K_am_24.out 1).trans rfl
   have hc_am_2_24 : w_24.cell? ⟨g_am, 2, none⟩ = some (.int .i64 a1_2) := (blk_cell K_am_24.out 2).trans rfl
   have hc_am_3_24 : w_24.cell? ⟨g_am, 3, none⟩ = some (.int .i64 a1_3) := (blk_cell K_am_24.out 3).trans rfl
   have hc_am_4_24 : w_24.cell? ⟨g_am, 4, none⟩ = some (.slice A1_4 l1_4.length c1_4) := (blk_cell K_am_24.out 4).trans rfl
   have B_24 := Aside0.mk (below_step B_23.out hb)
   obtain ⟨A_te, c_te, rfl⟩ := Kd.S_slice ho_te
   have F_te_24 := N_te
   have U_te_24 : Aside0 (w_24.heap.size ≤ w_24.heap.size) := ⟨Nat.le_refl _⟩
   clear hb F_w0_23 U_w0_23 F_g0_23 U_g0_23 K_am_23 hc_am_0_23 hc_am_1_23 hc_am_2_23 hc_am_3_23 hc_am_4_23 B_23 N_te ho_te
   refine hK.out _ _ ⟨hc_am_0_24, hc_am_1_24, hc_am_2_24, hc_am_3_24, hc_am_4_24⟩ (fun hHeld => ?_)
   clear hK K
   refine nm_ ?_
   refine one_ (i := 3) (N := some 78) #[true, true, true, true, false, false] rfl rfl (by kernel_rfl) (by decide) (fun K hK => ?_)
   refine goes_ Try.func26 (by kernel_rfl) rfl #[.agg #[.int .i64 a1_0, .int .i64 a1_1, .int .i64 a1_2, .int .i64 a1_3, .slice A1_4 l1_4.length c1_4]] (by rfl) rfl rfl sm_ ?_
   refine (laws_toMaker.calls k a1_0 a1_1 a1_2 a1_3 A1_4 c1_4 l1_4 m0 m1 m2 m3 m4 _ (Kd.C_below HR1.out B_24.out) HC1.out Q4.out).mono ?_
   rintro e w_25 ⟨v_tf, rfl, ho_tf, hb⟩
   refine ⟨_, rfl, ?_⟩
   have D_w0_tf : Aside0 (w_7.heap.size ≤ w_24.heap.size) := ⟨U_w0_24.out⟩
   have D_g0_tf : Aside0 (w_11.heap.size ≤ w_24.heap.size) := ⟨U_g0_24.out⟩
   have D_te_tf : Aside0 (w_24.heap.size ≤ w_24.heap.size) := ⟨U_te_24.out⟩
   have E_tf_am : Aside0 (g_am < w_24.heap.size) := ⟨blk_lt K_am_24.out⟩
   have N_tf := Aside0.mk (Kd.R_lower (Kd.R_mono (Kd.R_bound ho_tf) (fun k_ h_ => (show w_24.heap.size ≤ k_ ∧ k_ < w_25.heap.size from ⟨h_.2.1, h_.2.2.1⟩))) B_24.out.size)
   have F_w0_25 := Aside0.mk (Kd.S_below F_w0_24.out hb)
   have U_w0_25 := Aside0.mk (Nat.le_trans U_w0_24.out (Below.size hb))
   have F_g0_25 := Aside0.mk (Kd.S_below F_g0_24.out hb)
   have U_g0_25 := Aside0.mk (Nat.le_trans U_g0_24.out (Below.size hb))
   have F_te_25 := Aside0.mk (Kd.S_below F_te_24.out hb)
   have U_te_25 := Aside0.mk (Nat.le_trans U_te_24.out (Below.size hb))
   have K_am_25 := Aside0.mk (blk_below K_am_24.out hb)
   have hc_am_0_25 : w_25.cell? ⟨g_am, 0, none⟩ = some (.int .i64 a1_0) := (blk_cell K_am_25.out 0).trans rfl
   have hc_am_1_25 : w_25.cell? ⟨g_am, 1, none⟩ = some (.int .i64 a1_1) := (blk_cell K_am_25.out 1).trans rfl
   have hc_am_2_25 : w_25.cell? ⟨g_am, 2, none⟩ = some (.int .i64 a1_2) := (blk_cell K_am_25.out 2).trans rfl
   have hc_am_3_25 : w_25.cell? ⟨g_am, 3, none⟩ = some (.int .i64 a1_3) := (blk_cell K_am_25.out 3).trans rfl
   have hc_am_4_25 : w_25.cell? ⟨g_am, 4, none⟩ = some (.slice A1_4 l1_4.length c1_4) := (blk_cell K_am_25.out 4).trans rfl
   have B_25 := Aside0.mk (below_step B_24.out hb)
   obtain ⟨A_tf, c_tf, rfl⟩ := Kd.R_slice ho_tf
   have F_tf_25 := N_tf
   have U_tf_25 : Aside0 (w_25.heap.size ≤ w_25.heap.size) := ⟨Nat.le_refl _⟩
   clear hb F_w0_24 U_w0_24 F_g0_24 U_g0_24 F_te_24 U_te_24 K_am_24 hc_am_0_24 hc_am_1_24 hc_am_2_24 hc_am_3_24 hc_am_4_24 B_24 N_tf ho_tf
   refine hK.out _ _ ⟨hc_am_0_25, hc_am_1_25, hc_am_2_25, hc_am_3_25, hc_am_4_25⟩ (fun hHeld => ?_)
   clear hK K
   refine nm_ ?_
   refine one_ (i := 4) (N := some 79) #[true, true, true, true, true, false] rfl rfl (by kernel_rfl) (by decide) (fun K hK => ?_)
   refine goes_ Try.func27 (by kernel_rfl) rfl #[.slice A_te x.length c_te, .agg #[.int .i64 m0, .int .i64 m1, .int .i64 m2, .int .i64 m3, .slice A_tf m4.length c_tf]] (by rfl) rfl rfl sm_ ?_
   refine (impl_MakerSet.calls k A_te c_te x m0 m1 m2 m3 A_tf c_tf m4 z _ (Kd.S_reads' F_te_25.out).2.2 (by have q_ := Kd.S_reads' F_te_25.out; omega) (Kd.R_reads' F_tf_25.out).2.2 (by have q_ := Kd.R_reads' F_tf_25.out; omega) Q6.out).mono ?_
   rintro e w_26 ⟨v_h0, rfl, ho_h0, hb⟩
   refine ⟨_, rfl, ?_⟩
   have D_w0_h0 : Aside0 (w_7.heap.size ≤ w_25.heap.size) := ⟨U_w0_25.out⟩
   have D_g0_h0 : Aside0 (w_11.heap.size ≤ w_25.heap.size) := ⟨U_g0_25.out⟩
   have D_te_h0 : Aside0 (w_24.heap.size ≤ w_25.heap.size) := ⟨U_te_25.out⟩
   have D_tf_h0 : Aside0 (w_25.heap.size ≤ w_25.heap.size) := ⟨U_tf_25.out⟩
   have E_h0_am : Aside0 (g_am < w_25.heap.size) := ⟨blk_lt K_am_25.out⟩
   have N_h0 := Aside0.mk (Kd.S_lower (Kd.S_mono (Kd.S_bound ho_h0) (fun k_ h_ => (show w_25.heap.size ≤ k_ ∧ k_ < w_26.heap.size from ⟨h_.2.1, h_.2.2.1⟩))) B_25.out.size)
   have F_w0_26 := Aside0.mk (Kd.S_below F_w0_25.out hb)
   have U_w0_26 := Aside0.mk (Nat.le_trans U_w0_25.out (Below.size hb))
   have F_g0_26 := Aside0.mk (Kd.S_below F_g0_25.out hb)
   have U_g0_26 := Aside0.mk (Nat.le_trans U_g0_25.out (Below.size hb))
   have F_te_26 := Aside0.mk (Kd.S_below F_te_25.out hb)
   have U_te_26 := Aside0.mk (Nat.le_trans U_te_25.out (Below.size hb))
   have F_tf_26 := Aside0.mk (Kd.R_below F_tf_25.out hb)
   have U_tf_26 := Aside0.mk (Nat.le_trans U_tf_25.out (Below.size hb))
   have K_am_26 := Aside0.mk (blk_below K_am_25.out hb)
   have hc_am_0_26 : w_26.cell? ⟨g_am, 0, none⟩ = some (.int .i64 a1_0) := (blk_cell K_am_26.out 0).trans rfl
   have hc_am_1_26 : w_26.cell? ⟨g_am, 1, none⟩ = some (.int .i64 a1_1) := (blk_cell K_am_26.out 1).trans rfl
   have hc_am_2_26 : w_26.cell? ⟨g_am, 2, none⟩ = some (.int .i64 a1_2) := (blk_cell K_am_26.out 2).trans rfl
   have hc_am_3_26 : w_26.cell? ⟨g_am, 3, none⟩ = some (.int .i64 a1_3) := (blk_cell K_am_26.out 3).trans rfl
   have hc_am_4_26 : w_26.cell? ⟨g_am, 4, none⟩ = some (.slice A1_4 l1_4.length c1_4) := (blk_cell K_am_26.out 4).trans rfl
   have B_26 := Aside0.mk (below_step B_25.out hb)
   obtain ⟨A_h0, c_h0, rfl⟩ := Kd.S_slice ho_h0
   have F_h0_26 := N_h0
   have U_h0_26 : Aside0 (w_26.heap.size ≤ w_26.heap.size) := ⟨Nat.le_refl _⟩
   clear hb F_w0_25 U_w0_25 F_g0_25 U_g0_25 F_te_25 U_te_25 F_tf_25 U_tf_25 K_am_25 hc_am_0_25 hc_am_1_25 hc_am_2_25 hc_am_3_25 hc_am_4_25 B_25 N_h0 ho_h0
   refine hK.out _ _ ⟨hc_am_0_26, hc_am_1_26, hc_am_2_26, hc_am_3_26, hc_am_4_26⟩ (fun hHeld => ?_)
   clear hK K
   refine nm_ ?_
   refine pure_ (i := 5) (N := some 13) (v := ?_) (a' := ?_) #[true, true, true, true, true, true] rfl rfl (by kernel_rfl) (fun _ _ _ h => h) (Or.inl ⟨by rfl, ?_⟩) ?_ ?_; rotate_left; (focus intro w'; go_simp; with_reducible rfl); rotate_left; (focus simp only [Act.put, List.setIfInBounds_toArray, List.set_cons_zero, List.set_cons_succ, i64_w, i32_w]; rfl)
   refine done_ (by kernel_rfl) ?_
   go_wp2_with (first | (go_at_call 20; refine (laws_eqMakerS.calls k A_h0 c_h0 z A_w0 c_w0 y true _ (Kd.S_reads' F_h0_26.out).2.2 (by have q_ := Kd.S_reads' F_h0_26.out; omega) (Kd.S_reads' F_w0_26.out).2.2 (by have q_ := Kd.S_reads' F_w0_26.out; omega) Q7.out).mono ?_; rintro e w_27 ⟨rfl, hb⟩; have F_w0_27 := Aside0.mk (Kd.S_below F_w0_26.out hb); have U_w0_27 := Aside0.mk (Nat.le_trans U_w0_26.out (Below.size hb)); have F_g0_27 := Aside0.mk (Kd.S_below F_g0_26.out hb); have U_g0_27 := Aside0.mk (Nat.le_trans U_g0_26.out (Below.size hb)); have F_h0_27 := Aside0.mk (Kd.S_below F_h0_26.out hb); have U_h0_27 := Aside0.mk (Nat.le_trans U_h0_26.out (Below.size hb)); have K_am_27 := Aside0.mk (blk_below K_am_26.out hb); have hc_am_0_27 : w_27.cell? ⟨g_am, 0, none⟩ = some (.int .i64 a1_0) := (blk_cell K_am_27.out 0).trans rfl; have hc_am_1_27 : w_27.cell? ⟨g_am, 1, none⟩ = some (.int .i64 a1_1) := (blk_cell K_am_27.out 1).trans rfl; have hc_am_2_27 : w_27.cell? ⟨g_am, 2, none⟩ = some (.int .i64 a1_2) := (blk_cell K_am_27.out 2).trans rfl; have hc_am_3_27 : w_27.cell? ⟨g_am, 3, none⟩ = some (.int .i64 a1_3) := (blk_cell K_am_27.out 3).trans rfl; have hc_am_4_27 : w_27.cell? ⟨g_am, 4, none⟩ = some (.slice A1_4 l1_4.length c1_4) := (blk_cell K_am_27.out 4).trans rfl; have B_27 := Aside0.mk (below_step B_26.out hb); clear hb  F_w0_26 U_w0_26 F_g0_26 U_g0_26 F_h0_26 U_h0_26 K_am_26 hc_am_0_26 hc_am_1_26 hc_am_2_26 hc_am_3_26 hc_am_4_26 B_26) | (go_at_call 28; refine (calls_of_args (args' := #[.slice A_g0 z2.length c_g0, .int .i64 1]) (by rw [show z.length = z2.length from (Kd.S_reads' F_g0_27.out).1]) (laws_heldMakerS.calls k A_g0 c_g0 z2 1 q _ ((Kd.S_reads' F_g0_27.out).1 ▸ (Kd.S_reads' F_g0_27.out).2.2) (by have q_ := Kd.S_reads' F_g0_27.out; omega) Q13.out)).mono ?_; rintro e w_28 ⟨rfl, hd⟩; have hb : Below w_27.heap.size w_27 w_28 := (by obtain ⟨m_, hm_⟩ := hd.out; rw [hm_]; exact pw_below_drewN (Below.refl _ _) m_); have F_g0_28 := Aside0.mk (Kd.S_below F_g0_27.out hb); have U_g0_28 := Aside0.mk (Nat.le_trans U_g0_27.out (Below.size hb)); have K_am_28 := Aside0.mk (blk_below K_am_27.out hb); have hc_am_0_28 : w_28.cell? ⟨g_am, 0, none⟩ = some (.int .i64 a1_0) := (blk_cell K_am_28.out 0).trans rfl; have hc_am_1_28 : w_28.cell? ⟨g_am, 1, none⟩ = some (.int .i64 a1_1) := (blk_cell K_am_28.out 1).trans rfl; have hc_am_2_28 : w_28.cell? ⟨g_am, 2, none⟩ = some (.int .i64 a1_2) := (blk_cell K_am_28.out 2).trans rfl; have hc_am_3_28 : w_28.cell? ⟨g_am, 3, none⟩ = some (.int .i64 a1_3) := (blk_cell K_am_28.out 3).trans rfl; have hc_am_4_28 : w_28.cell? ⟨g_am, 4, none⟩ = some (.slice A1_4 l1_4.length c1_4) := (blk_cell K_am_28.out 4).trans rfl; have B_28 := Aside0.mk (below_step B_27.out hb); clear hb hd F_g0_27 U_g0_27 K_am_27 hc_am_0_27 hc_am_1_27 hc_am_2_27 hc_am_3_27 hc_am_4_27 B_27))
   go_ret
   exact ⟨rfl, B_28.out⟩
end Go.Proofs.Ythmjhhkheohgfaa.Q
